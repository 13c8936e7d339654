/- The layer of own lemmas and contracts, part 8. -/
import Derived.Test.YtpghcedmmpcfeaaGreatDoorS7
import Derived.Test.YtpghcedmmpcfeaaGreatDoorS3
set_option linter.unusedVariables false
set_option linter.unusedSimpArgs false
namespace Go.Ide
open Go.Proofs Go.RowKit
set_option maxRecDepth 20000
def WT:Value->Value->Bool
 | .int .i64 a,.int .i64 b=>a==b
 | .string a,.string b=>a.data.toList==b.data.toList
 | .bool a,.bool b=>a==b
 | .slice none 0 0,.slice none 0 0=>true
 |_,_=>false
theorem pG {a b:Value}(h:WT a b=true):a=b:=by
 unfold WT at h;split at h
 ·rw[eq_of_beq h]
 ·rename_i a b
  have:=eq_of_beq h
  congr 1
  exact ByteArray.ext (Array.toList_inj.1 this)
 ·rw[eq_of_beq h]
 ·rfl
 ·cases h
def L5 (f:D->D->Bool):List D->List D->Bool
 | [],[]=>true
 |a::l,b::m=>f a b&&L5 f l m
 |_,_=>false
theorem SM {f:D->D->Bool}(hf:∀a b,f a b=true->a=b):∀ {l m:List D},L5 f l m=true->l=m
 | [],[],_=>rfl
 |a::l,b::m,h=>by
  simp only[L5,BU]at h;rw[hf a b h.1,SM hf h.2]
 | [],_::_,h=>by simp[L5]at h
 |_::_,[],h=>by simp[L5]at h
def Oh:Nat->D->D->Bool
 | 0,_,_=>false
 |n+1,a,b=>match a,b with
  | .prim a,.prim b=>WT a b
  | .agg l,.agg m=>L5 (Oh n) l m
  | .sl x y l,.sl x' y' m=>(x==x')&&Nat.beq y y'&&L5 (Oh n) l m
  |_,_=>false
theorem Vi:∀(n:Nat) (a b:D),Oh n a b=true->a=b
 | 0,_,_,h=>by simp[Oh]at h
 |n+1,a,b,h=>by
  unfold Oh at h;split at h
  ·rw[pG h]
  ·rw[SM (Vi n) h]
  ·simp only[BU]at h
   rw[eq_of_beq h.1.1,CH h.1.2,SM (Vi n) h.2]
  ·cases h
def dig:Nat->Nat->List UInt8
 | 0,_=>[]
 |k+1,u=>match Nat.blt u 10 with
  |true=>[UInt8.ofNat (48+u)]
  |false=>dig k (u/10)++[UInt8.ofNat (48+u%10)]
def Tf (t:Nat)(name:String):Option Nat:=match Nat.beq t 124 with
 |true=>match decide (name = "Cmp")with
  |true=>some 196
  |false=>none
 |false=>none
theorem gR (t:Nat)(name:String)(f:Nat)(h:Tf t name=some f)(v:Value)(w:World):(method (C0.P.types.size+Made.depth) t v name).run C0.P w=.ok (f,v) w:=by
 unfold Tf at h;split at h<;>try(cases h;done)
 rename_i ht;split at h<;>try(cases h;done)
 rename_i hn;obtain rfl:=CH ht;obtain rfl:=DN hn;cases h
 kernel_rfl
def e1g:A7:=⟨.arr 256 1 false,256,256,true,.agg (Array.replicate 256 (.bool false))⟩
noncomputable def Ql (t:Nat):Option A7:=match Nat.beq t 296 with
 |true=>some e1g
 |false=>Qj.get t
theorem XF:C4 C0.P Ql:=λt i h=>by
 unfold Ql at h;split at h
 ·rename_i ht
  obtain rfl:=CH ht;cases h
  kernel_rfl
 ·exact kQ t i h
set_option maxHeartbeats 2000000
def Bo (c:UInt8):Bool:=Nat.ble 48 c.toNat&&Nat.ble c.toNat 57
def IB:D:=.agg ((List.range 256).map λi=>Ap (Nat.ble 48 i&&Nat.ble i 57))
abbrev Tl:List UInt8:=[48,49,50,51,52,53,54,55,56,57]
noncomputable def X4:EV:=⟨Ql,NI.get,Oi.get,λ_=>false,λ_ _=>none,λ_ _=>none,Lv⟩
theorem W0:Fj C0 X4:=⟨XF,Sz,K0,λ_ _ _ h=>by simp[X4]at h,by kernel_rfl,λ_ _ _ h=>by simp[X4]at h,Ry⟩
theorem w4:Dj C0 X4:=W0.w
theorem ma:AL C0 270 [str (sb Tl)] (.tup [IB,Ap true]):=QT W0 1000 40 (by kernel_rfl)
def XB (o:Option D)(b:Bool):Bool:=match o with
 |some (.prim (.bool c))=>c==b
 |_=>false
theorem oD {o:Option D}{b:Bool}(h:XB o b=true):o=some (Ap b):=by
 unfold XB at h;split at h
 ·rw[Ek]at h;subst h;rfl
 ·cases h
theorem kh:((List.range 256).all λc=>XB ((Gm X4 1000 40).1 279 [.pptr IB,.prim (.int .u8 (c:Nat))]) (Nat.ble 48 c&&Nat.ble c 57))=true:=by kernel_rfl
theorem Xn (c:UInt8):AL C0 279 [.pptr IB,.prim (.int .u8 (c.toNat:Nat))] (Ap (Bo c)):=by
 refine QT W0 1000 40 ?_;have h:=CY.1 kh c.toNat (List.mem_range.2 c.toNat_lt);exact oD h
instance:AX IB:=⟨λc hc=>by
 change c∈(List.range 256).map (λi=>Ap (Nat.ble 48 i&&Nat.ble i 57))at hc;obtain⟨i,_,rfl⟩:=By.1 hc;exact .prim _⟩
def G7 (l:List UInt8):List UInt8:=(l.reverse.dropWhile Bo).reverse
theorem mH (m:List UInt8)(c:UInt8):G7 (m++[c])=if Bo c then G7 m else m++[c]:=by
 unfold G7;rw[List.reverse_append,List.reverse_singleton,List.singleton_append,Oc];split
 ·rfl
 ·rw[List.reverse_cons,List.reverse_reverse]
theorem qu (l:List UInt8):((G7 l).dropWhile Bo=[])↔l.all Bo=true:=by
 constructor
 ·intro h
  have h1:∀m:List UInt8,m.dropWhile Bo=[]->m.all Bo=true:=λm=>by
   induction m with
   |nil=>intro _;rfl
   |cons c m ih=>
    intro hm;rw[Oc]at hm;split at hm
    ·rename_i hc
     rw[GS,hc,ih hm];rfl
    ·cases hm
  have h2:(l.reverse.dropWhile Bo).all Bo=true:=by
   have:=h1 _ h
   unfold G7 at this
   rwa [List.all_reverse]at this
  have h3:∀m:List UInt8,(m.dropWhile Bo).all Bo=true->m.all Bo=true:=λm=>by
   induction m with
   |nil=>intro _;rfl
   |cons c m ih=>
    intro hm;rw[Oc]at hm;split at hm
    ·rename_i hc
     rw[GS,hc,ih hm];rfl
    ·exact hm
  have:=h3 _ h2
  rwa [List.all_reverse]at this
 ·intro h
  have h1:∀m:List UInt8,m.all Bo=true->m.dropWhile Bo=[]:=λm=>by
   induction m with
   |nil=>intro _;rfl
   |cons c m ih=>
    intro hm;rw[GS,BU]at hm;rw[Oc,AI hm.1];exact ih hm.2
  have hx:=h1 l.reverse (by rw[List.all_reverse];exact h);unfold G7;rw[hx];rfl
theorem lX (l:List UInt8)(hl:l.length<=1000000000):AL C0 271 [str (sb l),.pptr IB] (str (sb (l.dropWhile Bo))):=by
 refine Ad.walk w1 eI rfl λF=>?_
 have hps:AX IB:=AJ;have hcc:=Xn;generalize IB=sd at*;refine sR 0 ?_;refine AC.seq ?_;refine AC.block ?_;refine AC.loop (α:=List UInt8×Nat) (λp=>⟨[(0,str (sb p.1)),(1,.pptr sd)],[],p.2⟩) (λp=>p.1.length) (λp=>p.1.dropWhile Bo=l.dropWhile Bo/\p.1.length<=l.length) (l,_) ⟨rfl,An _⟩ AK ?_;rintro⟨m,n⟩ F ⟨h1,h2⟩;dsimp only at h1 h2⊢;refine AC.seq ?_;refine AC.seq ?_;cases m with
 |nil=>
  have e1:decide (((sb []).size:Int)>0)=false:=rfl;refine Kp w1 100 (by kernel_rfl) ?_;refine AV e1 ?_;refine AO ?_;refine CO ?_;refine sR 400 ?_;refine Ag ?_;exact AM (by rw[<-h1];rfl) AA.out
 |cons c m=>
  have hsz:=Cx (c::m);have e1:decide (((sb (c::m)).size:Int)>0)=true:=Ax (by rw[hsz,Br];omega);have hx:(((sb (c::m)).data.toList.getD ((0:Int)).toNat 0).toNat:Int)=(c.toNat:Int):=rfl;have b1:(0:Int)<((sb (c::m)).size:Int):=by rw[hsz,Br];omega
  have b2:(1:Int)<=((sb (c::m)).size:Int):=by omega
  have e3:(sb (c::m)).extract ((1:Int)).toNat (sb (c::m)).size=sb m:=by
   rw[Ff,hsz,Cp (An _)];rfl
  have cc:=hcc c;refine Kp w1 100 (by kernel_rfl) ?_;refine AV e1 ?_;refine AO ?_;refine Am ?_;refine AC.block ?_;refine AC.seq ?_;refine sZ 200 ?_;refine AV hx ?_;refine cI cc ?_;rcases hb:Bo c with _|_
  ·refine AO ?_
   refine CO ?_;refine sR 400 ?_;refine Ag ?_;refine AM ?_ AA.out;rw[<-h1,Oc,AG (by rw[hb];simp)]
  ·refine AO ?_
   refine Am ?_;refine Kp w1 300 (by kernel_rfl) ?_;refine AV e3 ?_;refine⟨(m,_),⟨?_,?_⟩,?_,AK⟩
   ·rw[<-h1,Oc,AI hb]
   ·rw[Br]at h2;dsimp only;omega
   ·show m.length<m.length+1;omega
theorem kr (l:List UInt8)(hl:l.length<=1000000000):AL C0 272 [str (sb l),.pptr IB] (str (sb (G7 l))):=by
 refine Ad.walk w1 eJ rfl λF=>?_
 have hps:AX IB:=AJ;have hcc:=Xn;generalize IB=sd at*;refine sR 0 ?_;refine AC.seq ?_;refine AC.block ?_;refine AC.loop (α:=List UInt8×Nat) (λp=>⟨[(0,str (sb p.1)),(1,.pptr sd)],[],p.2⟩) (λp=>p.1.length) (λp=>G7 p.1=G7 l/\p.1.length<=l.length) (l,_) ⟨rfl,An _⟩ AK ?_;rintro⟨m,n⟩ F ⟨h1,h2⟩;dsimp only at h1 h2⊢;refine AC.seq ?_;refine AC.seq ?_;rcases TY m with rfl|⟨m,c,rfl⟩
 ·have e1:decide (((sb []).size:Int)>0)=false:=rfl
  refine Kp w1 100 (by kernel_rfl) ?_;refine AV e1 ?_;refine AO ?_;refine CO ?_;refine sR 400 ?_;refine Ag ?_;exact AM (by rw[<-h1];rfl) AA.out
 ·rw[TX]at h1 h2⊢
  have hsz:=Cx (m++[c]);rw[Be,HN]at hsz h2;have e1:decide (((sb (m++[c])).size:Int)>0)=true:=Ax (by rw[hsz];omega);have wk1:IntKind.i64.wrap (((sb (m++[c])).size:Int)-1)=(m.length:Int):=by rw[hsz,wI];omega
  have hx:(((sb (m++[c])).data.toList.getD (((m.length:Nat):Int)).toNat 0).toNat:Int)=(c.toNat:Int):=by
   show(((m++[c]).getD m.length 0).toNat:Int)=_;simp
  have b1:((m.length:Nat):Int)<((sb (m++[c])).size:Int):=by rw[hsz];omega
  have e3:(sb (m++[c])).extract 0 (((m.length:Nat):Int)).toNat=sb m:=by
   rw[Ff];simp
  have cc:=hcc c;have ht:=mH m c;refine Kp w1 100 (by kernel_rfl) ?_;refine AV e1 ?_;refine AO ?_;refine Am ?_;refine AC.block ?_;refine AC.seq ?_;refine sZ 200 ?_;refine AV (Ab wk1 hx) ?_;refine cI cc ?_;rcases hb:Bo c with _|_
  ·rw[AG (by rw[hb];simp)]at ht
   refine AO ?_;refine CO ?_;refine sR 400 ?_;refine Ag ?_;exact AM (by rw[<-h1,ht]) AA.out
  ·rw[AI hb]at ht
   refine AO ?_;refine Am ?_;refine Kp w1 300 (by kernel_rfl) ?_;refine AV (Ab wk1 e3) ?_;refine⟨(m,_),⟨by rw[<-h1,ht],by dsimp only;omega⟩,?_,AK⟩;dsimp only;rw[Be,HN];omega
namespace TrimW
theorem w1:Dj C0 X4:=w4
theorem trim_ok (l:List UInt8)(hl:l.length<=1000000000):AL C0 256 [str (sb l),str (sb Tl)] (str (sb ((G7 l).dropWhile Bo))):=by
 refine Ad.walk w1 eH rfl λF=>?_
 have cm:=ma;have c1:=kr l hl;have hlr:(G7 l).length<=1000000000:=by
  unfold G7;rw[List.length_reverse];exact BV (List.dropWhile_sublist _).length_le (by rw[List.length_reverse];exact hl)
 have c2:=lX (G7 l) hlr;have hps:AX IB:=AJ;have eS:=E8 l [];have e2:(((sb Tl).size:Int)==1)=false:=rfl;have e4:BI (sb Tl) (sb [])=false:=by rw[E8];exact A8 (by simp)
 have hfit:Eh true 256 IB:=by
  have h:((List.range 256).map λi=>Ap (Nat.ble 48 i&&Nat.ble i 57)).length=256:=by rw[Ae,List.length_range]
  have:=Eh.agg (ds:=(List.range 256).map λi=>Ap (Nat.ble 48 i&&Nat.ble i 57))
  rw[h]at this;exact this
 refine sR 0 ?_
 by_cases h0:l=[]
 ·subst h0
  have eS':BI (sb []) (sb [])=true:=by rw[E8];exact Ax rfl
  refine AC.seq ?_;refine sZ 100 ?_;refine AV eS' ?_;refine AF (Ab eS' kT) ?_;refine AO ?_;refine sR 200 ?_;refine Ag ?_;exact AM rfl AA.out
 ·rw[A8 h0]at eS
  refine AC.seq ?_;refine sZ 100 ?_;refine AV eS ?_;refine AF (Ar eS e4 kF) ?_;refine AF (Ar eS e4 kF) ?_;refine AO ?_;refine Am ?_;refine AC.seq ?_;refine sZ 300 ?_;refine AV e2 ?_;refine AF e2 ?_;refine AF e2 ?_;refine AO ?_;refine Am ?_;refine AC.seq ?_;refine sR 500 ?_;refine BE.same _ cm AJ ?_;refine BM ?_;generalize IB=sd at*
  repeat(refine Eb rfl rfl ?_;refine I5 (λ_ _=>rfl) ?_)
  refine PF (BK (by repeat'(first|exact hfit|refine BK ?_ ?_|exact CL)) ?_);refine BM ?_;refine sR 600 ?_;refine AO ?_;refine sR 700 ?_;refine BE.own _ (Ly c1 rfl ?_ AJ (Kh.prim _)) ?_
  ·intro i x y hx hy
   match i with
   | 0=>simp at hx hy;subst hx;subst hy;exact Dx.refl _ _
   | 1=>simp at hx hy;subst hx;subst hy;exact Dx.ptr rfl rfl rfl rfl
   |i+2=>simp at hx
  rintro d H' n' ⟨rfl,rfl,rfl⟩;refine BR ?_;refine BE.own _ (Ly c2 rfl ?_ AJ (Kh.prim _)) ?_
  ·intro i x y hx hy
   match i with
   | 0=>simp at hx hy;subst hx;subst hy;exact Dx.refl _ _
   | 1=>simp at hx hy;subst hx;subst hy;exact Dx.ptr rfl rfl rfl rfl
   |i+2=>simp at hx
  rintro d H' n' ⟨rfl,rfl,rfl⟩;refine BR ?_;refine Ag ?_;exact AM rfl AA.out
end TrimW
def Hd (a:Nat)(l:List UInt8):Nat:=l.foldl (λa c=>a*10+(c.toNat-48)) a
def dv (l:List UInt8):Nat:=Hd 0 l
theorem cZ (l:List UInt8):∀a,Hd a l=a*10^l.length+dv l:=by
 induction l with
 |nil=>intro a;simp[Hd,dv]
 |cons c l ih=>
  intro a;have h1:∀b,Hd b (c::l)=Hd (b*10+(c.toNat-48)) l:=λb=>rfl
  have h2:dv (c::l)=Hd (0*10+(c.toNat-48)) l:=rfl;rw[h1,h2,ih,ih (0*10+(c.toNat-48)),Br,CW];rw[B0,Hl,BW,B6,Ba 10];omega
theorem O4 (l m:List UInt8):dv (l++m)=dv l*10^m.length+dv m:=by
 have:dv (l++m)=Hd (dv l) m:=by unfold dv Hd;rw[List.foldl_append]
 rw[this,cZ]
theorem kz (l:List UInt8):∀a,l.all Bo=true->Lib.decFrom a l=some (Hd a l):=by
 induction l with
 |nil=>intro a _;rfl
 |cons c l ih=>
  intro a h;rw[GS,BU]at h;have hd:Lib.digitVal c=some (c.toNat-48):=by
   have h1:=h.1;unfold Bo at h1;rw[BU]at h1;unfold Lib.digitVal;rw[AI ⟨Dw h1.1,Dw h1.2⟩]
  rw[Lib.decFrom,hd];exact ih _ h.2
theorem ME {c:UInt8}(h:Bo c=true):48<=c.toNat/\c.toNat<=57:=by
 unfold Bo at h;rw[BU]at h;exact⟨Dw h.1,Dw h.2⟩
theorem pd {l:List UInt8}(h0:l≠[])(h:l.all Bo=true):Lib.atoi l=some (dv l:Int):=by
 cases l with
 |nil=>exact Ak rfl h0
 |cons c l=>
  have hc:Bo c=true:=by rw[GS,BU]at h;exact h.1
  obtain⟨c1,c2⟩:=ME hc;have e1:(c==45)=false:=by
   rw[B4];intro hh;subst hh;simp at c1
  have e2:(c==43)=false:=by
   rw[B4];intro hh;subst hh;simp at c1
  unfold Lib.atoi;dsimp only;rw[e1,e2];simp only[Ip,if_false];unfold Lib.decNat;simp only[List.isEmpty_cons,Ip,if_false];rw[kz _ _ h];rfl
theorem G1 (l:List UInt8)(h:l.all Bo=true):dv l<10^l.length:=by
 induction l with
 |nil=>decide
 |cons c l ih=>
  rw[GS,BU]at h;have h1:dv (c::l)=Hd (0*10+(c.toNat-48)) l:=rfl;have h2:=ih h.2;obtain⟨c1,c2⟩:=ME h.1;rw[h1,cZ,Hl,BW,Br,CW,Ba _ 10];have h3:(c.toNat-48)*10^l.length<=9*10^l.length:=CV _ (by omega);omega
def XC (o:Option D)(z:Int):Bool:=match o with
 |some (.agg [.prim (.int .i64 a),.prim (.slice none 0 0)])=>a==z
 |_=>false
theorem oO {o:Option D}{z:Int}(h:XC o z=true):o=some (DM z):=by
 unfold XC at h;split at h
 ·rw[Ek]at h;subst h;rfl
 ·cases h
theorem sM:((List.range 19).all λk=>XC ((Gm X1 1000 60).1 166 [DM 10,i64 (k:Nat)]) ((10^k:Nat):Int))=true:=by kernel_rfl
theorem yc (k:Nat)(h:k<19):AL C0 166 [DM 10,i64 k] (DM ((10^k:Nat):Int)):=by
 refine QT D5 1000 60 ?_;exact oO (CY.1 sM k (List.mem_range.2 h))
theorem Wv {n:Nat}(h:n<9223372036854775808):DM (n:Int)=(AY (n:Int)).D:=by
 rw[KQ ⟨by omega,by omega⟩];rfl
theorem e0f (a b:Nat)(ha:(Af a).length<1000000)(hb:(Af b).length<1000000):AL C0 123 [(AY (a:Int)).D,(AY (b:Int)).D] (AY ((a+b:Nat):Int)).D:=by
 have:=Pt (AY (a:Int)) (AY (b:Int)) (Cy _) (Cy _) (I8 ha) (I8 hb)
 have e:Ei (AY (a:Int)) (AY (b:Int))=AY ((a+b:Nat):Int):=by
  have h1:=Nu (AY (a:Int)) (AY (b:Int));rw[EK,EK]at h1;rw[Pu (Nd _ _) (by rw[h1];omega),h1]
  congr 1
 rw[e]at this;exact this
theorem NN {n k:Nat}(h:n<10^k):(Af n).length<=k:=Hn (Cq h (Oe (by decide) k))
def rv (l:List UInt8):Int:=if Do l then -(dv (Bw l):Int)else dv (Bw l)
theorem sN (k:Nat)(h:k<19):AL C0 166 [DM 10,i64 k] (AY ((10^k:Nat):Int)).D:=by
 have:=yc k h
 have h2:10^k<9223372036854775808:=Da (FT (by decide) (show k<=18 by omega)) (by decide)
 rwa [Wv h2]at this
theorem xv (n:Nat)(h:n<9223372036854775808):AL C0 122 [i64 n] (AY (n:Int)).D:=by
 have:=P0 (n:Int)
 rwa [Wv h]at this
theorem R2 (l:List UInt8)(hd:(Bw l).all Bo=true)(hl:l.length<=100000):AL C0 119 [str (sb l)] (AY (rv l)).D:=by
 refine Ad.walk w1 dL rfl λF=>?_
 have c1:=kw l (by omega);have c2:=Tp l (by omega);have hml:(Bw l).length<=100000:=by
  unfold Bw;split
  ·rw[D3];omega
  ·exact hl
 unfold rv;generalize hm0:Bw l=m0 at*;generalize Do l=ng at*;generalize sb l=sl at*;have ez:DM 0=(AY ((0:Nat):Int)).D:=Wv (by decide);have hpm:∀n:Nat,AA (AY (n:Int)).w:=λn=>AJ
 refine sR 0 ?_;refine sR 100 ?_;refine cI c1 ?_;refine sR 200 ?_;refine cI c2 ?_;refine sR 300 ?_;refine DL (α:=Nat) (λn=>⟨[(2,.optr 0 0 2 0 0),(3,Ap ng),(4,.optr 301 8 2 0 0)],[⟨301,8,122,2,[(AY (dv m0:Int)).D]⟩,⟨0,0,122,2,[DM 0]⟩],n⟩) (λ_=>True) ?_ ?_
 ·refine AC.block ?_
  refine Gi (α:=List UInt8×Nat×Nat) (λp=>⟨[(0,str (sb p.1)),(2,.optr 0 0 2 0 0),(3,Ap ng),(4,.optr 301 8 2 0 0)],[⟨301,8,122,2,[(AY (p.2.1:Int)).D]⟩,⟨0,0,122,2,[DM 0]⟩],p.2.2⟩) (λp=>p.1.length)
   (λp F'=>F'=F/\p.1.all Bo=true/\p.1.length<=m0.length/\p.2.1<10^(m0.length-p.1.length)/\dv m0=p.2.1*10^p.1.length+dv p.1) (m0,0,20) ⟨rfl,hd,An _,by simp,by simp⟩ (by rw[<-ez];exact AK) ?_
  rintro⟨m,A,n⟩ F' ⟨rfl,h1,h2,h3,h4⟩;dsimp only at h1 h2 h3 h4⊢;refine AC.seq ?_;refine AC.seq ?_
  by_cases hm:m=[]
  ·subst hm
   have e1:decide (((sb []).size:Int)>0)=false:=rfl;have hA:dv m0=A:=by simpa[dv,Hd]using h4
   rw[hA];refine Aq 400 ?_;refine AV e1 ?_;refine AO ?_;refine CO ?_;exact⟨rfl,_,trivial,AK⟩
  ·have hm1:0<m.length:=List.length_pos_iff.2 hm
   have hsz:=Cx m;obtain⟨k,hk⟩:∃k,k=min 18 m.length:=⟨_,rfl⟩
   have e1:decide (((sb m).size:Int)>0)=true:=Ax (by rw[hsz];omega);have ek:min (18:Int) ((sb m).size:Int)=(k:Int):=by rw[hsz];omega
   have b1:(k:Int)<=((sb m).size:Int):=by rw[hsz];omega
   have e22:(sb m).extract 0 ((k:Int)).toNat=sb (m.take k):=by rw[Ff];rfl
   have e36:(sb m).extract ((k:Int)).toNat (sb m).size=sb (m.drop k):=by
    rw[Ff,hsz,Cp (An _)];rfl
   have htk:(m.take k).all Bo=true:=CY.2 λc hc=>CY.1 h1 c (E3 hc)
   have hdk:(m.drop k).all Bo=true:=CY.2 λc hc=>CY.1 h1 c (Kv hc)
   have hlk:(m.take k).length=k:=by rw[Bd];omega
   have hv:=G1 _ htk;rw[hlk]at hv;have h18:10^k<=10^18:=FT (by decide) (by omega);have ca:=r8 (sb (m.take k)) (dv (m.take k):Int) (by rw[Cx,hlk];omega) (pd (by intro h;change m.take k=[]at h;rw[h]at hlk;simp at hlk;omega) htk);have hval:dv m=dv (m.take k)*10^(m.drop k).length+dv (m.drop k):=by
    conv=>lhs;rw[<-FB k m]
    exact O4 _ _
   generalize dv (m.take k)=v at*;have hAl:(Af A).length<=100000:=BV (NN h3) (by omega);have h10:(Af (10^k)).length<=19:=NN (k:=19) (Nat.pow_lt_pow_right (by decide) (by omega));have hmul:=MM A (10^k);have cp:=sN k (by omega);have c3:=W5 A (10^k) (by omega) (by omega);have cv:=xv v (by omega);have hvl:(Af v).length<=19:=NN (k:=19) (Cq hv (FT (by decide) (by omega)));have c4:=e0f (A*10^k) v (by omega) (by omega);refine Aq 400 ?_;refine AV e1 ?_;refine AO ?_;refine Am ?_;refine AC.block ?_;refine sZ 500 ?_;refine AV ek ?_;refine sZ 600 ?_;refine AV e22 ?_;refine cI ca ?_;refine AC.seq ?_;refine CR 700 [0,1,2,3,4,5] [6,7,8] ?_;refine BR ?_;refine Bf.same _ (P0 10) AJ ?_;refine BR ?_;refine Bf.same _ (cp) AJ ?_;refine BR ?_;refine Bf.same _ (c3) AJ ?_;refine BR ?_;refine cI cv ?_;refine cI c4 ?_;refine Aq 800 ?_;refine AV e36 ?_;refine⟨(m.drop k,A*10^k+v,_),⟨trivial,hdk,?_,?_,?_⟩,?_,AK⟩
   ·dsimp only;rw[D3];omega
   ·dsimp only
    rw[D3,show m0.length-(m.length-k)=(m0.length-m.length)+k by omega,Gl];have h5:(A+1)*10^k<=10^(m0.length-m.length)*10^k:=CV _ h3;rw[B0]at h5;omega
   ·dsimp only
    rw[h4,hval,D3];have h6:10^m.length=10^k*10^(m.length-k):=by rw[<-Gl];congr 1;omega
    rw[h6,B0,B6];omega
   ·dsimp only;rw[D3];omega
 rintro n -;have hAl:(Af (dv m0)).length<=100000:=BV (NN (G1 _ hd)) hml;have cn:=Pz (AY (dv m0:Int)) (Cy _) (I8 (by omega));rw[EK]at cn;have hpn:AA (AY (-(dv m0:Int))).w:=AJ;refine AC.seq ?_;refine sR 900 ?_;cases ng with
 |true=>
  rw[AI rfl];refine AO ?_;refine sR 1000 ?_;refine cI cn ?_;refine Ag ?_;exact AM rfl AA.out
 |false=>
  rw[AG (by simp)];refine AO ?_;refine Am ?_;refine sR 1100 ?_;refine Ag ?_;exact AM rfl AA.out
def Lg (l:List UInt8):Bool:=!decide (l=[])&&l.all Bo
def DS (l:List UInt8):Bool:=Lg l&&(decide (l=[48]) || !decide (l.head? = some 48))
def CE (l:List UInt8):List UInt8:=l.take (BL l)
def Bg (l:List UInt8):List UInt8:=l.drop (BL l+1)
def DD (l:List UInt8):Bool:=decide (BL l<l.length)
def CG (l:List UInt8):List UInt8:=Bw (CE l)
def KN (l:List UInt8):Bool:=!DS (CG l)||decide (CE l=[45,48])||(DD l&&(!DS (Bg l)||decide (Bg l=[48])||decide (Bg l=[49])))
def Cj (l:List UInt8):Nat:=if KN l then 1 else if 600<(CG l).length\/600<(Bg l).length then 4
 else if DD l=true/\Nat.gcd (dv (CG l)) (dv (Bg l))≠1 then 1 else 0
theorem LB {l:List UInt8}(h:DS l=true):l≠[]/\l.all Bo=true:=by
 unfold DS Lg at h;rw[BU,BU]at h;exact⟨by have:=h.1.1;simpa using this,h.1.2⟩
theorem T9 {l:List UInt8}(h:l.all Bo=true):Do l=false:=by
 cases l with
 |nil=>rfl
 |cons c l=>
  rw[GS,BU]at h;obtain⟨c1,c2⟩:=ME h.1;show(c==45)=false;rw[B4];intro hh;subst hh;simp at c1
theorem K9 {l:List UInt8}(h:l.all Bo=true):Bw l=l:=by unfold Bw;rw[T9 h];rfl
theorem N0 {l:List UInt8}(h:l.all Bo=true):rv l=(dv l:Int):=by
 unfold rv;rw[T9 h,K9 h];rfl
theorem mi (l:List UInt8)(hl:l.length<=1000000000):AL C0 232 [str (sb l)] (Ap (Lg l)):=by
 refine Ad.walk w1 eC rfl λF=>?_
 have ct:=TrimW.trim_ok l hl;have eS:=E8 l [];have eT:=E8 ((G7 l).dropWhile Bo) [];have hall:decide ((G7 l).dropWhile Bo=[])=l.all Bo:=by
  rw[Fs,decide_eq_true_iff];exact qu l
 rw[hall]at eT;unfold Lg;rw[<-eS];generalize hb:BI (sb l) (sb [])=b at*;refine sR 0 ?_;refine AC.seq ?_;cases b with
 |true=>
  have e1:(!BI (sb l) (sb []))=false:=by rw[hb];rfl
  refine Aq 100 ?_;refine AV e1 ?_;refine AF e1 ?_;refine Ag ?_;exact AM rfl AA.out
 |false=>
  have e1:(!BI (sb l) (sb []))=true:=by rw[hb];rfl
  refine Aq 100 ?_;refine AV e1 ?_;refine AF e1 ?_;refine On e1 ?_;refine BE.same _ ct AJ ?_;refine AF (Ab e1 eT) ?_;refine Ag ?_;exact AM rfl AA.out
theorem aE (l:List UInt8)(hl:l.length<=1000000000):AL C0 194 [str (sb l)] (Ap (DS l)):=by
 refine Ad.walk w1 dh rfl λF=>?_
 have cd:=mi l hl;have e0:=E8 l [48];unfold DS;refine sR 0 ?_;refine sR 100 ?_;refine cI cd ?_;rcases hd:Lg l with _|_
 ·refine AF (Ab kT Ip) ?_
  refine AF (Ab kT Ip) ?_;refine Ag ?_;exact AM rfl AA.out
 ·obtain⟨c,m,rfl⟩:∃c m,l=c::m:=by
   cases l with
   |nil=>cases hd
   |cons c m=>exact⟨c,m,rfl⟩
  have hsz:=Cx (c::m);rw[Br]at hsz;have hx:(((sb (c::m)).data.toList.getD ((0:Int)).toNat 0).toNat:Int)=(c.toNat:Int):=rfl;have b0:(0:Int)<((sb (c::m)).size:Int):=by rw[hsz];omega
  by_cases h0:(c::m)=[48]
  ·rw[Ax h0]at e0⊢
   refine AF e0 ?_;refine AF (Ab e0 kT) ?_;refine AF (Ab e0 kT) ?_;refine Ag ?_;exact AM rfl AA.out
  ·rw[A8 h0]at e0⊢
   have e1:((c.toNat:Int) != 48) = !decide (c=48):=by
    rw[Fs];simp only[bne_iff_ne,ne_eq,Bs,Hh];constructor
    ·intro h hc;subst hc;exact h rfl
    ·intro h hc
     apply h
     have:c.toNat=48:=by omega
     exact UInt8.toNat_inj.1 this
   refine AF e0 ?_;refine AF (Bb e0 kF hx e1) ?_;refine AF (Bb e0 kF hx e1) ?_;refine Ag ?_;exact AM (by simp) AA.out
theorem tZ (n:Nat):AL C0 195 [(AY (n:Int)).D] (.tup [i64 (AY (n:Int)).s,Ap (decide (Sm (n:Int)))]):=by
 refine Ad.walk w1 di rfl λF=>?_
 by_cases hs:Sm (n:Int)
 ·obtain⟨a1,a2⟩:=TG hs
  dsimp only[GI.D];rw[a1,a2,Ax hs];refine sR 0 ?_;refine AC.seq ?_;refine CR 100 [0,1,2,3,4,5] [6] ?_;refine BR ?_;refine Ag ?_;exact AM rfl AA.out
 ·obtain⟨a1,a2,a3⟩:=W4 hs
  dsimp only[GI.D];rw[a1,a2,A8 hs];generalize(Af n).map AS=l at*;refine sR 0 ?_;refine AC.seq ?_;refine CR 100 [0,1,2,3,4,5] [6] ?_;refine AV (Ar (@ne_eq (List D)) a3 E5) ?_;refine Ag ?_;exact AM rfl AA.out
def G3 (l:List UInt8):GF:=⟨AY (rv (CE l)),if DD l then dv (Bg l)else 1⟩
theorem rU (l:List UInt8)(hl:l.length<=100000)(h1:(CG l).all Bo=true)(h2:DD l=true->(Bg l).all Bo=true):AL C0 85 [str (sb l)] (G3 l).D:=by
 refine Ad.walk w1 jI rfl λF=>?_
 have cc:=dc l (by omega);have r1:=R2 (CE l) h1 (by unfold CE;rw[Bd];omega);have hpw:AA (AY (rv (CE l))).w:=AJ;unfold G3;change AL C0 _ _ (.tup [str (sb (CE l)),str (sb (Bg l)),Ap (DD l)])at cc;rcases hs:DD l with _|_
 ·rw[hs]at cc
  have wg:=bt (AY (rv (CE l)));have hp1:AA (AY ((1:Nat):Int)).w:=AJ;rw[AG (by simp)];dsimp only[GI.D,GF.D]at*;refine sR 0 ?_;refine sR 100 ?_;refine cI cc ?_;refine AC.seq ?_;refine sR 200 ?_;refine AO ?_;refine sR 300 ?_;refine cI r1 ?_;refine cI wg ?_;refine Ag ?_;exact AM rfl AA.out
 ·rw[hs]at cc
  have hd:=h2 hs;have r2:=R2 (Bg l) (by rw[K9 hd];exact hd) (by unfold Bg;rw[D3];omega);rw[N0 hd]at r2;have hp1:AA (AY (dv (Bg l):Int)).w:=AJ;rw[AI rfl];dsimp only[GI.D,GF.D]at*;refine sR 0 ?_;refine sR 100 ?_;refine cI cc ?_;refine AC.seq ?_;refine sR 200 ?_;refine AO ?_;refine Am ?_;refine sR 400 ?_;refine cI r1 ?_;refine cI r2 ?_;refine Ag ?_;exact AM rfl AA.out
set_option maxHeartbeats 4000000
theorem xn (g:Nat):((g:Int) != 1)=decide (g≠1):=by
 rw[Fs,bne_iff_ne,decide_eq_true_iff];omega
theorem o8 (l:List UInt8)(hl:l.length<=100000):AL C0 141 [str (sb l)] (i64 (Cj l)):=by
 refine Ad.walk w1 fE rfl λF=>?_
 have cc:=dc l (by omega);change AL C0 _ _ (.tup [str (sb (CE l)),str (sb (Bg l)),Ap (DD l)])at cc;have hnl:(CE l).length<=100000:=by unfold CE;rw[Bd];omega
 have hdl:(Bg l).length<=100000:=by unfold Bg;rw[D3];omega
 have hsl:(CG l).length<=100000:=by
  unfold CG Bw;split
  ·rw[D3];omega
  ·exact hnl
 have ct:=Tp (CE l) (by omega);change AL C0 _ _ (str (sb (CG l)))at ct;have p1:=aE (CG l) (by omega);have p2:=aE (Bg l) (by omega);have en:=E8 (CE l) [45,48];have e0:=E8 (Bg l) [48];have e1:=E8 (Bg l) [49];have z1:=Cx (CG l);have z2:=Cx (Bg l);have hbf:∃b,b=KN l:=⟨_,rfl⟩
 obtain⟨bf,hbf⟩:=hbf;unfold Cj;rw[<-hbf];unfold KN at hbf;refine sR 0 ?_;refine sR 100 ?_;refine cI cc ?_;refine sR 200 ?_;refine cI ct ?_;refine AC.seq ?_;refine DL (α:=Nat) (λn=>⟨[(4,str (sb (Bg l))),(5,Ap (DD l)),(6,str (sb (CG l))),(39,Ap bf)],[],n⟩) (λ_=>True) ?_ ?_
 ·refine rI 300 ?_
  refine cI p1 ?_;rcases hp:DS (CG l)with _|_
  ·rw[hp]at hbf
   have hb:bf=true:=by rw[hbf];rfl
   subst hb;simp only[TR];refine AF kT ?_;refine AF kT ?_;exact⟨trivial,_,trivial,AK⟩
  ·rw[hp]at hbf
   simp only[QY]
   by_cases hn:CE l=[45,48]
   ·rw[Ax hn]at en hbf
    have hb:bf=true:=by rw[hbf];rfl
    subst hb;refine AF (Ab kF en) ?_;refine AF (Ar kF kT en) ?_;exact⟨trivial,_,trivial,AK⟩
   ·rw[A8 hn]at en hbf
    rcases hs:DD l with _|_
    ·rw[hs]at hbf
     have hb:bf=false:=by rw[hbf];rfl
     subst hb;refine AF (Ab kF en) ?_;refine AF (Bb kF kT en hs) ?_;refine AF (Bb kF kT en hs) ?_;exact⟨trivial,_,trivial,AK⟩
    ·rw[hs]at hbf
     refine AF (Ab kF en) ?_;refine AF (Ar kF en hs) ?_;refine On hs ?_;refine BE.same _ p2 AJ ?_;refine BM ?_;rcases hq:DS (Bg l)with _|_
     ·rw[hq]at hbf
      have hb:bf=true:=by rw[hbf];rfl
      subst hb;refine AF (Ar kF kT hq) ?_;refine AF (Ar kF kT hq) ?_;refine AF (Ar kF kT hq) ?_;exact⟨trivial,_,trivial,AK⟩
     ·rw[hq]at hbf
      refine AF hq ?_;simp only[QY];refine AF kF ?_
      by_cases h0:Bg l=[48]
      ·rw[Ax h0]at e0 hbf
       have hb:bf=true:=by rw[hbf];rfl
       subst hb;simp only[e0,imp_self];refine AF kT ?_;refine Iz rfl rfl rfl (by simp only[TR]) (by simp) (I5 (λ_ _=>rfl) ?_);refine AF kF ?_;exact⟨trivial,_,trivial,AK⟩
      ·rw[A8 h0]at e0 hbf
       simp only[e0];refine AF kF ?_
       by_cases h1:Bg l=[49]
       ·rw[Ax h1]at e1 hbf
        have hb:bf=true:=by rw[hbf];rfl
        subst hb;simp only[e1];exact⟨trivial,_,trivial,AK⟩
       ·rw[A8 h1]at e1 hbf
        have hb:bf=false:=by rw[hbf];rfl
        subst hb;simp only[e1];exact⟨trivial,_,trivial,AK⟩
 rintro n -;cases bf with
 |true=>
  rw[AI rfl];refine AO ?_;refine sR 400 ?_;refine Ag ?_;exact AM rfl AA.out
 |false=>
  rw[AG (by simp)];have hbf:=hbf.symm;simp only[Hj,B5,Bool.and_eq_false_iff]at hbf;obtain⟨⟨hp,hn⟩,hd⟩:=hbf;refine AO ?_;refine Am ?_;have hsd:=(LB hp).2;refine AC.seq ?_;refine DL (α:=Nat) (λn=>⟨[(4,str (sb (Bg l))),(5,Ap (DD l)),(6,str (sb (CG l))),(47,Ap (decide (600<(CG l).length\/600<(Bg l).length)))],[],n⟩) (λ_=>True) ?_ ?_
  ·by_cases hA:600<(CG l).length
   ·have ea:decide (((sb (CG l)).size:Int)>600)=true:=Ax (by rw[z1];omega)
    have eb:decide (600<(CG l).length\/600<(Bg l).length)=true:=Ax (Or.inl hA);rw[eb];refine Aq 500 ?_;refine AV ea ?_;refine AF kT ?_;exact⟨trivial,_,trivial,AK⟩
   ·have ea:decide (((sb (CG l)).size:Int)>600)=false:=A8 (by rw[z1];omega)
    have eb:decide (((sb (Bg l)).size:Int)>600)=decide (600<(CG l).length\/600<(Bg l).length):=by
     rw[DO,z2];omega
    refine Aq 500 ?_;refine AV ea ?_;refine AF kF ?_;simp only[eb];exact⟨trivial,_,trivial,AK⟩
  rintro n -
  by_cases hL:600<(CG l).length\/600<(Bg l).length
  ·rw[Ax hL,AI hL]
   refine AO ?_;refine sR 600 ?_;refine Ag ?_;exact AM rfl AA.out
  ·rw[A8 hL,AG hL]
   refine AO ?_;refine Am ?_;refine AC.seq ?_;refine sR 700 ?_;rcases hs:DD l with _|_
   ·rw[AG (by simp)]
    refine AO ?_;refine Am ?_;refine sR 1100 ?_;refine Ag ?_;exact AM rfl AA.out
   ·rw[hs]at hd
    have hd':=hd.resolve_left (by simp);have hdd:=(LB hd'.1.1).2;have r1:=R2 (CG l) (by rw[K9 hsd];exact hsd) hsl;have r2:=R2 (Bg l) (by rw[K9 hdd];exact hdd) hdl;rw[N0 hsd]at r1;rw[N0 hdd]at r2;have l1:(Af (dv (CG l))).length<=100000:=BV (NN (G1 _ hsd)) hsl;have l2:(Af (dv (Bg l))).length<=100000:=BV (NN (G1 _ hdd)) hdl;have cg:=jS (AY (dv (CG l):Int)) (AY (dv (Bg l):Int)) (Cy _) (Cy _) (I8 (by omega)) (I8 (by omega));rw[EK,EK,Ej,Ej]at cg;have cs:=tZ (Nat.gcd (dv (CG l)) (dv (Bg l)));obtain⟨g,hg0⟩:∃g,g=Nat.gcd (dv (CG l)) (dv (Bg l)):=⟨_,rfl⟩
    rw[<-hg0]at cg cs;simp only[<-hg0];have hpa:AA (AY (dv (CG l):Int)).w:=AJ;have hpb:AA (AY (dv (Bg l):Int)).w:=AJ;have hpg:AA (AY (g:Int)).w:=AJ;dsimp only[GI.D]at r1 r2 cg cs;refine AO ?_;refine sR 800 ?_;refine cI r1 ?_;refine cI r2 ?_;refine cI cg ?_;refine cI cs ?_;refine DL (α:=Nat) (λn=>⟨[(63,Ap (decide (g≠1)))],[],n⟩) (λ_=>True) ?_ ?_
    ·by_cases hg:Sm (g:Int)
     ·obtain⟨a1,a2⟩:=TG hg
      have eg:=xn g;rw[a1,Ax hg];refine rI 900 ?_;simp only[QY];refine AF kF ?_;simp only[eg];exact⟨trivial,_,trivial,AK⟩
     ·have eg:decide (g≠1)=true:=Ax λh=>hg (by rw[h];exact⟨by decide,by decide⟩)
      rw[eg,A8 hg];refine rI 900 ?_;simp only[TR];refine AF kT ?_;exact⟨trivial,_,trivial,AK⟩
    rintro n -
    by_cases hg:g=1
    ·rw[A8 (λh=>h hg),AG (λh=>h.2 hg)]
     refine AO ?_;refine Am ?_;refine sR 1100 ?_;refine Ag ?_;exact AM rfl AA.out
    ·rw[Ax hg,AI ⟨trivial,hg⟩]
     refine AO ?_;refine sR 1000 ?_;refine Ag ?_;exact AM rfl AA.out
abbrev RB:Nat:=1000000000
def Aa (n:Nat):List Nat:=if _h:n=0 then[]else(n%RB)::Aa (n/RB)
termination_by n
decreasing_by exact Ir (EX _h) (by decide)
def AP:List Nat->Nat
 | []=>0
 |a::l=>a+RB*AP l
def Rd (l:List Nat):Prop:=∀a∈l,a<RB
theorem HQ:Aa 0=[]:=by unfold Aa;rfl
theorem Jd {n:Nat}(h:n≠0):Aa n=(n%RB)::Aa (n/RB):=by rw[Aa,dif_neg h]
theorem FL (n:Nat):Rd (Aa n):=by
 induction n using Nat.strongRecOn with
 |ind n ih=>
  by_cases h:n=0
  ·subst h;rw[HQ];intro a ha;cases ha
  ·rw[Jd h]
   intro a ha;rcases A9.1 ha with rfl|ha
   ·exact CI _ (by decide)
   ·exact ih _ (Ir (EX h) (by decide)) a ha
theorem Ec (n:Nat):AP (Aa n)=n:=by
 induction n using Nat.strongRecOn with
 |ind n ih=>
  by_cases h:n=0
  ·subst h;rw[HQ];rfl
  ·rw[Jd h,AP,ih _ (Ir (EX h) (by decide))]
   exact FX n RB
theorem KC (l m:List Nat):AP (l++m)=AP l+RB^l.length*AP m:=by
 induction l with
 |nil=>simp[AP]
 |cons a l ih=>
  simp only[E2,AP,ih,Br,CW,BO];rw[Ba (RB^l.length) RB,B6,FE]
theorem Rd.tail {a:Nat}{l:List Nat}(h:Rd (a::l)):Rd l:=λb hb=>h b (B9 _ hb)
theorem Rd.head {a:Nat}{l:List Nat}(h:Rd (a::l)):a<RB:=h a B1
theorem Rd.append {l m:List Nat}(h:Rd l)(k:Rd m):Rd (l++m):=λa ha=>(Bn.1 ha).elim (h a) (k a)
theorem Rd.take {l:List Nat}(h:Rd l)(n:Nat):Rd (l.take n):=λa ha=>h a (E3 ha)
theorem Gx:∀ {l:List Nat},Rd l->AP l<RB^l.length
 | [],_=>by simp[AP]
 |a::l,h=>by
  have h1:=Gx h.tail;have h2:=h.head;rw[AP,Br,CW]
  calc a+RB*AP l<RB+RB*AP l:=by omega
   _=RB*(AP l+1):=by rw[BO,EY,L2]
   _<=RB*RB^l.length:=Cs _ h1
   _=_:=Ba _ _
theorem Xv:∀ {l:List Nat},Rd l->(∀a∈l.getLast?,a≠0)->Aa (AP l)=l
 | [],_,_=>HQ
 | [a],h,hl=>by
  have ha:a≠0:=hl a (by simp);have hb:=h.head;rw[show AP [a]=a from by simp[AP],Jd ha,Fr hb,IJ hb,HQ]
 |a::b::l,h,hl=>by
  have ih:=Xv h.tail (λx hx=>hl x (by simpa using hx));have hb:=h.head;have hv:AP (b::l)≠0:=by
   intro h0;rw[h0,HQ]at ih;cases ih
  have e1:AP (a::b::l)%RB=a:=by rw[AP,TT,Fr hb]
  have e2:AP (a::b::l)/RB=AP (b::l):=by
   rw[AP,Tb _ _ (by decide),IJ hb,BW]
  have hne:AP (a::b::l)≠0:=by
   intro h0;rw[h0]at e2;exact hv (by rw[<-e2];rfl)
  rw[Jd hne,e1,e2,ih]
theorem Xr:∀(k:Nat),AP (List.replicate k 0)=0
 | 0=>rfl
 |k+1=>by rw[List.replicate_succ,AP,Xr k,FF]
theorem Jb (b:Nat):∀a,b<=a->(Aa b).length<=(Aa a).length:=by
 induction b using Nat.strongRecOn with
 |ind b ih=>
  intro a h
  by_cases hb:b=0
  ·subst hb;rw[HQ];exact BT _
  ·rw[Jd hb,Jd (n:=a) (by omega),Br,Br]
   exact Nat.succ_le_succ (ih _ (Ir (EX hb) (by decide)) _ (Nat.div_le_div_right h))
theorem Xd {a b:Nat}(h:(Aa a).length<(Aa b).length):a<b:=by
 rcases BC a b with h1|h1
 ·exact h1
 ·have:=Jb b a h1;omega
theorem O9 {l:List Nat}{k a:Nat}(h:l[k]?=some a):AP l=AP (l.take k)+RB^k*(a+RB*AP (l.drop (k+1))):=by
 have hk:k<l.length:=(BS.1 h).1
 conv=>lhs;rw[<-FB k l]
 rw[KC,Bd,Ft (by omega)]
 have:l.drop k=a::l.drop (k+1):=by
  rw[Ey hk]
  congr 1
  exact(BS.1 h).2
 rw[this,AP]
theorem Xq {l m:List Nat}{k a b:Nat}(hl:Rd l)(ha:l[k]?=some a)(hb:m[k]?=some b)(hd:l.drop (k+1)=m.drop (k+1))(hab:a<b):AP l<AP m:=by
 have hk:k<l.length:=(BS.1 ha).1;rw[O9 ha,O9 hb,hd];have h1:=Gx (hl.take k);rw[Bd,Ft (by omega)]at h1;generalize AP (m.drop (k+1))=r;have h2:RB^k*(a+RB*r)+RB^k<=RB^k*(b+RB*r):=by
  rw[<-Nat.mul_succ];exact Cs _ (by omega)
 omega
theorem Hs {l:List Nat}{i a:Nat}(hi:l.length=i):AP (l++[a])=AP l+RB^i*a:=by rw[KC,hi];simp[AP]
theorem Rd.set {l:List Nat}(h:Rd l){i a:Nat}(ha:a<RB):Rd (l.set i a):=λb hb=>by
 rcases Qd hb with h1|rfl
 ·exact h b h1
 ·exact ha
theorem T3 (n:Nat):Rd (List.replicate n 0):=λa ha=>by rw[QU ha];decide
theorem O7:∀ {l:List Nat} {k o d:Nat},l[k]?=some o->AP (l.set k d)+RB^k*o=AP l+RB^k*d
 |a::l,0,o,d,h=>by
  simp only[TV,BN]at h;subst h;simp only[List.set_cons_zero,AP,ND,JS];omega
 |a::l,k+1,o,d,h=>by
  simp only[Ks]at h;have ih:=O7 (d:=d) h;simp only[List.set_cons_succ,AP];have h1:RB^(k+1)*o=RB*(RB^k*o):=by rw[CW,Ba (RB^k) RB,B6]
  have h2:RB^(k+1)*d=RB*(RB^k*d):=by rw[CW,Ba (RB^k) RB,B6]
  have h3:RB*AP (l.set k d)+RB*(RB^k*o)=RB*AP l+RB*(RB^k*d):=by rw[<-BO,<-BO,ih]
  omega
theorem MA {n k:Nat}(h:n<RB^k):(Aa n).length<=k:=by
 induction k generalizing n with
 |zero=>
  have:n=0:=by simpa using h
  subst this;rw[HQ];exact An _
 |succ k ih=>
  by_cases h0:n=0
  ·subst h0;rw[HQ];exact BT _
  ·rw[Jd h0,Br]
   exact Nat.succ_le_succ (ih (Fq (by rw[Ba,<-CW];exact h)))
theorem Je (n:Nat):n<RB^(Aa n).length:=by
 have:=Gx (FL n)
 rwa [Ec]at this
theorem Xt (a b:Nat):(Aa (a+b)).length<=max (Aa a).length (Aa b).length+1:=by
 refine MA ?_;have h1:=Je a;have h2:=Je b;have m1:RB^(Aa a).length<=RB^max (Aa a).length (Aa b).length:=FT (by decide) (Nat.le_max_left _ _);have m2:RB^(Aa b).length<=RB^max (Aa a).length (Aa b).length:=FT (by decide) (Nat.le_max_right _ _);rw[CW];generalize RB^max (Aa a).length (Aa b).length=q at*;unfold RB;omega
theorem Xu (a b:Nat):(Aa (a-b)).length<=(Aa a).length:=Jb _ _ (Nat.sub_le _ _)
theorem Tw (a b:Nat):(Aa (a*b)).length<=(Aa a).length+(Aa b).length:=by
 refine MA ?_;rw[Gl];exact Nat.mul_lt_mul'' (Je a) (Je b)
theorem Qs {n:Nat}(h0:n≠0)(h:n<RB):Aa n=[n]:=by
 rw[Jd h0,Fr h,IJ h,HQ]
theorem V3 {l:List Nat}{k a:Nat}(hl:l.length=k+1)(ha:l[k]?=some a):AP l=AP (l.take k)+RB^k*a:=by
 rw[O9 ha,IK (by omega)];simp[AP]
theorem yh {l:List Nat}{k a b:Nat}(hl:l.length=k+2)(ha:l[k]?=some a)(hb:l[k+1]?=some b):AP l=AP (l.take k)+RB^k*(a+RB*b):=by
 rw[O9 ha]
 have:l.drop (k+1)=[b]:=by
  rw[Ey (by omega),IK (by omega)]
  congr 1
  exact(BS.1 hb).2
 rw[this];simp[AP]
theorem yi {l:List Nat}{k a b c:Nat}(hl:l.length=k+3)(ha:l[k]?=some a)(hb:l[k+1]?=some b)(hc:l[k+2]?=some c):AP l=AP (l.take k)+RB^k*(a+RB*(b+RB*c)):=by
 rw[O9 ha];have h1:=V3 (l:=l.drop (k+1)) (k:=1) (a:=c) (by rw[D3];omega) (by rw[IH,FE];exact hc);have h2:(l.drop (k+1)).take 1=[b]:=by
  rw[Ey (by omega)];simp only[List.take_succ_cons,NC]
  congr 1
  exact(BS.1 hb).2
 rw[h1,h2];simp[AP]
structure LY (P v:List Nat)(m p0 p1 p2 v2 v1:Nat):Prop where
 lP:P.length=m+3
 lv:v.length=m+2
 wP:Rd P
 wv:Rd v
 h0:P[m]?=some p0
 h1:P[m+1]?=some p1
 h2:P[m+2]?=some p2
 g2:v[m]?=some v2
 g1:v[m+1]?=some v1
 top:0<v1
 less:AP P<AP v*RB
namespace LY
variable {P v:List Nat} {m p0 p1 p2 v2 v1:Nat} (S:LY P v m p0 p1 p2 v2 v1)
include S
theorem valP:AP P=AP (P.take m)+RB^m*(p0+RB*(p1+RB*p2)):=yi S.lP S.h0 S.h1 S.h2
theorem valv:AP v=AP (v.take m)+RB^m*(v2+RB*v1):=yh S.lv S.g2 S.g1
theorem lowP:AP (P.take m)<RB^m:=by
 have:=Gx (S.wP.take m)
 rwa [Bd,Ft (by have:=S.lP;omega)]at this
theorem lowv:AP (v.take m)<RB^m:=by
 have:=Gx (S.wv.take m)
 rwa [Bd,Ft (by have:=S.lv;omega)]at this
theorem p0l:p0<RB:=S.wP _ (Au S.h0)
theorem p1l:p1<RB:=S.wP _ (Au S.h1)
theorem p2l:p2<RB:=S.wP _ (Au S.h2)
theorem v1l:v1<RB:=S.wv _ (Au S.g1)
theorem v2l:v2<RB:=S.wv _ (Au S.g2)
theorem below3:AP P<(p0+RB*(p1+RB*p2)+1)*RB^m:=by
 rw[S.valP,B0,JS,Ba (RB^m)]
 have:=S.lowP
 omega
theorem below2:AP P<(p1+RB*p2+1)*RB^(m+1):=by
 have h:=S.below3;have h1:=S.p0l;generalize p1+RB*p2=t at*;have h2:(p0+RB*t+1)*RB^m<=(RB*(t+1))*RB^m:=CV _ (by rw[BO RB t 1];omega);have h3:(t+1)*RB^(m+1)=(RB*(t+1))*RB^m:=by rw[CW,Ba (RB^m) RB,<-B6,Ba (t+1) RB]
 omega
theorem abovev:v1*RB^(m+1)<=AP v:=by
 rw[S.valv,CW,BO]
 have:v1*(RB^m*RB)=RB^m*(RB*v1):=by rw[Ba v1,B6]
 omega
theorem abovev2:(v2+RB*v1)*RB^m<=AP v:=by
 rw[S.valv,Ba];omega
theorem pos:0<AP v:=Cq (IM S.top (Nat.pow_pos (by decide))) S.abovev
theorem p2v1:p2<=v1:=by
 rcases BC v1 p2 with h|h
 ·exfalso
  have e1:RB^(m+2)*p2<=AP P:=by
   rw[S.valP,BO,BO,BO]
   have:RB^(m+2)*p2=RB^m*(RB*(RB*p2)):=by rw[CW,CW,B6,B6]
   omega
  have e2:AP v<RB^(m+1)*(v1+1):=by
   have h1:=S.lowv;have h2:=S.v2l;have e3:RB^(m+1)*(v1+1)=RB^m*(RB*v1+RB):=by rw[CW,B6,BO,EY]
   have e4:RB^m*(v2+RB*v1+1)<=RB^m*(RB*v1+RB):=Cs _ (by omega);rw[BO _ _ 1,EY]at e4;rw[S.valv,e3];omega
  have e5:RB^(m+1)*(v1+1)*RB=RB^(m+2)*(v1+1):=by rw[Nat.mul_right_comm,<-CW]
  have e6:RB^(m+2)*(v1+1)<=RB^(m+2)*p2:=Cs _ h;have e7:(AP v)*RB<=RB^(m+1)*(v1+1)*RB:=CV _ (Jz e2)
  have:=S.less
  omega
 ·exact h
end LY
theorem kV {A P v:List Nat}{q i z x d b c b' c' lo:Nat}(hz:A[i]?=some z)(hx:v[i]?=some x)(hI:AP A+q*AP (v.take i)=AP P+RB^i*(c+b))
  (h1:lo+RB*c'=q*x+c) (h2:d+lo+b=z+RB*b'):AP (A.set i d)+q*AP (v.take (i+1))=AP P+RB^(i+1)*(c'+b'):=by
 have hs:=O7 (d:=d) hz;have hi:i<v.length:=(BS.1 hx).1;rw[Fy hx,Hs (i:=i) (by rw[Bd];omega),BO,JU q,CW,B6];have e:RB^i*(d+q*x+(c+b))=RB^i*(z+RB*(c'+b')):=by congr 1;rw[BO RB];omega
 rw[BO,BO,BO (RB^i) z]at e;omega
theorem kU {A P v:List Nat}{i z x c:Nat}(hz:A[i]?=some z)(hx:v[i]?=some x)(hI:AP A+RB^i*c=AP P+AP (v.take i)):
  AP (A.set i ((z+x+c)%RB))+RB^(i+1)*((z+x+c)/RB)=AP P+AP (v.take (i+1)):=by
 have hs:=O7 (d:=(z+x+c)%RB) hz;have hi:i<v.length:=(BS.1 hx).1;rw[Fy hx,Hs (i:=i) (by rw[Bd];omega),CW,B6];have e:RB^i*((z+x+c)%RB+RB*((z+x+c)/RB))=RB^i*(z+x+c):=by rw[FX]
 rw[BO,BO,BO (RB^i) z]at e;omega
theorem l5 {n k:Nat}(h1:RB^k<=n)(h2:n<RB^(k+1)):(Aa n).length=k+1:=by
 have h3:=MA h2;have h4:=Da h1 (Je n);have h5:=(Nat.pow_lt_pow_iff_right (show 1<RB by decide)).1 h4;omega
theorem Qt:∀(n:Nat) {k a:Nat},(Aa n).length=k+1->(Aa n)[k]?=some a->a≠0:=λn=>by
 induction n using Nat.strongRecOn with
 |ind n ih=>
  intro k a h1 h2
  by_cases h0:n=0
  ·subst h0;rw[HQ]at h1;cases h1
  ·rw[Jd h0]at h1 h2
   rw[Br]at h1;have h3:=Nat.succ.inj h1;cases k with
   |zero=>
    have h4:Aa (n/RB)=[]:=FC h3;have h5:n/RB=0:=by rw[<-Ec (n/RB),h4];rfl
    have h6:=FX n RB;rw[h5]at h6;simp at h2;intro h7;subst h7;rw[h2]at h6;omega
   |succ k=>
    rw[Ks]at h2;exact ih _ (Ir (EX h0) (by decide)) h3 h2
theorem T1 {n k:Nat}(h:(Aa n).length=k+1):RB^k<=n:=by
 obtain⟨a,ha⟩:=Ch (l:=Aa n) (i:=k) (by omega);have h1:=Qt n h ha;have h2:=V3 h ha;rw[Ec]at h2;have h3:=Cs (RB^k) (show 1<=a by omega);omega
theorem Qy {l:List Nat}{j a:Nat}(h:l[j]?=some a):AP (l.drop j)=a+RB*AP (l.drop (j+1)):=by
 have hj:j<l.length:=(BS.1 h).1;rw[Ey hj,(BS.1 h).2];rfl
theorem kn {a q:List Nat}{j x b rest:Nat}(hb:0<b)(hx:a[j]?=some x)(hj:j<q.length)(hI:AP (q.drop (j+1))*b+rest=AP (a.drop (j+1))):
  AP ((q.set j ((rest*RB+x)/b)).drop j)*b+(rest*RB+x)%b=AP (a.drop j)/\(rest*RB+x)%b<b:=by
 refine⟨?_,CI _ hb⟩;rw[RQ hj,Qy hx,<-hI,AP];have e:=FG (rest*RB+x) b;rw[B0,BO RB,B6 RB,Ba RB rest,Ba _ b];omega
structure Mx (X:Nat)(v U q:List Nat)(lu lq k:Nat):Prop where
 lU:U.length=lu
 lQ:q.length=lq
 wU:Rd U
 wq:Rd q
 val:RB^k*AP (q.drop k)*AP v+AP U=X
 less:AP (U.drop k)<AP v
theorem mg {X:Nat}{v U q:List Nat}{lu lq j m:Nat}(I:Mx X v U q lu lq (j+1))(hv:v.length=m+2)(wv:Rd v)(v1 v2:Nat)(h2:v[m]?=some v2)(h1:v[m+1]?=some v1)(ht:0<v1)(hj:j+(m+3)<=lu):
  ∃p0 p1 p2,LY ((U.drop j).take (m+3)) v m p0 p1 p2 v2 v1/\AP (U.drop (j+(m+3)))=0/\AP ((U.drop j).take (m+3))=AP (U.drop j):=by
 obtain⟨lU,lQ,wU,wq,val,less⟩:=I;obtain⟨x,hx⟩:=Ch (l:=U) (i:=j) (by omega);have hxl:=wU x (Au hx);have e1:=Qy hx;have hlt:AP (U.drop j)<AP v*RB:=by
  have:RB*(AP (U.drop (j+1))+1)<=RB*AP v:=Cs _ less
  rw[BO,Ba RB (AP v)]at this;omega
 have hPl:((U.drop j).take (m+3)).length=m+3:=by rw[Bd,D3];omega
 have e2:AP (U.drop j)=AP ((U.drop j).take (m+3))+RB^(m+3)*AP (U.drop (j+(m+3))):=by
  conv=>lhs;rw[<-FB (m+3) (U.drop j)]
  rw[KC,hPl,List.drop_drop]
 have hvl:=Gx wv;rw[hv]at hvl;have hz:AP (U.drop (j+(m+3)))=0:=by
  rcases EC (AP (U.drop (j+(m+3))))with h|h
  ·exact h
  ·exfalso
   have e3:RB^(m+3)*1<=RB^(m+3)*AP (U.drop (j+(m+3))):=Cs _ h;have e4:AP v*RB<=RB^(m+2)*RB:=CV _ (Jz hvl);have e5:RB^(m+2)*RB=RB^(m+3):=(CW RB (m+2)).symm;rw[e5]at e4;omega
 rw[hz,FF,D6]at e2;obtain⟨p0,h0⟩:=Ch (l:=(U.drop j).take (m+3)) (i:=m) (by omega);obtain⟨p1,h3⟩:=Ch (l:=(U.drop j).take (m+3)) (i:=m+1) (by omega);obtain⟨p2,h4⟩:=Ch (l:=(U.drop j).take (m+3)) (i:=m+2) (by omega);exact⟨p0,p1,p2,⟨hPl,hv,λa ha=>wU a (Kv (E3 ha)),wv,h0,h3,h4,h2,h1,ht,by rw[<-e2];exact hlt⟩,hz,e2.symm⟩
theorem me {X:Nat}{v U q P':List Nat}{lu lq j m:Nat}(I:Mx X v U q lu lq (j+1))(hv:0<AP v)(hj:j+(m+3)<=lu)(hjq:j<lq)(hz:AP (U.drop (j+(m+3)))=0)(hP:AP ((U.drop j).take (m+3))=AP (U.drop j))
  (h1:P'.length=m+3) (h2:Rd P') (h3:AP P'=AP ((U.drop j).take (m+3))%AP v) (hd:AP ((U.drop j).take (m+3))/AP v<RB):
  Mx X v (U.take j++(P'++U.drop (j+(m+3)))) (q.set j (AP ((U.drop j).take (m+3))/AP v)) lu lq j:=by
 obtain⟨lU,lQ,wU,wq,val,less⟩:=I;have hA:(U.take j).length=j:=by rw[Bd];omega
 have e0:AP U=AP (U.take j)+RB^j*AP (U.drop j):=by
  conv=>lhs;rw[<-FB j U]
  rw[KC,hA]
 have e1:AP (P'++U.drop (j+(m+3)))=AP P':=by rw[KC,hz,FF,D6]
 refine⟨?_,by rw[Db];exact lQ,?_,wq.set hd,?_,?_⟩
 ·rw[Be,Be,hA,h1,D3];omega
 ·exact Rd.append (wU.take j) (Rd.append h2 λa ha=>wU a (Kv ha))
 ·rw[RQ (by omega),AP,KC,hA,e1,h3,hP]
  rw[e0]at val;have e2:=FG (AP (U.drop j)) (AP v);have e3:RB^(j+1)*AP (q.drop (j+1))*AP v=RB^j*(RB*AP (q.drop (j+1))*AP v):=by
   rw[CW,B6,B6,B6]
  rw[e3]at val;have e4:RB^j*AP (U.drop j)=RB^j*(AP v*(AP (U.drop j)/AP v))+RB^j*(AP (U.drop j)%AP v):=by
   rw[<-BO,e2]
  rw[B6,B0,BO,Ba (AP (U.drop j)/AP v)];omega
 ·rw[List.drop_left' hA,e1,h3]
  exact CI _ hv
set_option maxHeartbeats 2000000
abbrev Ac (n:Nat):D:=i64 (n:Int)
def rL (l:List Nat):D:=.sl false 1 (l.map Ac)
def rD (n:Nat):D:=rL (Aa n)
theorem PX (l:List Nat):CK (rL l):=.sl λe he d hd=>by
 obtain⟨a,_,rfl⟩:=By.1 he;simp only[D.cells,A9,Dv,or_false]at hd;subst hd;exact .prim _
instance  (l:List Nat):AA (rL l):=⟨PX l⟩
instance  (n:Nat):AA (rD n):=⟨PX _⟩
theorem EN {l:List Nat}{i a:Nat}(h:l[i]?=some a):(l.map Ac)[i]?=some (Ac a):=by rw[Az,h];rfl
theorem Ny {l:List Nat}{i a:Nat}:(l.map Ac).set i (Ac a)=(l.set i a).map Ac:=List.map_set.symm
theorem zI (c:Nat):((c:Int)==0)=decide (c=0):=by rw[Fs,Ek,decide_eq_true_iff];omega
theorem VY (m:List Nat):AP (m++[0])=AP m:=by rw[Hs rfl];simp
theorem bW {m:List Nat}{c:Nat}(h:Rd (m++[c]))(hc:c≠0):Aa (AP (m++[c]))=m++[c]:=Xv h λa ha=>by
 rw[List.getLast?_append]at ha;simp at ha;rw[<-ha];exact hc
theorem Mk (l:List Nat)(h:Rd l)(hlen:l.length<4000000000):AL C0 182 [rL l] (rD (AP l)):=by
 refine Ad.walk w1 de rfl λF=>?_
 unfold rL;refine sR 0 ?_;refine AC.seq ?_;refine AC.block ?_;refine AC.loop (α:=List Nat×Nat) (λp=>⟨[(0,.sl false 1 (p.1.map Ac))],[],p.2⟩) (λp=>p.1.length)
  (λp=>AP p.1=AP l/\Rd p.1/\p.1.length<=l.length) (l,_) ⟨rfl,h,An _⟩ AK ?_
 rintro⟨m,n⟩ F ⟨h1,h2,h3⟩;dsimp only at h1 h2 h3⊢;refine AC.seq ?_;refine AC.seq ?_;rcases TY m with rfl|⟨m,c,rfl⟩
 ·have e1:decide (((0:Nat):Int)>0)=false:=rfl
  refine Aq 100 ?_;refine AV e1 ?_;refine AF e1 ?_;refine AO ?_;refine CO ?_;refine sR 300 ?_;refine Ag ?_;refine AM (d0:=rL []) ?_ AA.out;rw[<-h1];unfold rD;rw[show AP []=0 from rfl,HQ]
 ·rw[TX]at h1 h2 h3⊢
  have el:((((m++[c]).map Ac).length:Nat):Int)=((m.length+1:Nat):Int):=by rw[Ae,Be];rfl
  rw[Be,HN]at h3;have e1:decide (((m.length+1:Nat):Int)>0)=true:=BX;have wk:IntKind.i64.wrap (((m.length+1:Nat):Int)-1)=(m.length:Int):=by rw[wI];omega
  have wraw:IntKind.i64.wrap (((((m++[c]).map Ac).length:Nat):Int)-1)=(m.length:Int):=by rw[el,wk]
  have hx:((m++[c]).map Ac)[m.length]?=some (Ac c):=EN (by simp);have ec:=zI c;refine Aq 100 ?_;refine AV (Ab el e1) ?_;refine AF (CN e1 wraw el wk kN) ?_;refine B3 e1 hx ?_;refine AF (CN e1 wraw el wk ec) ?_
  by_cases hc:c=0
  ·rw[Ax hc]
   subst hc;have e4:List.take (m.length-0) (List.drop 0 ((m++[0]).map Ac))=m.map Ac:=by simp
   have e5:List.take m.length ((m++[0]).map Ac)=m.map Ac:=by simp
   rw[VY]at h1;refine AO ?_;refine Am ?_;refine AC.block ?_;refine Aq 200 ?_;refine AV (CN el wk wraw kN e4) ?_;exact⟨(m,_),⟨h1,λa ha=>h2 a (HO _ ha),by dsimp only;omega⟩,by dsimp only;rw[Be,HN];omega,AK⟩
  ·rw[A8 hc]
   refine AO ?_;refine CO ?_;refine sR 300 ?_;refine Ag ?_;refine AM (d0:=rL (m++[c])) ?_ AA.out;unfold rD;rw[<-h1,bW h2 hc]
theorem U5 (l:List Nat)(i:Nat)(hlen:l.length<4000000000)(hi:i<4000000000):AL C0 222 [rL l,Ac i] (Ac (l.getD i 0)):=by
 refine Ad.walk w1 xA rfl λF=>?_
 unfold rL;have el:(((l.map Ac).length:Nat):Int)=(l.length:Int):=by rw[Ae]
 refine sR 0 ?_;refine AC.seq ?_;refine AC.seq ?_
 by_cases h:i<l.length
 ·have e1:decide ((i:Int)<(l.length:Int))=true:=BX
  obtain⟨a,ha⟩:=Ch h;have hx:=EN ha;have eg:l.getD i 0=a:=by rw[ED,ha];rfl
  rw[eg];refine Aq 100 ?_;refine AV (Ab el e1) ?_;refine AO ?_;refine sZ 200 ?_;refine AF kN ?_;refine B3 kT hx ?_;refine AF kN ?_;refine Ag ?_;exact AM rfl AA.out
 ·have e1:decide ((i:Int)<(l.length:Int))=false:=Bc
  have eg:l.getD i 0=0:=by rw[ED,EB (by omega)];rfl
  rw[eg];refine Aq 100 ?_;refine AV (Ab el e1) ?_;refine AO ?_;refine Am ?_;refine sR 300 ?_;refine Ag ?_;exact AM rfl AA.out
theorem Sj (a b:Nat)(ha:(Aa a).length<4000000000)(hb:(Aa b).length<4000000000):AL C0 180 [rD a,rD b] (i64 (ES a b)):=by
 refine Ad.walk w1 uw rfl λF=>?_
 have hwa:=FL a;have hwb:=FL b;have va:=Ec a;have vb:=Ec b;have hlt:=@Xd a b;have hgt:=@Xd b a;unfold rD rL ES;generalize Aa a=la at*;generalize Aa b=lb at*;have ea:(((la.map Ac).length:Nat):Int)=(la.length:Int):=by rw[Ae]
 have eb:(((lb.map Ac).length:Nat):Int)=(lb.length:Int):=by rw[Ae]
 refine sR 0 ?_;refine AC.seq ?_;refine sZ 100 ?_;refine AV (Ab ea eb) ?_;refine AO ?_
 (refine B7 (λh10=>?_) (λh10=>?_))<;>(try simp only[Bs,B5]at h10)<;>(try simp only[h10])
 ·have hne:la.length≠lb.length:=by
   have:(la.length:Int)≠lb.length:=by simpa using h10
   omega
  refine AC.seq ?_;refine sZ 200 ?_;refine AV (Ab ea eb) ?_;refine AO ?_
  (refine B7 (λh15=>?_) (λh15=>?_))<;>(try simp only[Bs,B5]at h15)<;>(try simp only[h15])
  ·have h1:la.length<lb.length:=by
    have:(la.length:Int)<lb.length:=by simpa using h15
    omega
   rw[AI (by have:=hlt h1;omega)];refine sR 300 ?_;refine Ag ?_;exact AM rfl AA.out
  ·have h1:lb.length<la.length:=by
    have:¬(la.length:Int)<lb.length:=by simpa using h15
    omega
   have h2:=hgt h1;rw[CM,DR];refine Am ?_;refine sR 400 ?_;refine Ag ?_;exact AM rfl AA.out
 ·have hl:la.length=lb.length:=by
   have:(la.length:Int)=lb.length:=by simpa using h10
   omega
  clear hlt hgt;refine Am ?_;refine AC.seq ?_;refine sZ 500 ?_;refine AV ea ?_;refine AC.block ?_;have w0:IntKind.i64.wrap ((la.length:Int)-1)=(la.length:Int)-1:=wI;rw[w0];refine AC.loop (α:=Nat×Nat) (λp=>⟨[(0,.sl false 1 (la.map Ac)),(1,.sl false 1 (lb.map Ac)),(5,i64 ((p.1:Int)-1))],[],p.2⟩) (λp=>p.1)
   (λp=>p.1<=la.length/\la.drop p.1=lb.drop p.1) (la.length,_) ⟨An _,by rw[J5,hl,J5]⟩ AK ?_
  rintro⟨k,m⟩ F ⟨h1,h2⟩;dsimp only at h1 h2⊢;refine AC.seq ?_;refine sR 600 ?_;refine AO ?_
  (refine B7 (λh20=>?_) (λh20=>?_))<;>(try simp only[Bs,B5]at h20)<;>(try simp only[h20])
  ·obtain⟨j,rfl⟩:∃j,k=j+1:=⟨k-1,by
    have:(k:Int)-1>=0:=by simpa using h20
    omega⟩
   have wj:((j+1:Nat):Int)-1=(j:Int):=by omega
   obtain⟨x,hx⟩:∃x,la[j]?=some x:=⟨la[j],Cu⟩
   obtain⟨y,hy⟩:∃y,lb[j]?=some y:=⟨lb[j],Cu⟩
   have hx':=EN hx;have hy':=EN hy;rw[wj];refine Am ?_;refine AC.seq ?_;refine AC.block ?_;refine AC.seq ?_;refine AC.seq ?_;refine CR 800 [0,1,2,3,4,5,6,7] [8] ?_;refine AF kN ?_;refine B3 kT hx' ?_;refine AF kN ?_;refine B3 kT hy' ?_;refine AF kN ?_;refine AF kN ?_;refine AO ?_
   (refine B7 (λh31=>?_) (λh31=>?_))<;>(try simp only[Bs,B5]at h31)<;>(try simp only[h31])
   ·have hxy:x<y:=by
     have:=DN h31
     omega
    have:=Xq hwa hx hy h2 hxy
    rw[DR];refine sR 900 ?_;refine Ag ?_;exact AM rfl AA.out
   ·have hxy0:¬x<y:=by
     have:=Ds h31
     omega
    refine Am ?_;refine AC.seq ?_;refine CR 1000 [0,1,2,3,4,5,6,7] [8] ?_;refine AF kN ?_;refine B3 kT hx' ?_;refine AF kN ?_;refine B3 kT hy' ?_;refine AF kN ?_;refine AF kN ?_;refine AO ?_
    (refine B7 (λh40=>?_) (λh40=>?_))<;>(try simp only[Bs,B5]at h40)<;>(try simp only[h40])
    ·have hxy:y<x:=by
      have:=DN h40
      omega
     have:=Xq hwb hy hx h2.symm hxy
     rw[CM,DR];refine sR 1100 ?_;refine Ag ?_;exact AM rfl AA.out
    ·have hxy:x=y:=by
      have:=Ds h40
      omega
     subst hxy;have w5:IntKind.i64.wrap ((j:Int)-1)=(j:Int)-1:=wI;refine Am ?_;refine Aq 700 ?_;refine AV w5 ?_;have hj:=(BS.1 hx)
     have hj':=(BS.1 hy)
     refine⟨(j,_),⟨by dsimp only;omega,?_⟩,by dsimp only;omega,AK⟩;dsimp only;rw[Ey hj.1,Ey hj'.1,hj.2,hj'.2,h2]
  ·have hk:k=0:=by
    have:¬((k:Int)-1>=0):=by simpa using h20
    omega
   subst hk;have hab:a=b:=by
    rw[<-va,<-vb]
    have:la=lb:=by simpa using h2
    rw[this]
   subst hab;rw[CM,CM];refine CO ?_;refine sR 1200 ?_;refine Ag ?_;exact AM rfl AA.out
theorem Tx (l:List Nat)(i:Nat):AP (l.take (i+1))=AP (l.take i)+RB^i*l.getD i 0:=by
 by_cases h:i<l.length
 ·obtain⟨a,ha⟩:=Ch h
  rw[Fy ha,Hs (i:=i) (by rw[Bd];omega),ED,ha];rfl
 ·rw[Gs,Gs,ED,EB (by omega)]
  simp
theorem UI {l:List Nat}(h:Rd l)(i:Nat):l.getD i 0<RB:=by
 by_cases hi:i<l.length
 ·obtain⟨a,ha⟩:=Ch hi
  rw[ED,ha];exact h a (Au ha)
 ·rw[ED,EB (by omega)];decide
theorem Yw (l:List Nat)(i:Nat):AP (l.take i)<=AP l:=by
 conv=>rhs;rw[<-FB i l]
 rw[KC];exact Nat.le_add_right _ _
theorem Ye {a i:Nat}(h:i<(Aa a).length):RB^i<=a:=by
 obtain⟨k,hk⟩:∃k,(Aa a).length=k+1:=⟨(Aa a).length-1,by omega⟩
 exact BV (FT (by decide) (by omega)) (T1 hk)
structure Pf (a b:Nat)(i c:Nat)(out:List Nat):Prop where
 len:out.length=i
 wd:Rd out
 c1:c<=1
 val:AP out+RB^i*c=AP ((Aa a).take i)+AP ((Aa b).take i)
 can:i=0\/RB^(i-1)<=a+b
theorem pZ {a b i c:Nat}{out:List Nat}(I:Pf a b i c out)(h:i<(Aa a).length\/i<(Aa b).length\/0<c):
  Pf a b (i+1) (((Aa a).getD i 0+(Aa b).getD i 0+c)/RB) (out++[((Aa a).getD i 0+(Aa b).getD i 0+c)%RB])/\(Aa a).getD i 0+(Aa b).getD i 0+c<2*RB:=by
 obtain⟨len,wd,c1,val,can⟩:=I;have h1:=UI (FL a) i;have h2:=UI (FL b) i;have hs:(Aa a).getD i 0+(Aa b).getD i 0+c<2*RB:=by omega
 have e1:=Tx (Aa a) i;have e2:=Tx (Aa b) i;have ta:=Yw (Aa a) i;have tb:=Yw (Aa b) i;rw[Ec]at ta tb;refine⟨⟨by rw[Be,len];rfl,Rd.append wd λx hx=>?_,?_,?_,.inr ?_⟩,hs⟩
 ·simp only[A9,Dv,or_false]at hx
  subst hx;exact CI _ (by decide)
 ·exact Of (Fq (by rw[Ba];exact hs))
 ·rw[Hs len,e1,e2,CW,B6]
  have e:=FX ((Aa a).getD i 0+(Aa b).getD i 0+c) RB;generalize(Aa a).getD i 0=p at*;generalize(Aa b).getD i 0=q at*;have e3:RB^i*((p+q+c)%RB+RB*((p+q+c)/RB))=RB^i*(p+q+c):=by rw[e]
  rw[BO,BO,BO (RB^i) p]at e3;omega
 ·rw[JT]
  rcases h with h|h|h
  ·have:=Ye h;omega
  ·have:=Ye h;omega
  ·have hc:c=1:=by omega
   subst hc;rw[EY]at val;omega
theorem pY {a b i:Nat}{out:List Nat}(I:Pf a b i 0 out)(h1:¬i<(Aa a).length)(h2:¬i<(Aa b).length):out=Aa (a+b):=by
 obtain⟨len,wd,c1,val,can⟩:=I;rw[Gs,Gs,Ec,Ec,FF,D6]at val;rcases TY out with rfl|⟨m,c,rfl⟩
 ·rw[<-val];unfold Aa;rfl
 ·rw[TX]at*
  rw[Be,HN]at len;have hc:c≠0:=by
   intro hc;subst hc;rcases can with h|h
   ·omega
   ·rw[VY]at val
    have:=Gx (l:=m) λx hx=>wd x (HO _ hx)
    rw[show i-1=m.length by omega]at h;omega
  rw[<-val,bW wd hc]
theorem yy (a b:Nat)(ha:(Aa a).length<1000000)(hb:(Aa b).length<1000000):AL C0 189 [rD a,rD b] (rD (a+b)):=by
 refine Ad.walk w1 vE rfl λF=>?_
 have hT:Fz [] [] (rD a) (rD a):=.refl _;change AC C0 F none F _ ⟨Dm 0 [.sl false 1 ((Aa a).map Ac),.sl false 1 ((Aa b).map Ac)],[],0⟩ _;have ea:((((Aa a).map Ac).length:Nat):Int)=((Aa a).length:Int):=by rw[Ae]
 have eb:((((Aa b).map Ac).length:Nat):Int)=((Aa b).length:Int):=by rw[Ae]
 have I0:Pf a b 0 0 []:=⟨rfl,(λx hx=>Ak hx Dv),BT _,by simp[AP],.inl rfl⟩
 refine sR 0 ?_;refine sR 100 ?_;refine sR 200 ?_;refine AC.seq ?_;refine sR 300 ?_;refine AC.block ?_;refine AC.loop (α:=Nat×Nat×List Nat×List D×Nat×Nat) (λp=>⟨[(0,.sl false 1 ((Aa a).map Ac)),(1,.sl false 1 ((Aa b).map Ac)),(5,EL 704 p.2.2.2.2.1 1 p.2.2.2.1),(6,Ac p.2.1),(7,Ac p.1)],EG 704 p.2.2.2.2.1 3 1 p.2.2.2.1,p.2.2.2.2.2⟩)
  (λp=>(max (Aa a).length (Aa b).length-p.1)*2+p.2.1) (λp=>Pf a b p.1 p.2.1 p.2.2.1/\p.2.2.2.1=p.2.2.1.map Ac/\p.1<=max (Aa a).length (Aa b).length+1) (0,0,[],[],0,_) ⟨I0,rfl,BT _⟩ AK ?_
 rintro⟨i,c,out,L,g,n⟩ F ⟨I,hL,hi⟩;dsimp only at I hL hi⊢;have c1:=I.c1;have hol:=I.len;refine AC.seq ?_;refine DL (α:=Nat) (λn=>⟨[(0,.sl false 1 ((Aa a).map Ac)),(1,.sl false 1 ((Aa b).map Ac)),(5,EL 704 g 1 L),(6,Ac c),(7,Ac i),(22,Ap (decide (i<(Aa a).length\/i<(Aa b).length\/0<c)))],EG 704 g 3 1 L,n⟩) (λ_=>True) ?_ ?_
 ·generalize EL 704 g 1 L=od at*
  generalize EG 704 g 3 1 L=oh at*
  by_cases h1:i<(Aa a).length
  ·have e1:decide ((i:Int)<((Aa a).length:Int))=true:=BX
   have e:decide (i<(Aa a).length\/i<(Aa b).length\/0<c)=true:=Ax (.inl h1);rw[e];refine Aq 400 ?_;refine AV (Ab ea e1) ?_;refine AF kT ?_;refine AF kT ?_;exact⟨trivial,_,trivial,AK⟩
  ·have e1:decide ((i:Int)<((Aa a).length:Int))=false:=Bc
   by_cases h2:i<(Aa b).length
   ·have e2:decide ((i:Int)<((Aa b).length:Int))=true:=BX
    have e:decide (i<(Aa a).length\/i<(Aa b).length\/0<c)=true:=Ax (.inr (.inl h2));rw[e];refine Aq 400 ?_;refine AV (Ab ea e1) ?_;refine AF kF ?_;simp only[eb,e2];refine AF kT ?_;exact⟨trivial,_,trivial,AK⟩
   ·have e2:decide ((i:Int)<((Aa b).length:Int))=false:=Bc
    have e:decide ((c:Int)>0)=decide (i<(Aa a).length\/i<(Aa b).length\/0<c):=by rw[DO];omega
    rw[<-e];refine Aq 400 ?_;refine AV (Ab ea e1) ?_;refine AF kF ?_;simp only[eb,e2];refine AF kF ?_;exact⟨trivial,_,trivial,AK⟩
 rintro n2 -
 by_cases h:i<(Aa a).length\/i<(Aa b).length\/0<c
 ·obtain⟨J,hs⟩:=pZ I h
  have d1:=U5 (Aa a) i (by omega) (by omega);have d2:=U5 (Aa b) i (by omega) (by omega);unfold rL at d1 d2;have hmu:∀c',c'<=1->(max (Aa a).length (Aa b).length<=i->c'=0)->(max (Aa a).length (Aa b).length-(i+1))*2+c'<(max (Aa a).length (Aa b).length-i)*2+c:=λc' h1 h2=>by
   rcases BC i (max (Aa a).length (Aa b).length)with h3|h3
   ·omega
   ·have:=h2 h3;omega
  have hmu2:max (Aa a).length (Aa b).length<=i->((Aa a).getD i 0+(Aa b).getD i 0+c)/RB=0:=λh3=>by
   rw[ED,EB (by omega),ED,EB (by omega)];show(0+0+c)/1000000000=0;omega
  have hbnd:i<max (Aa a).length (Aa b).length+1:=by
   rcases h with h|h|h
   ·omega
   ·omega
   ·rcases BC i (max (Aa a).length (Aa b).length+1)with h3|h3
    ·exact h3
    ·exfalso
     obtain⟨len,wd,_,val,_⟩:=I;have hc:c=1:=by omega
     subst hc;rw[Gs,Gs,Ec,Ec,EY]at val;have l1:=Je a;have l2:=Je b;have m1:RB^(Aa a).length<=RB^max (Aa a).length (Aa b).length:=FT (by decide) (Nat.le_max_left _ _);have m2:RB^(Aa b).length<=RB^max (Aa a).length (Aa b).length:=FT (by decide) (Nat.le_max_right _ _);have m3:RB^(max (Aa a).length (Aa b).length+1)<=RB^i:=FT (by decide) h3;rw[CW]at m3;generalize RB^max (Aa a).length (Aa b).length=Q at*;change Q*1000000000<=_ at m3;omega
  have hmu3:=hmu _ J.c1 hmu2;rw[Ax h];generalize hp:(Aa a).getD i 0=p at*;generalize hq:(Aa b).getD i 0=q at*;have k1:IntKind.i64.wrap ((p:Int)+(q:Int))=((p+q:Nat):Int):=by rw[wI (by omega) (by unfold RB at hs;omega)];omega
  have k2:IntKind.i64.wrap (((p+q:Nat):Int)+(c:Int))=((p+q+c:Nat):Int):=by rw[wI (by omega) (by unfold RB at hs;omega)];omega
  have k3:((p+q+c:Nat):Int).tmod 1000000000=(((p+q+c)%RB:Nat):Int):=rfl;have k4:IntKind.i64.wrap (((p+q+c:Nat):Int).tdiv 1000000000)=(((p+q+c)/RB:Nat):Int):=by
   show IntKind.i64.wrap ((((p+q+c)/1000000000:Nat)):Int)=_;exact wN (by unfold RB at hs;omega)
  have wi:IntKind.i64.wrap ((i:Int)+1)=((i+1:Nat):Int):=wI;generalize(p+q+c)%RB=d at*;generalize(p+q+c)/RB=c' at*;have hlo:L.length<=1000001:=by rw[hL,Ae];omega
  have hmo:L++[Ac d]=(out++[d]).map Ac:=by rw[hL,DA];rfl
  clear hmu hmu2 ea eb hL I;refine AO ?_;refine Am ?_;refine AC.seq ?_;refine AC.block ?_;refine sR 600 ?_;refine cI d1 ?_;refine cI d2 ?_;simp only[k1,k2];refine AC.seq ?_;rcases L with _|⟨x,L⟩
  all_goals
   (try simp only[Br]at hlo)
   dsimp only[IW,IX,Gu,Gv];refine Aq 700 ?_;refine AV k3 ?_;refine Aq 800 ?_;refine AV k4 ?_;refine Aq 500 ?_;refine AV wi ?_
  ·exact⟨(i+1,c',out++[d],[]++[Ac d],_,_),⟨J,hmo,hbnd⟩,hmu3,AK⟩
  ·have htk:List.take (L.length+1) (x::L)=x::L:=by simp
   rw[htk];refine⟨(i+1,c',out++[d],x::L++[Ac d],_,_),⟨J,hmo,hbnd⟩,hmu3,by(dsimp only;rw[O0];exact AK)⟩
 ·rw[A8 h]
  have hc:c=0:=by omega
  subst hc;have hout:=pY I (by omega) (by omega);refine AO ?_;refine CO ?_;refine sR 900 ?_;refine Ag ?_;refine⟨_,SU _ _ _ _ _,?_,?_⟩
  ·rw[hL];exact PX _
  ·rw[hL,hout];rfl
set_option maxHeartbeats 4000000
theorem zQ {env:Ao}{t K g T n:Nat}{l:List D}(he:env.get t=EL K g 1 l:=by exact rfl):Wk ⟨env,EG K g T 1 l,n⟩ ⟨[(t,.sl false 1 l)],[],n⟩:=by
 refine⟨?_,⟨?_,trivial⟩,An _⟩
 ·cases l with
  |nil=>exact .nil
  |cons x l=>exact .drop .nil
 ·dsimp only
  rw[he];exact SU _ _ _ _ _
theorem tK {env:Ao}{t K g n N:Nat}{z:List Nat}{T:Nat}(hl:z.length=N)(he:env.get t=.osl K g 1 0 N:=by exact rfl):Wk ⟨env,[⟨K,g,T,1,z.map Ac⟩],n⟩ ⟨[(t,.sl false 1 (z.map Ac))],[],n⟩:=by
 subst hl;refine⟨.drop .nil,⟨?_,trivial⟩,An _⟩;dsimp only;rw[he]
 have:=SW K g T 1 (z.map Ac)
 rwa [Ae]at this
theorem l6 {a v c:Nat}(ha:a<RB)(hv:v<RB)(hc:c<=1):∃d c',d<RB/\c'<=1/\d+v+c=a+RB*c'/\((c'=0/\(a:Int)-v-c=d)\/(c'=1/\(a:Int)-v-c<0/\(a:Int)-v-c+1000000000=d)):=by
 unfold RB at ha hv⊢
 by_cases h:a<v+c
 ·exact⟨a+1000000000-v-c,1,by omega,by omega,by omega,.inr ⟨rfl,by omega,by omega⟩⟩
 ·exact⟨a-v-c,0,by omega,by omega,by omega,.inl ⟨rfl,by omega⟩⟩
theorem jV (a b:Nat)(hab:b<=a)(ha:(Aa a).length<1000000):AL C0 190 [rD a,rD b] (rD (a-b)):=by
 refine Ad.walk w1 vF rfl λF=>?_
 change AC C0 F none F _ ⟨Dm 0 [.sl false 1 ((Aa a).map Ac),.sl false 1 ((Aa b).map Ac)],[],0⟩ _;have hlb:=Jb b a hab;have va:=Ec a;have vb:=Ec b;have wx:=FL a;have wy:=FL b;generalize Aa a=x at*;generalize Aa b=y at*;have ea:(((x.map Ac).length:Nat):Int)=(x.length:Int):=by rw[Ae]
 refine sR 0 ?_;refine sR 100 ?_;refine sR 200 ?_;refine AC.seq ?_;refine sR 300 ?_;refine AC.block ?_;refine AC.loop (α:=Nat×Nat×List Nat×List D×Nat×Nat) (λp=>⟨[(0,.sl false 1 (x.map Ac)),(1,.sl false 1 (y.map Ac)),(5,EL 1103 p.2.2.2.2.1 1 p.2.2.2.1),(6,Ac p.2.1),(7,Ac p.1)],EG 1103 p.2.2.2.2.1 3 1 p.2.2.2.1,p.2.2.2.2.2⟩)
  (λp=>x.length-p.1) (λp=>p.1<=x.length/\p.2.1<=1/\p.2.2.1.length=p.1/\Rd p.2.2.1/\AP p.2.2.1+AP (y.take p.1)=AP (x.take p.1)+RB^p.1*p.2.1/\p.2.2.2.1=p.2.2.1.map Ac) (0,0,[],[],0,_) ⟨BT _,BT _,rfl,(λx hx=>Ak hx Dv),by simp[AP],rfl⟩ AK ?_
 rintro⟨i,c,out,L,g,n⟩ F ⟨hi,hc,hol,how,hI,hL⟩;dsimp only at hi hc hol how hI hL⊢;refine AC.seq ?_;refine AC.seq ?_
 by_cases h:i<x.length
 ·have e1:decide ((i:Int)<(x.length:Int))=true:=BX
  obtain⟨p,hp⟩:=Ch h;have hx:=EN hp;have hpl:=wx p (Au hp);have d2:=U5 y i (by omega) (by omega);unfold rL at d2;have hql:=UI wy i;have ty:=Tx y i;have tx:AP (x.take (i+1))=AP (x.take i)+RB^i*p:=by rw[Fy hp,Hs (i:=i) (by rw[Bd];omega)]
  generalize y.getD i 0=q at*;obtain⟨d,c',hd,hc',hdig,hcase⟩:=l6 hpl hql hc;have k1:IntKind.i64.wrap ((p:Int)-(q:Int))=(p:Int)-q:=wI (by unfold RB at*;omega) (by unfold RB at*;omega);have k2:IntKind.i64.wrap ((p:Int)-q-(c:Int))=(p:Int)-q-c:=wI (by unfold RB at*;omega) (by unfold RB at*;omega);have wi:IntKind.i64.wrap ((i:Int)+1)=((i+1:Nat):Int):=wI;have hlo:L.length<=1000001:=by rw[hL,Ae];omega
  have hmo:L++[Ac d]=(out++[d]).map Ac:=by rw[hL,DA];rfl
  have hvn:AP (out++[d])+AP (y.take (i+1))=AP (x.take (i+1))+RB^(i+1)*c':=by
   rw[Hs hol,ty,tx,CW,B6];have e3:RB^i*(d+q+c)=RB^i*(p+RB*c'):=by rw[hdig]
   rw[BO,BO,BO (RB^i) p]at e3;omega
  have how':Rd (out++[d]):=Rd.append how λx hx=>by
   simp only[A9,Dv,or_false]at hx;subst hx;exact hd
  have hol':(out++[d]).length=i+1:=by rw[Be,hol];rfl
  clear hI hL how;refine Aq 400 ?_;refine AV (Ab ea e1) ?_;refine AO ?_;refine Am ?_;refine AC.seq ?_;refine AC.block ?_;refine AC.seq ?_;refine CR 600 [0,1,2,3,4,5,6,7,8] [9,10] ?_;refine AF kN ?_;refine B3 kT hx ?_;refine AF kN ?_;refine Bf.same _ d2 AJ ?_;refine AF (Ab k1 k2) ?_;refine sR 700 ?_;refine DL (α:=Nat) (λn=>⟨[(0,.sl false 1 (x.map Ac)),(1,.sl false 1 (y.map Ac)),(5,EL 1103 g 1 L),(6,Ac c'),(7,Ac i),(8,Ac d)],EG 1103 g 3 1 L,n⟩) (λ_=>True) ?_ ?_
  ·generalize EL 1103 g 1 L=od at*
   generalize EG 1103 g 3 1 L=oh at*;refine AC.seq ?_;rcases hcase with⟨rfl,h2⟩|⟨rfl,h2,h3⟩
   ·have e2:decide ((p:Int)-q-c<0)=false:=Bc
    rw[h2]at e2;rw[h2];refine Aq 800 ?_;refine AV e2 ?_;refine AO ?_;refine Am ?_;exact⟨rfl,_,trivial,AK⟩
   ·have e2:decide ((p:Int)-q-c<0)=true:=Ax h2
    have k3:IntKind.i64.wrap ((p:Int)-q-c+1000000000)=(d:Int):=by rw[h3];exact wI (by unfold RB at*;omega) (by unfold RB at*;omega)
    refine Aq 800 ?_;refine AV e2 ?_;refine AO ?_;refine sZ 900 ?_;refine AV k3 ?_;refine rI 1000 ?_;exact⟨rfl,_,trivial,AK⟩
  rintro n3 -;rcases L with _|⟨x0,L⟩
  all_goals
   (try simp only[Br]at hlo)
   dsimp only[IW,IX,Gu,Gv];refine rI 1100 ?_;refine Aq 500 ?_;refine AV wi ?_
  ·exact⟨(i+1,c',out++[d],[]++[Ac d],_,_),⟨h,hc',hol',how',hvn,hmo⟩,by dsimp only;omega,AK⟩
  ·have htk:List.take (L.length+1) (x0::L)=x0::L:=by simp
   rw[htk];refine⟨(i+1,c',out++[d],x0::L++[Ac d],_,_),⟨h,hc',hol',how',hvn,hmo⟩,by dsimp only;omega,by(dsimp only;rw[O0];exact AK)⟩
 ·have e1:decide ((i:Int)<(x.length:Int))=false:=Bc
  have hix:i=x.length:=by omega
  subst hix;rw[Gs,Gs,va,vb]at hI;have hlt:=Gx how;rw[hol]at hlt;have hxl:=Gx wx;rw[va]at hxl;have hov:AP out=a-b:=by
   rcases EC c with h|h
   ·subst h;rw[FF]at hI;omega
   ·have:c=1:=by omega
    subst this;rw[EY]at hI;omega
  refine Aq 400 ?_;refine AV (Ab ea e1) ?_;refine AO ?_;refine CO ?_;refine AC.weak ⟨[(5,.sl false 1 L)],[],_⟩ zQ ?_;rw[hL];refine sR 1200 ?_;refine BE.same _ (Mk out how (by omega)) AJ ?_;refine BR ?_;refine Ag ?_;exact AM (by rw[hov]) AA.out
theorem Ws (a b:Nat)(hla:(Aa a).length<1000000)(hlb:(Aa b).length<1000000):AL C0 183 [rD a,rD b] (rD (a*b)):=by
 refine Ad.walk w1 uy rfl λF=>?_
 change AC C0 F none F _ ⟨Dm 0 [.sl false 1 ((Aa a).map Ac),.sl false 1 ((Aa b).map Ac)],[],0⟩ _;have va:=Ec a;have vb:=Ec b;have ha:=FL a;have hb:=FL b;generalize Aa a=x at*;generalize Aa b=y at*;subst va;subst vb;have ea:(((x.map Ac).length:Nat):Int)=(x.length:Int):=by rw[Ae]
 have eb:(((y.map Ac).length:Nat):Int)=(y.length:Int):=by rw[Ae]
 have wl:IntKind.i64.wrap ((x.length:Int)+(y.length:Int))=((x.length+y.length:Nat):Int):=by rw[wI];omega
 have r3:List.replicate (x.length+y.length) (ofV (.int .i64 0))=(List.replicate (x.length+y.length) 0).map Ac:=by rw[Kw];rfl
 refine sR 0 ?_;refine sZ 100 ?_;refine AV (Bb ea eb wl kN) ?_;refine AC.seq ?_;refine sR 200 ?_;refine AC.block ?_;refine AC.loop (α:=Nat×List Nat×Nat) (λp=>⟨[(0,.sl false 1 (x.map Ac)),(1,.sl false 1 (y.map Ac)),(5,.osl 105 6 1 0 (x.length+y.length)),(6,i64 p.1)],[⟨105,6,3,1,p.2.1.map Ac⟩],p.2.2⟩) (λp=>x.length-p.1)
  (λp=>p.1<=x.length/\p.2.1.length=x.length+y.length/\Rd p.2.1/\AP p.2.1=AP (x.take p.1)*AP y/\∀k,p.1+y.length<=k->∀d,p.2.1[k]?=some d->d=0) (0,List.replicate (x.length+y.length) 0,_)
  ⟨BT _,by simp,T3 _,by simp[AP,Xr],λk _ d hd=>QU (Au hd)⟩ (by rw[<-r3];exact AK) ?_
 rintro⟨i,o,m⟩ F ⟨h1,h2,h3,h4,h5⟩;dsimp only at h1 h2 h3 h4 h5⊢;refine AC.seq ?_;refine AC.seq ?_
 by_cases hi:i<x.length
 ·have e1:decide ((i:Int)<(x.length:Int))=true:=BX
  obtain⟨p,hp⟩:=Ch hi;have hp':=EN hp;have hpl:p<RB:=ha p (Au hp);have wi:IntKind.i64.wrap ((i:Int)+1)=((i+1:Nat):Int):=wI;have hax:AP (x.take (i+1))=AP (x.take i)+RB^i*p:=by rw[Fy hp,Hs (i:=i) (by rw[Bd];omega)]
  refine Aq 300 ?_;refine AV (Ab ea e1) ?_;refine AO ?_;refine Am ?_;refine AC.seq ?_;refine AC.block ?_;refine sR 500 ?_;refine AC.seq ?_;refine sR 600 ?_;refine AC.block ?_;refine AC.loop (α:=Nat×Nat×List Nat×Nat) (λq=>⟨[(0,.sl false 1 (x.map Ac)),(1,.sl false 1 (y.map Ac)),(5,.osl 105 6 1 0 (x.length+y.length)),(6,i64 i),(7,Ac q.2.1),(8,i64 q.1)],[⟨105,6,3,1,q.2.2.1.map Ac⟩],q.2.2.2⟩) (λq=>y.length-q.1)
   (λq=>q.1<=y.length/\q.2.1<RB/\q.2.2.1.length=x.length+y.length/\Rd q.2.2.1/\AP q.2.2.1+RB^(i+q.1)*q.2.1=AP (x.take i)*AP y+RB^i*p*AP (y.take q.1)/\∀k,i+y.length<=k->∀d,q.2.2.1[k]?=some d->d=0) (0,0,o,_)
   ⟨BT _,(show 0<RB by decide),h2,h3,by simp[AP,h4],h5⟩ AK ?_
  rintro⟨j,c,q,m2⟩ F ⟨g1,g2,g3,g4,g5,g6⟩;dsimp only at g1 g2 g3 g4 g5 g6⊢;clear h2 h3 h4 h5 r3 wl;refine AC.seq ?_;refine AC.seq ?_
  by_cases hj:j<y.length
  ·have e2:decide ((j:Int)<(y.length:Int))=true:=BX
   obtain⟨r,hr⟩:=Ch hj;have hr':=EN hr;have hrl:r<RB:=hb r (Au hr);obtain⟨z,hz⟩:=Ch (l:=q) (i:=i+j) (by omega);have hz':=EN hz;have hzl:z<RB:=g4 z (Au hz);have wj:IntKind.i64.wrap ((j:Int)+1)=((j+1:Nat):Int):=wI;have wij:IntKind.i64.wrap ((i:Int)+(j:Int))=((i+j:Nat):Int):=by rw[wI];omega
   have hbx:AP (y.take (j+1))=AP (y.take j)+RB^j*r:=by rw[Fy hr,Hs (i:=j) (by rw[Bd];omega)]
   have hpr:p*r<=999999999*999999999:=GH (by unfold RB at hpl;omega) (by unfold RB at hrl;omega);have k0:IntKind.i64.wrap ((p:Int)*(r:Int))=((p*r:Nat):Int):=by rw[<-Gj,wI]
   have k1:IntKind.i64.wrap ((z:Int)+((p*r:Nat):Int))=((z+p*r:Nat):Int):=by rw[wI (by omega) (by unfold RB at*;omega)];omega
   have k2:IntKind.i64.wrap (((z+p*r:Nat):Int)+(c:Int))=((z+p*r+c:Nat):Int):=by rw[wI (by omega) (by unfold RB at*;omega)];omega
   have hs:=O7 (d:=(z+p*r+c)%RB) hz;have e:=FX (z+p*r+c) RB;have hq:(z+p*r+c)/RB<RB:=Fq (by unfold RB at*;omega);have hd:(z+p*r+c)%RB<RB:=CI _ (by decide);have k3:((z+p*r+c:Nat):Int).tmod 1000000000=(((z+p*r+c)%RB:Nat):Int):=rfl;have k4:IntKind.i64.wrap (((z+p*r+c:Nat):Int).tdiv 1000000000)=(((z+p*r+c)/RB:Nat):Int):=by
    show IntKind.i64.wrap ((((z+p*r+c)/1000000000:Nat)):Int)=_;exact wN (by change(z+p*r+c)/RB<=_;unfold RB at hq⊢;omega)
   have hval:AP (q.set (i+j) ((z+p*r+c)%RB))+RB^(i+(j+1))*((z+p*r+c)/RB)=AP (x.take i)*AP y+RB^i*p*AP (y.take (j+1)):=by
    rw[hbx,BO,<-FE (AP (x.take i)*AP y),<-g5];have h6:RB^(i+j)*((z+p*r+c)%RB)+RB^(i+(j+1))*((z+p*r+c)/RB)=RB^i*p*(RB^j*r)+RB^(i+j)*z+RB^(i+j)*c:=by
     have:RB^i*p*(RB^j*r)=RB^(i+j)*(p*r):=by
      rw[Gl,B6,B6,JU p]
     rw[this,<-FE i j 1,CW,B6,<-BO,<-BO,<-BO,e]
     congr 1;omega
    omega
   generalize(z+p*r+c)%RB=d at*;generalize(z+p*r+c)/RB=c' at*;clear hs e g5 hax hbx;refine Aq 700 ?_;refine AV (Ab eb e2) ?_;refine AO ?_;refine Am ?_;refine AC.seq ?_;refine AC.block ?_;refine AC.seq ?_;refine CR 900 [0,1,2,3,4,5,6,7,8,9,10,11,12,13,14,15,16] [17,18] ?_;refine AF (Bb wij kN BW hz') ?_;refine B3 kT hp' ?_;refine AF (Bb wij kN BW hz') ?_;refine B3 kT hr' ?_;refine AF (Ar k0 k1 k2) ?_;refine sZ 1000 ?_;refine AF (CN wij kN BW hz' k3) ?_;rw[Ny];refine Aq 1100 ?_;refine AV k4 ?_;refine Aq 800 ?_;refine AV wj ?_;refine⟨(j+1,c',q.set (i+j) d,_),⟨hj,hq,by dsimp only;rw[Db];exact g3,g4.set hd,hval,λk hk d hd=>?_⟩,by dsimp only;omega,AK⟩;dsimp only at hk hd;rw[In (by omega)]at hd;exact g6 k hk d hd
  ·have e2:decide ((j:Int)<(y.length:Int))=false:=Bc
   have hj:j=y.length:=by omega
   subst hj;obtain⟨z,hz⟩:=Ch (l:=q) (i:=i+y.length) (by omega);have hz0:z=0:=g6 _ (An _) _ hz;subst hz0;have hz':=EN hz;have wij:IntKind.i64.wrap ((i:Int)+(y.length:Int))=((i+y.length:Nat):Int):=by rw[wI];omega
   have wij0:IntKind.i64.wrap ((i:Int)+(((y.map Ac).length:Nat):Int))=((i+y.length:Nat):Int):=by rw[eb];exact wij
   have k1:IntKind.i64.wrap (((0:Nat):Int)+(c:Int))=(c:Int):=by rw[wI (by omega) (by unfold RB at*;omega)];omega
   have hs:=O7 (d:=c) hz;rw[Cp (An _)]at g5;have hval:AP (q.set (i+y.length) c)=AP (x.take (i+1))*AP y:=by
    rw[hax,B0];omega
   clear hs g5 hax;refine Aq 700 ?_;refine AV (Ab eb e2) ?_;refine AO ?_;refine CO ?_;refine Aq 1200 ?_;refine AF (EP eb wij kN BW hz' k1) ?_;rw[Ny];refine Aq 400 ?_;refine AV wi ?_;refine⟨(i+1,q.set (i+y.length) c,_),⟨hi,by dsimp only;rw[Db];exact g3,g4.set g2,hval,λk hk d hd=>?_⟩,by dsimp only;omega,AK⟩;dsimp only at hk hd;rw[In (by omega)]at hd;exact g6 k (by omega) d hd
 ·have e1:decide ((i:Int)<(x.length:Int))=false:=Bc
  have hi:i=x.length:=by omega
  subst hi;rw[Cp (An _)]at h4;refine Aq 300 ?_;refine AV (Ab ea e1) ?_;refine AO ?_;refine CO ?_;refine AC.weak ⟨[(5,.sl false 1 (o.map Ac))],[],_⟩ (tK h2) ?_;refine sR 1300 ?_;refine BE.same _ (Mk o h3 (by omega)) AJ ?_;refine BR ?_;refine Ag ?_;exact AM (by rw[h4]) AA.out
theorem P5 (a b:Nat)(h:a/b<=9223372036854775807):IntKind.i64.wrap ((a:Int).tdiv (b:Int))=((a/b:Nat):Int):=by
 rw[<-Int.ofNat_tdiv];exact wN h
theorem Sx (a b:Nat):(a:Int).tmod (b:Int)=((a%b:Nat):Int):=(Int.ofNat_tmod a b).symm
theorem rC {env:Ao}{t K g n N t2:Nat}{z:List Nat}{T:Nat}{d2:D}(hl:z.length=N)(he:env.get t=.osl K g 1 0 N:=by exact rfl)(h2:env.get t2=d2:=by exact rfl):Wk ⟨env,[⟨K,g,T,1,z.map Ac⟩],n⟩ ⟨[(t,.sl false 1 (z.map Ac)),(t2,d2)],[],n⟩:=by
 subst hl;refine⟨.drop .nil,⟨?_,?_,trivial⟩,An _⟩
 ·dsimp only
  rw[he]
  have:=SW K g T 1 (z.map Ac)
  rwa [Ae]at this
 ·dsimp only
  rw[h2];exact .refl _
theorem qF {r p d:Nat}(h:r*RB+p<d*RB)(hd:d<RB):IntKind.i64.wrap ((r:Int)*1000000000)=((r*RB:Nat):Int)/\IntKind.i64.wrap (((r*RB:Nat):Int)+(p:Int))=((r*RB+p:Nat):Int):=by
 unfold RB at*;refine⟨?_,?_⟩
 ·rw[wI];omega
 ·rw[wI];omega
theorem YE (a d:Nat)(hd:0<d)(hdl:d<RB)(hl:(Aa a).length<1000000):AL C0 181 [rD a,Ac d] (.tup [rD (a/d),Ac (a%d)]):=by
 refine Ad.walk w1 ux rfl λF=>?_
 change AC C0 F none F _ ⟨Dm 0 [.sl false 1 ((Aa a).map Ac),Ac d],[],0⟩ _;have va:=Ec a;have wa:=FL a;generalize Aa a=x at*;have ea:(((x.map Ac).length:Nat):Int)=(x.length:Int):=by rw[Ae]
 have wl:IntKind.i64.wrap ((x.length:Int)-1)=(x.length:Int)-1:=wI;have r3:List.replicate x.length (ofV (.int .i64 0))=(List.replicate x.length 0).map Ac:=by rw[Kw];rfl
 have d0:¬(d:Int)=0:=by omega
 refine sR 0 ?_;refine sZ 100 ?_;refine AV (Ab ea kN) ?_;refine sR 200 ?_;refine AC.seq ?_;refine sZ 300 ?_;refine AV (Ab ea wl) ?_;refine AC.block ?_;refine AC.loop (α:=Nat×Nat×List Nat×Nat) (λp=>⟨[(0,.sl false 1 (x.map Ac)),(1,Ac d),(6,.osl 102 4 1 0 x.length),(7,Ac p.2.1),(8,i64 ((p.1:Int)-1))],[⟨102,4,3,1,p.2.2.1.map Ac⟩],p.2.2.2⟩) (λp=>p.1)
  (λp=>p.1<=x.length/\p.2.1<d/\p.2.2.1.length=x.length/\Rd p.2.2.1/\AP (p.2.2.1.drop p.1)*d+p.2.1=AP (x.drop p.1)) (x.length,0,List.replicate x.length 0,_)
  ⟨An _,hd,by simp,T3 _,by simp[AP]⟩ (by rw[<-r3];exact AK) ?_
 rintro⟨k,r,q,m⟩ F ⟨h1,h2,h3,h4,h5⟩;dsimp only at h1 h2 h3 h4 h5⊢;clear ea wl r3;refine AC.seq ?_;refine sR 400 ?_;refine AO ?_
 (refine B7 (λh20=>?_) (λh20=>?_))<;>(try simp only[Bs,B5]at h20)<;>(try simp only[h20])
 ·obtain⟨j,rfl⟩:∃j,k=j+1:=⟨k-1,by
   have:=DN h20
   omega⟩
  have wj:((j+1:Nat):Int)-1=(j:Int):=by omega
  obtain⟨p,hp⟩:=Ch (l:=x) (i:=j) (by omega);obtain⟨z,hz⟩:=Ch (l:=q) (i:=j) (by omega);have hp':=EN hp;have hz':=EN hz;have hpl:=wa p (Au hp);obtain⟨J1,J2⟩:=kn hd hp (by omega) h5;have hsb:r*RB+p<d*RB:=by
   have:(r+1)*RB<=d*RB:=CV _ h2
   rw[B0]at this;omega
  have hql:(r*RB+p)/d<RB:=Fq hsb;obtain⟨k1,k2⟩:=qF hsb hdl;have k3:=P5 (r*RB+p) d (BV (Jz hql) (by decide));have k4:=Sx (r*RB+p) d;have wi:IntKind.i64.wrap ((j:Int)-1)=(j:Int)-1:=wI;generalize(r*RB+p)/d=e at*;generalize(r*RB+p)%d=r' at*;rw[wj];refine Am ?_;refine AC.seq ?_;refine AC.block ?_;refine sZ 600 ?_;refine AF kN ?_;refine B3 kT hp' ?_;refine AF (Ab k1 k2) ?_;refine sZ 700 ?_;refine AF (Bb kN BW hz' k3) ?_;rw[Ny];refine Aq 800 ?_;refine AV k4 ?_;refine Aq 500 ?_;refine AV wi ?_;exact⟨(j,r',q.set j e,_),⟨by dsimp only;omega,J2,by dsimp only;rw[Db];exact h3,h4.set hql,J1⟩,by dsimp only;omega,AK⟩
 ·have hk:k=0:=by
   have:=Ds h20
   omega
  subst hk;rw[GR,GR,va]at h5;obtain⟨q1,q2⟩:=RG h5 h2;refine CO ?_;refine AC.weak ⟨[(6,.sl false 1 (q.map Ac)),(7,Ac r)],[],_⟩ (rC h3) ?_;refine sR 900 ?_;refine BE.same _ (Mk q h4 (by omega)) AJ ?_;refine BR ?_;refine Ag ?_;exact AM (by rw[q1,q2]) AA.out
structure KV (U V n2 v1 p1 q r:Nat):Prop where
 eq:q*v1+r=n2
 up:U<(q+1)*V
 cap:n2<=v1*RB+p1
 p1l:p1<RB
namespace KV
variable {U V n2 v1 p1 q r:Nat} (G:KV U V n2 v1 p1 q r)
include G
theorem small (h:RB<=r):q<RB:=by
 rcases BC q RB with h1|h1
 ·exact h1
 ·exfalso
  have h2:=CV v1 h1;have h3:=G.eq;have h4:=G.cap;have h5:=G.p1l;rw[Ba RB v1]at h2;omega
theorem qle (hv:0<v1):q<=2*RB:=by
 rcases BC (2*RB) q with h1|h1
 ·exfalso
  have h2:=CV v1 h1;have h3:=G.eq;have h4:=G.cap;have h5:=G.p1l;have h6:RB*1<=RB*v1:=Cs _ hv;rw[Nat.succ_mul,B6,Ba RB v1]at h2;rw[Ba RB v1]at h6;omega
 ·exact h1
end KV
section
variable {P v:List Nat} {m p0 p1 p2 v2 v1:Nat} (S:LY P v m p0 p1 p2 v2 v1)
include S
theorem ku:KV (AP P) (AP v) (p1+RB*p2) v1 p1 ((p2*RB+p1)/v1) ((p2*RB+p1)%v1):=by
 have c0:p2*RB+p1=p1+RB*p2:=by rw[Ba,L2]
 rw[c0];have e:=FG (p1+RB*p2) v1;have l:=CI (p1+RB*p2) S.top;have c1:=Ba v1 ((p1+RB*p2)/v1);refine⟨by omega,X7 S.below2 S.abovev ?_,?_,S.p1l⟩
 ·rw[B0];omega
 ·have:=Cs RB S.p2v1
  rw[Ba v1];omega
theorem lF {q r:Nat}(G:KV (AP P) (AP v) (p1+RB*p2) v1 p1 q r)(h:RB<=q\/r*RB+p0<q*v2):0<q/\KV (AP P) (AP v) (p1+RB*p2) v1 p1 (q-1) (r+v1):=by
 obtain⟨e,u,cp,pl⟩:=G;have hq:0<q:=by
  rcases h with h|h
  ·unfold RB at h;omega
  ·rcases EC q with h0|h0
   ·subst h0;omega
   ·exact h0
 obtain⟨k,rfl⟩:∃k,q=k+1:=⟨q-1,by omega⟩
 refine⟨hq,⟨?_,?_,cp,pl⟩⟩
 ·rw[JT,<-e,B0];omega
 ·rw[JT]
  rcases h with h|h
  ·have h1:AP v*RB<=(k+1)*AP v:=by rw[Ba];exact CV _ h
   have:=S.less
   omega
  ·have e2:(k+1)*(v2+RB*v1)=(k+1)*v2+RB*((k+1)*v1):=by rw[BO,JU]
   refine YM S.below3 S.abovev2 ?_;rw[e2,<-e,BO RB,Ba RB r];omega
theorem X8 {q r:Nat}(G:KV (AP P) (AP v) (p1+RB*p2) v1 p1 q r)(h:RB<=r\/(q<RB/\q*v2<=r*RB+p0)):q<RB/\q*AP v<=AP P+AP v:=by
 have hqB:q<RB:=by
  rcases h with h|h
  ·exact G.small h
  ·exact h.1
 obtain⟨e,u,cp,pl⟩:=G;have h5:=S.v2l;have hq:q*v2<=r*RB+p0:=by
  rcases h with h|h
  ·have h2:q*v2<=RB*RB:=GH (by omega) (by omega)
   have h3:RB*RB<=r*RB:=CV _ h;omega
  ·exact h.2
 have e2:q*(v2+RB*v1)=q*v2+RB*(q*v1):=by rw[BO,JU]
 refine⟨hqB,ZB (n3:=p0+RB*(p1+RB*p2)) (D:=v2+RB*v1) (P:=RB^m) (B:=RB) (v:=AP (v.take m)) ?_ ?_ S.lowv ?_ (by omega) ?_⟩
 ·rw[S.valP,Ba];omega
 ·rw[S.valv,Ba];omega
 ·rw[e2,<-e,BO RB,Ba RB r]
  omega
 ·have:=S.top
  have h1:=Cs RB (show 1<=v1 from this);omega
end
theorem Dx.of {H:Hp}{d0 d:D}(h:Fz H [] d0 d):Dx H d0 d:=λ_ _ _ _ m hO hN _ hv=>h.rep m hO (λe he b hb _=>hN e he b hb) hv
theorem e2t {C:BA}{f:Nat}{ds ds':List D}{Φ:D->Prop}{H:Hp}{n:Nat}(hc:Ad C f ds' Φ)(hl:ds'.length=ds.length)(hv:∀(i:Nat) (a b:D),ds[i]?=some a->ds'[i]?=some b->Dx H a b)
  (hp:Ah ds') (hflat:∀d,Φ d->Kh d):Cv C f ds H n (λd' H' n'=>Φ d'/\H'=H/\n'=n+1):=by
 refine⟨hc.1,λF ρ w vs m hfr hg hvs hr=>?_⟩;have hH:C3 H [] H []:=by
  generalize H=H0
  have:∀H1:Hp,C3 H0 [] H1 []:=λH1=>by
   induction H1 with
   |nil=>exact .nil
   |cons e r ih=>exact .drop ih
  exact this H0
 obtain⟨m',hO,hN⟩:=hH.mem m;refine(hc.2 (AN F.X ρ []) w vs m.g (BV m.gn m.size) (λb hb=>m'.own_lt hb) (by omega) λi x hx=>?_).mono ?_
 ·have hi:i<ds'.length:=(BS.1 hx).1
  have hd0:ds[i]?=some ds[i]:=Cu;exact hp.out x (Au hx) _ _ _ _ _ (hv i _ x hd0 hx C F ρ w m hO (λe he b hb=>hN e he b hb rfl) _ (hr i _ hd0))
 ·rintro e w' ⟨v,d',rfl,hb,hd',rep⟩
  have x:BY ρ (AN F.X ρ H) w ρ (AN F.X ρ H) w':=⟨hb.size,λ_ _ _ h=>h,λb hb' hO=>⟨hO,hb.block b hb'⟩,λb cs T fz hh=>⟨cs,_,by
   rw[hb.block b (DB.1 hh).1];exact hh,rfl⟩⟩
  exact⟨v,_,H,n+1,ρ,rfl,⟨hd',rfl,rfl⟩,m.same x hb.os hb.tape hb.output hb.block,x,λk g hg'=>hfr k g (by omega),λe he=>Dg (hg e he),hflat _ hd' _ _ _ _ _ _ _ rep⟩
def ZQ (P v:List Nat)(d:D):Prop:=∃q,d=Ac q/\q<RB/\AP P<(q+1)*AP v/\q*AP v<=AP P+AP v
theorem oL {p2 p1 v1:Nat}(h1:p1<RB)(h2:p2<RB):IntKind.i64.wrap ((p2:Int)*1000000000)=((p2*RB:Nat):Int)/\IntKind.i64.wrap (((p2*RB:Nat):Int)+(p1:Int))=((p2*RB+p1:Nat):Int) /\
  IntKind.i64.wrap (((p2*RB+p1:Nat):Int).tdiv (v1:Int))=(((p2*RB+p1)/v1:Nat):Int):=by
 have h3:=GQ (p2*RB+p1) v1;unfold RB at*;refine⟨?_,?_,?_⟩
 ·rw[wI];omega
 ·rw[wI];omega
 ·exact P5 _ _ (by omega)
theorem m8 {t r v2 p0:Nat}(ht:t<RB)(hr:r<RB)(h2:v2<RB)(h0:p0<RB):IntKind.i64.wrap ((t:Int)*(v2:Int))=((t*v2:Nat):Int)/\IntKind.i64.wrap ((r:Int)*1000000000)=((r*RB:Nat):Int) /\
  IntKind.i64.wrap (((r*RB:Nat):Int)+(p0:Int))=((r*RB+p0:Nat):Int):=by
 have h3:t*v2<=999999999*999999999:=GH (by unfold RB at ht;omega) (by unfold RB at h2;omega);unfold RB at*;refine⟨?_,?_,?_⟩
 ·rw[<-Gj,wI]
 ·rw[wI];omega
 ·rw[wI];omega
theorem tg {t v2 r p0:Nat}(h:t<RB):decide (((t*v2:Nat):Int)>((r*RB+p0:Nat):Int))=decide (RB<=t\/r*RB+p0<t*v2):=
 DO.2 ⟨λh1=>.inr (Int.ofNat_lt.1 h1),λh1=>Int.ofNat_lt.2 (h1.resolve_left (Nat.not_le.2 h))⟩
theorem th {t v2 r p0:Nat}(h:¬(RB<=t\/r*RB+p0<t*v2)):t<RB/\t*v2<=r*RB+p0:=⟨Nat.lt_of_not_le λh1=>h (.inl h1),Nat.le_of_not_lt λh1=>h (.inr h1)⟩
theorem tj {P v:List Nat}{m p0 p1 p2 v2 v1:Nat}(S:LY P v m p0 p1 p2 v2 v1):∃a1 T q0 r0:Nat,IntKind.i64.wrap ((p2:Int)*1000000000)=(a1:Int)/\IntKind.i64.wrap ((a1:Int)+(p1:Int))=(T:Int) /\
  IntKind.i64.wrap ((T:Int).tdiv (v1:Int))=(q0:Int)/\(T:Int).tmod (v1:Int)=(r0:Int)/\KV (AP P) (AP v) (p1+RB*p2) v1 p1 q0 r0/\r0<RB:=by
 obtain⟨k1,k2,k3⟩:=oL (v1:=v1) S.p1l S.p2l;exact⟨_,_,_,_,k1,k2,k3,Sx _ v1,ku S,Gk (CI _ S.top) S.v1l⟩
theorem q8 {t r v2 p0:Nat}(ht:t<RB)(hr:r<RB)(h2:v2<RB)(h0:p0<RB):∃a1 a2 a3:Nat,IntKind.i64.wrap ((t:Int)*(v2:Int))=(a3:Int)/\IntKind.i64.wrap ((r:Int)*1000000000)=(a1:Int) /\
  IntKind.i64.wrap ((a1:Int)+(p0:Int))=(a2:Int)/\decide ((a3:Int)>(a2:Int))=decide (RB<=t\/r*RB+p0<t*v2):=by
 obtain⟨q1,q2,q3⟩:=m8 ht hr h2 h0;exact⟨_,_,_,q1,q2,q3,tg ht⟩
theorem s5 (U v:List Nat)(j m p0 p1 p2 v2 v1:Nat)(S:LY ((U.drop j).take (m+3)) v m p0 p1 p2 v2 v1)(hj:j+(m+3)<=U.length)(hU:U.length<4000000):Ad C0 184 [rL U,rL v,Ac j] (ZQ ((U.drop j).take (m+3)) v):=by
 refine Ad.walk w1 uz rfl λF=>?_
 unfold rL;have hg:∀ {k p:Nat},((U.drop j).take (m+3))[k]?=some p->U[j+k]?=some p:=λ{k p} h=>by
  rw[FU]at h;split at h
  ·rwa [IH]at h
  ·cases h
 have u0:=EN (hg S.h0);have u1:=EN (hg S.h1);have u2:=EN (hg S.h2);have y1:=EN S.g1;have y2:=EN S.g2;have l0:=S.p0l;have l1:=S.p1l;have l2:=S.p2l;have lv1:=S.v1l;have lv2:=S.v2l;have ev:(((v.map Ac).length:Nat):Int)=((m+2:Nat):Int):=by rw[Ae,S.lv]
 have eu:(((U.map Ac).length:Nat):Int)=(U.length:Int):=by rw[Ae]
 have w0:IntKind.i64.wrap ((j:Int)+((m+2:Nat):Int))=((j+(m+2):Nat):Int):=by rw[wI];omega
 have wa:IntKind.i64.wrap (((j+(m+2):Nat):Int)-1)=((j+(m+1):Nat):Int):=by rw[wI];omega
 have wb:IntKind.i64.wrap (((j+(m+2):Nat):Int)-2)=((j+m:Nat):Int):=by rw[wI];omega
 have wc:IntKind.i64.wrap (((m+2:Nat):Int)-1)=((m+1:Nat):Int):=by rw[wI];omega
 have wd:IntKind.i64.wrap (((m+2:Nat):Int)-2)=(m:Int):=by rw[wI];omega
 have ra:IntKind.i64.wrap (IntKind.i64.wrap ((j:Int)+((m+2:Nat):Int))-1)=((j+(m+1):Nat):Int):=by rw[w0,wa]
 have rb:IntKind.i64.wrap (IntKind.i64.wrap ((j:Int)+((m+2:Nat):Int))-2)=((j+m:Nat):Int):=by rw[w0,wb]
 obtain⟨a1,T,q0,r0,k1,k2,k3,k4,G0,hr0⟩:=tj S;have v0:¬(v1:Int)=0:=by have:=S.top;omega
 have hvl:=S.lv;refine sR 0 ?_;refine sZ 100 ?_;refine AV ev ?_;refine AC.seq ?_;refine CR 200 [0,1,2,3,4,5,6,7,8,9,10,11,12,13] [14,15] ?_;refine AF (Bb w0 wa ra kN) ?_;refine B3 kT u2 ?_;refine AF (Bb w0 wa ra kN) ?_;refine B3 kT u1 ?_;refine AF (EP w0 wa ra kN k1 k2) ?_;refine AC.seq ?_;refine CR 300 [0,1,2,3,4,5,6,7,8,9,10,11,12,13,14] [15] ?_;refine AF (Ab wc kN) ?_;refine B3 kT y1 ?_;refine AF (Ab wc kN) ?_;refine B3 kT y1 ?_;refine AF (Bb wc kN k3 k4) ?_;refine DL (α:=Nat×Nat) (λp=>⟨[(9,Ac p.1)],[],p.2⟩) (λp=>p.1<RB/\AP ((U.drop j).take (m+3))<(p.1+1)*AP v/\p.1*AP v<=AP ((U.drop j).take (m+3))+AP v) ?_ ?_
 ·refine AC.block ?_
  refine Gi (α:=Nat×Nat×Nat) (λp=>⟨[(0,.sl false 1 (U.map Ac)),(1,.sl false 1 (v.map Ac)),(2,Ac j),(7,i64 ((m+2:Nat):Int)),(9,Ac p.1),(10,Ac p.2.1)],[],p.2.2⟩) (λp=>p.1)
   (λp F'=>F'=F/\KV (AP ((U.drop j).take (m+3))) (AP v) (p1+RB*p2) v1 p1 p.1 p.2.1/\p.2.1<RB) (q0,r0,_) ⟨rfl,G0,hr0⟩ AK ?_
  rintro⟨t,r,n⟩ F' ⟨rfl,G,hr⟩;dsimp only at G hr⊢;clear G0 hr0 k1 k2 k3 k4 u1 u2 ra wa;have htl:=G.qle S.top;obtain⟨b,hb⟩:∃b,b=decide (RB<=t\/r*RB+p0<t*v2):=⟨_,rfl⟩
  refine AC.seq ?_;refine DL (α:=Nat) (λn=>⟨[(0,.sl false 1 (U.map Ac)),(1,.sl false 1 (v.map Ac)),(2,Ac j),(7,i64 ((m+2:Nat):Int)),(9,Ac t),(10,Ac r),(63,Ap b)],[],n⟩) (λ_=>True) ?_ ?_
  ·rcases BC t RB with h|h
   ·have e1:decide ((t:Int)>=1000000000)=false:=A8 (by unfold RB at h;omega)
    obtain⟨a1,a2,a3,q1,q2,q3,q4⟩:=q8 h hr lv2 l0;rw[<-hb]at q4;clear hb;rw[<-q4];refine CR 400 [0,1,2,3,4,5,6,7,8,9,10,11,12,13,14,15,16,17,18,19] [20,21] ?_;refine AF e1 ?_;refine AF (Ar kF wd kN) ?_;refine B3 kF y2 ?_;refine AF (CN kF w0 wb rb kN) ?_;refine B3 kF u0 ?_;refine AF (Bb kF q1 q2 q3) ?_;refine AF kF ?_;exact⟨trivial,_,trivial,AK⟩
   ·have e1:decide ((t:Int)>=1000000000)=true:=Ax (by unfold RB at h;omega)
    have e2:b=true:=hb.trans (Ax (.inl h));subst e2;refine CR 400 [0,1,2,3,4,5,6,7,8,9,10,11,12,13,14,15,16,17,18,19] [20,21] ?_;refine AF e1 ?_;refine AF kT ?_;refine AF kT ?_;exact⟨trivial,_,trivial,AK⟩
  rintro n2 -;cases b with
  |true=>
   have hc:=DN hb.symm;obtain⟨t0,G2⟩:=lF S G hc;have j1:IntKind.i64.wrap ((t:Int)-1)=((t-1:Nat):Int):=by rw[wI (by omega) (by unfold RB at htl;omega)];omega
   have j2:IntKind.i64.wrap ((r:Int)+(v1:Int))=((r+v1:Nat):Int):=by rw[wI (by omega) (by unfold RB at hr lv1;omega)];omega
   clear hc hb;refine AO ?_;refine Am ?_;refine AC.block ?_;refine sZ 500 ?_;refine AV j1 ?_;refine sZ 600 ?_;refine AF (Ab wc kN) ?_;refine B3 kT y1 ?_;refine AF j2 ?_;refine AC.seq ?_;rcases BC (r+v1) RB with h|h
   ·have e3:decide (((r+v1:Nat):Int)>=1000000000)=false:=A8 (by unfold RB at h;omega)
    refine Aq 700 ?_;refine AV e3 ?_;refine AO ?_;refine Am ?_;exact⟨(t-1,r+v1,_),⟨rfl,G2,h⟩,by dsimp only;omega,AK⟩
   ·have e3:decide (((r+v1:Nat):Int)>=1000000000)=true:=Ax (by unfold RB at h;omega)
    obtain⟨g1,g2⟩:=X8 S G2 (.inl h);refine Aq 700 ?_;refine AV e3 ?_;refine AO ?_;refine sR 800 ?_;refine Ag ?_;exact⟨_,.refl _,AA.out,t-1,rfl,g1,G2.up,g2⟩
  |false=>
   have hc:=Ds hb.symm;obtain⟨g1,g2⟩:=X8 S G (.inr (th hc));clear hc hb;refine AO ?_;refine CO ?_;exact⟨rfl,⟨t,_⟩,⟨g1,G.up,g2⟩,AK⟩
 rintro⟨q,n⟩ ⟨g1,g2,g3⟩;dsimp only at g1 g2 g3⊢;refine sR 900 ?_;refine Ag ?_;exact⟨_,.refl _,AA.out,q,rfl,g1,g2,g3⟩
def Pr (k g k' n:Nat)(env:Ao):Ao->Prop
 | []=>True
 |(t,d)::r=>(d=env.get t\/∃sz i len,env.get t=.osl k g sz i len/\d=.osl k' n sz i len)/\Pr k g k' n env r
theorem Pr.get {k g k' n:Nat}{env:Ao}:∀ {env':Ao},Pr k g k' n env env'->∀t,env'.get t=.any\/env'.get t=env.get t\/∃sz i len,env.get t=.osl k g sz i len/\env'.get t=.osl k' n sz i len
 | [],_,t=>.inl rfl
 |(t0,d)::r,h,t=>by
  simp only[Ao.get];cases hb:Nat.beq t0 t with
  |true=>
   obtain rfl:=CH hb;rcases h.1 with h1|h1
   ·exact .inr (.inl h1)
   ·exact .inr (.inr h1)
  |false=>exact Pr.get h.2 t
section
variable {C:BA} {B F:AZ} {rd:Option Nat} {Q:Exit->AZ->St->Prop}
theorem e2d {c:Code}{env:Ao}{k g k' T sz n:Nat}{es:List D}(env':Ao)(he:Pr k g k' n env env')(h:AC C B rd F c ⟨env',[⟨k',n,T,sz,es⟩],n+1⟩ Q):AC C B rd F c ⟨env,[⟨k,g,T,sz,es⟩],n⟩ Q:=by
 refine⟨λhB hd ρ a w hs=>?_⟩;obtain⟨ρ',hl,hk,hf⟩:∃ρ':Lk,(∀k1 g1 b,ρ k1 g1=some b->ρ' k1 g1=some b)/\ρ' k' n=ρ k g/\Jn ρ' (n+1):=by
  cases hb:ρ k g with
  |none=>exact⟨ρ,λ_ _ _ h=>h,hs.fresh _ _ (An _),λk1 g1 h=>hs.fresh _ _ (Nat.le_of_succ_le h)⟩
  |some b=>exact⟨ρ.put k' n b,λk1 g1 b1 h1=>Oa (hs.fresh _ _ (An _)) h1,Et _ _ _ _,λk1 g1 h1=>by
    unfold Lk.put;split
    ·rename_i hh;omega
    ·exact hs.fresh _ _ (Nat.le_of_succ_le h1)⟩
 have hO:AN F.X ρ' [⟨k',n,T,sz,es⟩]=AN F.X ρ [⟨k,g,T,sz,es⟩]:=funext λb=>propext (by simp[AN,hk])
 have x:BY ρ (AN F.X ρ [⟨k,g,T,sz,es⟩]) w ρ' (AN F.X ρ' [⟨k',n,T,sz,es⟩]) w:=⟨An _,hl,λb _ hb=>⟨by rw[hO];exact hb,rfl⟩,λ_ cs _ _ h=>⟨cs,_,h,rfl⟩⟩
 refine h.out hB hd ρ' a w ⟨⟨⟨λe he'=>?_,by simp,λe he' b hb=>?_⟩,hs.mem.os,hs.mem.tape,hs.mem.output,hs.mem.size,hs.mem.blk,hs.mem.xlt,hs.mem.g0,hs.mem.gn,hs.mem.gw,λk1 g1 b h1=>hl _ _ _ (hs.mem.lnk _ _ _ h1),hs.mem.shp⟩,hf,λe he'=>?_,λt=>?_,hs.nt,hs.dfr⟩
 ·simp only[A9,Dv,or_false]at he'
  subst he';rcases hs.mem.hok.ent ⟨k,g,T,sz,es⟩ (by simp)with⟨h1,h2⟩|⟨b,cs,h1,h2,h3⟩
  ·exact .inl ⟨h1,by rw[show ρ' k' n=ρ k g from hk];exact h2⟩
  ·refine .inr ⟨b,cs,hk.trans h1,h2,?_⟩
   have h4:=h3.mono x;exact⟨h4.len,h4.siz,h4.one,h4.rep⟩
 ·simp only[A9,Dv,or_false]at he'
  subst he';exact hs.mem.hok.own ⟨k,g,T,sz,es⟩ (by simp) b (hk.symm.trans hb)
 ·simp only[A9,Dv,or_false]at he'
  subst he';exact IN _
 ·have h0:=(hs.env t).mono x
  rcases he.get t with h1|h1|⟨sz',i,len,h1,h2⟩
  ·show AU _ _ _ (env'.get t) _
   rw[h1];exact .any _
  ·show AU _ _ _ (env'.get t) _
   rw[h1];exact h0
  ·show AU _ _ _ (env'.get t) _
   rw[h2];have h5:=hs.env t;change AU _ _ _ (env.get t) _ at h5;rw[h1]at h5;generalize a.tmps.getD t undef=v at*;cases h5 with
   |onil=>exact .onil _ _ _
   |osl hr hb hc hs' hm=>exact .osl (hk.trans hr) hb hc hs' hm
end
theorem e0P {b m y:Nat}(hl:(Aa b).length=m+1)(hy:(Aa b)[m]?=some y):∃f,f=1000000000/(y+1)/\0<f/\f<RB/\(Aa (b*f)).length=m+1:=by
 have hy0:=Qt b hl hy;have hyl:y<RB:=FL b y (Au hy);have hf0:0<1000000000/(y+1):=Nat.div_pos (by unfold RB at hyl;omega) (by omega);have hf1:1000000000/(y+1)<RB:=Ir (by decide) (by omega);have hm:=Nat.div_mul_le_self 1000000000 (y+1);refine⟨_,rfl,hf0,hf1,?_⟩;generalize 1000000000/(y+1)=f at*;refine l5 ?_ ?_
 ·exact BV (T1 hl) (Nat.le_mul_of_pos_right _ hf0)
 ·have h2:=V3 hl hy
  have h3:=Gx ((FL b).take m);rw[Bd,hl,Ft (by omega)]at h3;rw[Ec]at h2;have h4:b<RB^m*(y+1):=by rw[BO,EY];omega
  have h5:b*f<RB^m*(y+1)*f:=TQ h4 hf0;have h6:RB^m*(y+1)*f=RB^m*(f*(y+1)):=by rw[B6,Ba (y+1)]
  have h7:RB^m*(f*(y+1))<=RB^m*RB:=Cs _ hm;rw[CW];omega
theorem lz {a b f:Nat}{U v:List Nat}{k lu lq:Nat}(hf:0<f)(hU:AP U=a*f)(hv:AP v=b*f)(wU:Rd U)(lU:U.length=lu){q:List Nat}(hq:q=List.replicate lq 0)(hk:lq<=k)
  (hab:a<RB^k*b):Mx (a*f) v U q lu lq k:=by
 subst hq;refine⟨lU,JR,wU,T3 _,?_,?_⟩
 ·rw[IK (by rw[JR];exact hk)]
  rw[show AP []=0 from rfl,FF,Hl,BW,hU]
 ·rcases BC (AP (U.drop k)) (AP v)with h|h
  ·exact h
  ·exfalso
   have e0:AP U=AP (U.take k)+RB^(U.take k).length*AP (U.drop k):=by
    conv=>lhs;rw[<-FB k U]
    rw[KC]
   have h3:a*f<RB^k*b*f:=TQ hab hf;rw[B6,<-hv]at h3;rcases BC U.length k with hl|hl
   ·rw[IK (by omega)]at h
    rw[show AP []=0 from rfl]at h;rw[Nat.le_zero.1 h,FF]at h3;omega
   ·rw[Bd,Ft hl]at e0
    have:=Cs (RB^k) h
    omega
theorem oA {a b f:Nat}{v U q:List Nat}{lu lq:Nat}(hf:0<f)(I:Mx (a*f) v U q lu lq 0)(hv:AP v=b*f):AP q=a/b/\AP U=a%b*f:=by
 obtain⟨lU,lQ,wU,wq,val,less⟩:=I;simp only[ND,JS,GR]at val less;obtain⟨h1,h2⟩:=RG val less;rw[hv,QZ _ _ hf]at h1;rw[hv,Qa]at h2;exact⟨h1,h2⟩
theorem tR {P V q N Pn c z W:Nat}(hI:N+q*V=Pn+W*c)(hP:P=Pn+W*z)(hc:c<=z)(hup:P<(q+1)*V):P/V=q/\P%V=N+W*(z-c):=by
 have e:W*z=W*c+W*(z-c):=by rw[<-BO];congr 1;omega
 exact UP (N:=N+W*(z-c)) (by omega) hup
theorem tS {P V q N Pn N2 c c2 z W:Nat}(hI:N+q*V=Pn+W*c)(hP:P=Pn+W*z)(hz:z<c)(hN:N<W)(hdn:q*V<=P+V)(hN2:N2+W*c2=N+V)(hc2:c2<=1)(hN2l:N2<W)(hVW:V<W):
  0<q/\P/V=q-1/\P%V=N2/\(z:Int)-c+c2=0:=by
 obtain⟨e,rfl⟩:∃e,c=z+1+e:=⟨c-z-1,by omega⟩
 have h1:W*(z+1+e)=W*z+W+W*e:=by rw[BO,BO,EY]
 have he:e=0:=by
  rcases EC e with h|h
  ·exact h
  ·have:=Cs W h
   omega
 subst he;rw[FF]at h1;obtain⟨a1,a2,a3⟩:=Y1 (U:=P) (V:=V) (q:=q) (N:=N) (N3:=N2) (T:=W) (c:=c2) (by omega) hN hdn hN2 hc2 hN2l;refine⟨a1,a2,a3,?_⟩
 have:c2=1:=by
  rcases EC c2 with h|h
  ·exfalso
   subst h;rcases EC q with h0|h0
   ·subst h0;omega
   ·obtain⟨k,rfl⟩:∃k,q=k+1:=⟨q-1,by omega⟩
    rw[B0,JS]at hI hdn;omega
  ·omega
 subst this;omega
def blk (A N:List Nat)(top:Int)(Z:List Nat):List D:=A.map Ac++(N.map Ac++(i64 top::Z.map Ac))
theorem dT {A N Z:List Nat}{top:Int}{i z:Nat}(h:N[i]?=some z):(blk A N top Z)[A.length+i]?=some (Ac z):=by
 have hi:i<N.length:=(BS.1 h).1;unfold blk;rw[Fp (by rw[Ae];omega),Ae,L0,HM (by rw[Ae];exact hi)];exact EN h
theorem ak {A N Z:List Nat}{top:Int}{i d:Nat}(h:i<N.length):(blk A N top Z).set (A.length+i) (Ac d)=blk A (N.set i d) top Z:=by
 unfold blk;rw[Ob _ _ (by rw[Ae];omega),Ae,L0,List.set_append_left _ _ (by rw[Ae];exact h),Ny]
theorem VN {A N Z:List Nat}{top:Int}{n:Nat}(h:N.length=n):(blk A N top Z)[A.length+n]?=some (i64 top):=by
 unfold blk;rw[Fp (by rw[Ae];omega),Ae,L0,Fp (by rw[Ae];omega),Ae,h,Nat.sub_self];rfl
theorem ZU {A N Z:List Nat}{top t:Int}{n:Nat}(h:N.length=n):(blk A N top Z).set (A.length+n) (i64 t)=blk A N t Z:=by
 unfold blk;rw[Ob _ _ (by rw[Ae];omega),Ae,L0,Ob _ _ (by rw[Ae];omega),Ae,h,Nat.sub_self];rfl
theorem VM {A N Z:List Nat}{t:Nat}:blk A N (t:Int) Z=(A++((N++[t])++Z)).map Ac:=by
 unfold blk;simp[DA]
theorem qM {t x c z:Nat}(ht:t<RB)(hx:x<RB)(hc:c<=RB)(hz:z<RB):∃p lo hi x' d c':Nat,IntKind.i64.wrap ((t:Int)*(x:Int))=(p:Int)/\IntKind.i64.wrap ((p:Int)+(c:Int))=(x':Int)/\((x':Int)).tmod 1000000000=(lo:Int) /\
  IntKind.i64.wrap (((x':Int)).tdiv 1000000000)=(hi:Int)/\IntKind.i64.wrap ((z:Int)-(lo:Int))=(z:Int)-lo/\d<RB/\c'<=RB/\d+t*x+c=z+RB*c' /\
  ((c'=hi/\(z:Int)-lo=d)\/(c'=hi+1/\(z:Int)-lo<0/\IntKind.i64.wrap ((z:Int)-lo+1000000000)=d/\IntKind.i64.wrap ((hi:Int)+1)=((hi+1:Nat):Int))):=by
 have h3:t*x<=999999999*999999999:=GH (by unfold RB at ht;omega) (by unfold RB at hx;omega);have e:=FX (t*x+c) 1000000000;have l:=CI (t*x+c) (show 1000000000>0 by decide);have k0:IntKind.i64.wrap ((t:Int)*(x:Int))=((t*x:Nat):Int):=by rw[<-Gj,wI]
 unfold RB at*;have k1:IntKind.i64.wrap (((t*x:Nat):Int)+(c:Int))=((t*x+c:Nat):Int):=by rw[wI];omega
 have k2:((t*x+c:Nat):Int).tmod 1000000000=(((t*x+c)%1000000000:Nat):Int):=Sx _ 1000000000;have k3:IntKind.i64.wrap (((t*x+c:Nat):Int).tdiv 1000000000)=(((t*x+c)/1000000000:Nat):Int):=P5 _ 1000000000 (by omega);generalize t*x=p at*;generalize(p+c)%1000000000=lo at*;generalize(p+c)/1000000000=hi at*;rcases BC z lo with h|h
 ·exact⟨_,_,_,_,z+1000000000-lo,hi+1,k0,k1,k2,k3,wI,by omega,by omega,by omega,.inr ⟨rfl,by omega,by rw[wI];omega,by rw[wI];omega⟩⟩
 ·exact⟨_,_,_,_,z-lo,hi,k0,k1,k2,k3,wI,by omega,by omega,by omega,.inl ⟨rfl,by omega⟩⟩
theorem qE {z x c:Nat}(hz:z<RB)(hx:x<RB)(hc:c<=1):∃p s d c':Nat,IntKind.i64.wrap ((z:Int)+(x:Int))=(p:Int)/\IntKind.i64.wrap ((p:Int)+(c:Int))=(s:Int)/\((s:Int)).tmod 1000000000=(d:Int) /\
  IntKind.i64.wrap (((s:Int)).tdiv 1000000000)=(c':Int)/\d<RB/\c'<=1/\d=(z+x+c)%RB/\c'=(z+x+c)/RB:=by
 have e:=FX (z+x+c) 1000000000;have l:=CI (z+x+c) (show 1000000000>0 by decide);unfold RB at*;have k0:IntKind.i64.wrap ((z:Int)+(x:Int))=((z+x:Nat):Int):=by rw[wI];omega
 have k1:IntKind.i64.wrap (((z+x:Nat):Int)+(c:Int))=((z+x+c:Nat):Int):=by rw[wI];omega
 have k2:((z+x+c:Nat):Int).tmod 1000000000=(((z+x+c)%1000000000:Nat):Int):=Sx _ 1000000000;have k3:IntKind.i64.wrap (((z+x+c:Nat):Int).tdiv 1000000000)=(((z+x+c)/1000000000:Nat):Int):=P5 _ 1000000000 (by omega);exact⟨_,_,_,_,k0,k1,k2,k3,l,by omega,rfl,rfl⟩
set_option maxHeartbeats 2000000
theorem sO:rD 0=.sl false 1 []:=by unfold rD;rw[HQ];rfl
theorem VG {H:Hp}{K g T:Nat}{l:List Nat}{N:Nat}(hl:l.length=N)(he:Hp.get H K=some ⟨K,g,T,1,l.map Ac⟩:=by exact rfl):Fz H [] (.osl K g 1 0 N) (.sl false 1 (l.map Ac)):=by
 subst hl;have key:∀(j:Nat) (d d':D),(l.map Ac)[0+j]?=some d->(l.map Ac)[j]?=some d'->d=d':=λj d d' h1 h2=>by
  rw[BW]at h1;rw[h1]at h2;exact FY h2
 refine .osl (e:=⟨K,g,T,1,l.map Ac⟩) he rfl rfl rfl (by simp) (by simp) (λj d d' h1 h2=>by rw[key j d d' h1 h2]) λj d d' q c c' h1 h2 h3 h4=>?_
 rw[key j d d' h1 h2]at h3;rw[h3]at h4;cases h4;exact Fz.refl _
theorem oB (a b:Nat)(hab:a<b)(ha:(Aa a).length<1000000)(hb:(Aa b).length<1000000):AL C0 127 [rD a,rD b] (.tup [rD (a/b),rD (a%b)]):=by
 rw[IJ hab,Fr hab,sO];refine Ad.walk w1 Vt rfl λF=>?_
 have cc:=Sj a b (by omega) (by omega);have e1:=ap hab;refine sR 0 ?_;refine AC.seq ?_;refine sR 100 ?_;refine cI cc ?_;rw[e1];refine AO ?_;refine sR 200 ?_;refine Ag ?_;exact⟨_,eU (.nil 1) (.refl _),aG (.sl λe he=>by cases he) (PX _),rfl⟩
theorem qJ (a b:Nat)(hab:b<=a)(ha:(Aa a).length<1000000)(hb:(Aa b).length=1)(hb0:b≠0):AL C0 127 [rD a,rD b] (.tup [rD (a/b),rD (a%b)]):=by
 have cc:=Sj a b (by omega) (by omega);have e1:=Ri hab;have hbl:b<RB:=by
  have:=Je b
  rw[hb,Nat.pow_one]at this;exact this
 have hlb:(Aa b)[0]?=some b:=by rw[Qs hb0 hbl];rfl
 have hb':=EN hlb;have cd:=YE a b (EX hb0) hbl ha;have e3:(((((Aa b).map Ac).length:Nat):Int)==1)=true:=by rw[Ae,hb];rfl
 have hml:a%b<RB:=Gk (CI _ (EX hb0)) hbl;have hv:AP [a%b]=a%b:=by simp[AP]
 refine Ad.walk w1 Vt rfl λF=>?_
 generalize a/b=q at*;generalize a%b=r at*;unfold rD rL at cc cd⊢;change AC C0 F none F _ _ (So X1.tt _ (· = .tup [rD q,rD r]));generalize Aa a=la at*;generalize Aa b=lb at*;refine sR 0 ?_;refine AC.seq ?_;refine sR 100 ?_;refine cI cc ?_;rw[e1];refine AO ?_;refine Am ?_;refine AC.seq ?_;refine sZ 300 ?_;refine AV e3 ?_;refine AO ?_;refine sZ 400 ?_;refine AF kN ?_;refine B3 kT hb' ?_;refine AF kN ?_;refine BE.same _ cd AJ ?_;refine BR ?_;refine sR 500 ?_;have hrl:Rd [r]:=λa ha=>by
  simp only[A9,Dv,or_false]at ha;subst ha;exact hml
 refine BE.pure [rL [r]] _ ⟨.nn true 1 _,trivial⟩ (Mk [r] hrl (by simp)) AJ ?_;refine BR ?_;refine Ag ?_;exact AM (by rw[hv];rfl) AA.out
theorem e0c {H:Hp}{d1 d2 d3 e1 e2 e3:D}(h1:Dx H d1 e1)(h2:Dx H d2 e2)(h3:Dx H d3 e3):∀(i:Nat) (a b:D),[d1,d2,d3][i]?=some a->[e1,e2,e3][i]?=some b->Dx H a b
 | 0,_,_,ha,hb=>by cases ha;cases hb;exact h1
 | 1,_,_,ha,hb=>by cases ha;cases hb;exact h2
 | 2,_,_,ha,hb=>by cases ha;cases hb;exact h3
 |_+3,_,_,ha,_=>by cases ha
theorem mU {P v:List Nat}(d:D)(h:ZQ P v d):Kh d:=by
 obtain⟨q,rfl,_⟩:=h;exact Kh.prim _
theorem tT {v N Pn:List Nat}{t i c z x:Nat}(hz:N[i]?=some z)(hx:v[i]?=some x)(ht:t<RB)(hxl:x<RB)(hc:c<=RB)(hzl:z<RB)(hI:AP N+t*AP (v.take i)=AP Pn+RB^i*c):
  ∃(p x' lo hi d c':Nat) (e:Int),IntKind.i64.wrap ((t:Int)*(x:Int))=(p:Int)/\IntKind.i64.wrap ((p:Int)+(c:Int))=(x':Int)/\((x':Int)).tmod 1000000000=(lo:Int) /\
  IntKind.i64.wrap (((x':Int)).tdiv 1000000000)=(hi:Int)/\IntKind.i64.wrap ((z:Int)-(lo:Int))=e/\d<RB/\c'<=RB/\AP (N.set i d)+t*AP (v.take (i+1))=AP Pn+RB^(i+1)*c' /\
  ((decide (e<0)=false/\e=(d:Int)/\hi=c')\/(decide (e<0)=true/\IntKind.i64.wrap (e+1000000000)=(d:Int)/\IntKind.i64.wrap ((hi:Int)+1)=(c':Int))):=by
 obtain⟨p,lo,hi,x',d,c',k1,k2,k3,k4,k5,k6,k7,k8,k9⟩:=qM ht hxl hc hzl;have J:=kV (b:=0) (c':=0) (lo:=t*x+c) (b':=c') (d:=d) (A:=N) (P:=Pn) (v:=v) (q:=t) hz hx hI rfl (by rw[<-k8];exact FE d (t*x) c ▸ rfl);refine⟨p,x',lo,hi,d,c',_,k1,k2,k3,k4,k5,k6,k7,by rw[J,BW],?_⟩;rcases k9 with⟨h1,h2⟩|⟨h1,h2,h3,h4⟩
 ·exact .inl ⟨A8 (by rw[h2];exact Int.not_lt.2 (Int.natCast_nonneg d)),h2,h1.symm⟩
 ·exact .inr ⟨Ax h2,h3,by rw[h1];exact h4⟩
theorem sQ {v N Nb:List Nat}{i c z x:Nat}(hz:N[i]?=some z)(hx:v[i]?=some x)(hxl:x<RB)(hc:c<=1)(hzl:z<RB)(hI:AP N+RB^i*c=AP Nb+AP (v.take i)):
  ∃(p s d c':Nat),IntKind.i64.wrap ((z:Int)+(x:Int))=(p:Int)/\IntKind.i64.wrap ((p:Int)+(c:Int))=(s:Int)/\((s:Int)).tmod 1000000000=(d:Int) /\
  IntKind.i64.wrap (((s:Int)).tdiv 1000000000)=(c':Int)/\d<RB/\c'<=1/\AP (N.set i d)+RB^(i+1)*c'=AP Nb+AP (v.take (i+1)):=by
 obtain⟨p,s,d,c',k1,k2,k3,k4,k5,k6,rfl,rfl⟩:=qE hzl hxl hc;exact⟨p,s,_,_,k1,k2,k3,k4,k5,k6,kU hz hx hI⟩
theorem ly {U:List Nat}{k:Nat}(h:AP U<RB^k)(hk:k<=U.length):AP (U.take k)=AP U:=by
 have e:AP U=AP (U.take k)+RB^k*AP (U.drop k):=by
  conv=>lhs;rw[<-FB k U]
  rw[KC,Bd,Ft hk]
 rcases EC (AP (U.drop k))with h0|h0
 ·rw[h0,FF,D6]at e;exact e.symm
 ·exfalso
  have:=Cs (RB^k) h0
  omega
theorem mh {P v:List Nat}{m p0 p1 p2 v2 v1:Nat}(S:LY P v m p0 p1 p2 v2 v1):∃Pn,P=Pn++[p2]/\Pn.length=m+2/\Rd Pn/\AP P=AP Pn+RB^(m+2)*p2:=by
 have hl:=S.lP;have e:P=P.take (m+2)++[p2]:=by
  rw[<-Fy S.h2,Gs]
 have hn:(P.take (m+2)).length=m+2:=by rw[Bd];omega
 refine⟨P.take (m+2),e,hn,S.wP.take _,?_⟩
 conv=>lhs;rw[e]
 rw[Hs hn]
theorem gh {P N:List Nat}{m z V:Nat}(hl:N.length=m+2)(hN:Rd N)(hz:z<RB)(hv:AP N+RB^(m+2)*z=AP P%V):(N++[z]).length=m+3/\Rd (N++[z])/\AP (N++[z])=AP P%V:=by
 refine⟨by rw[Be,hl];rfl,Rd.append hN λa ha=>?_,by rw[Hs hl,hv]⟩;simp only[A9,Dv,or_false]at ha;subst ha;exact hz
set_option maxHeartbeats 4000000
theorem oC (a b m:Nat)(hab:b<=a)(ha:(Aa a).length<1000000)(hb:(Aa b).length=m+2):AL C0 127 [rD a,rD b] (.tup [rD (a/b),rD (a%b)]):=by
 have hlen:=Jb b a hab;have cc:=Sj a b (by omega) (by omega);have e1:=Ri hab;obtain⟨y,hy⟩:=Ch (l:=Aa b) (i:=m+1) (by omega);have yl:y<RB:=FL b y (Au hy);obtain⟨f,ef,f0,fl,hvl⟩:=e0P hb hy;have wf:IntKind.i64.wrap ((1000000000:Int).tdiv ((y+1:Nat):Int))=(f:Int):=by
  rw[ef];exact P5 1000000000 (y+1) (BV (GQ _ _) (by decide))
 have wy:IntKind.i64.wrap ((y:Int)+1)=((y+1:Nat):Int):=wI (by omega) (by unfold RB at yl;omega);have lf:Aa f=[f]:=Qs (Nat.pos_iff_ne_zero.1 f0) fl;have cv:=Ws b f (by omega) (by rw[lf];exact(by decide:1<1000000));have cu:=Ws a f (by omega) (by rw[lf];exact(by decide:1<1000000));have hu1:=Tw a f;have hu2:=Jb a (a*f) (Nat.le_mul_of_pos_right _ f0);rw[lf]at hu1;change _<=_+1 at hu1;obtain⟨v,hv⟩:∃v,v=Aa (b*f):=⟨_,rfl⟩
 have wv:Rd v:=by rw[hv];exact FL _
 have vv:AP v=b*f:=by rw[hv];exact Ec _
 rw[<-hv]at hvl;obtain⟨U0,hU0⟩:∃U0,U0=Aa (a*f):=⟨_,rfl⟩
 have wU0:Rd U0:=by rw[hU0];exact FL _
 have vU0:AP U0=a*f:=by rw[hU0];exact Ec _
 rw[<-hU0]at hu1 hu2;obtain⟨v1,h1⟩:=Ch (l:=v) (i:=m+1) (by omega);obtain⟨v2,h2⟩:=Ch (l:=v) (i:=m) (by omega);have v10:v1≠0:=Qt (b*f) (by rw[<-hv];exact hvl) (by rw[<-hv];exact h1);have b0:0<b:=by
  refine EX λh=>?_
  subst h;rw[HQ]at hb;cases hb
 have vpos:0<AP v:=by rw[vv];exact IM b0 f0
 have hup:=Je a;have hbge:=T1 hb;unfold rD rL at cc cv cu;rw[lf,<-hv]at cv;rw[lf,<-hU0]at cu;refine Ad.walk w1 Vt rfl λF=>?_
 change AC C0 F none F _ ⟨Dm 0 [.sl false 1 ((Aa a).map Ac),.sl false 1 ((Aa b).map Ac)],[],0⟩ _;generalize Aa a=la at*;generalize Aa b=lb at*;obtain⟨lq,hlq⟩:∃lq,la.length=lq+(m+2):=⟨la.length-(m+2),by omega⟩
 have hy':=EN hy;have e3:((((lb.map Ac).length:Nat):Int)==1)=false:=by rw[Ae,hb];exact B4.2 (by omega)
 have elb:(((lb.map Ac).length:Nat):Int)=((m+2:Nat):Int):=by rw[Ae,hb]
 have wlb0:IntKind.i64.wrap (((m+2:Nat):Int)-1)=((m+1:Nat):Int):=by rw[wI];omega
 have wlb:IntKind.i64.wrap ((((lb.map Ac).length:Nat):Int)-1)=((m+1:Nat):Int):=by rw[elb];exact wlb0
 have ea:(((la.map Ac).length:Nat):Int)=(la.length:Int):=by rw[Ae]
 have ev:(((v.map Ac).length:Nat):Int)=((m+2:Nat):Int):=by rw[Ae,hvl]
 have eu:(((U0.map Ac).length:Nat):Int)=(U0.length:Int):=by rw[Ae]
 have wa1:IntKind.i64.wrap ((la.length:Int)+1)=((la.length+1:Nat):Int):=wI;have wq0:IntKind.i64.wrap (((la.length+1:Nat):Int)-((m+2:Nat):Int))=((lq+1:Nat):Int):=by rw[wI];omega
 have wq1:IntKind.i64.wrap (((lq+1:Nat):Int)-1)=((lq+1:Nat):Int)-1:=wI;have wraw:IntKind.i64.wrap (IntKind.i64.wrap (((la.length+1:Nat):Int)-((m+2:Nat):Int))-1)=((lq+1:Nat):Int)-1:=by rw[wq0,wq1]
 have r3:List.replicate (lq+1) (ofV (.int .i64 0))=(List.replicate (lq+1) 0).map Ac:=by rw[Kw];rfl
 refine sR 0 ?_;refine AC.seq ?_;refine sR 100 ?_;refine cI cc ?_;rw[e1];refine AO ?_;refine Am ?_;refine AC.seq ?_;refine sZ 300 ?_;refine AV e3 ?_;refine AO ?_;refine Am ?_;refine sZ 600 ?_;refine AF (Bb wlb elb wlb0 kN) ?_;refine B3 kT hy' ?_;refine AF (Ar wy wf kN) ?_;refine sR 700 ?_;refine BE.pure [rL lb,rL [f]] _ ⟨.refl _,.nn true 1 _,trivial⟩ cv AJ ?_;refine BR ?_;refine sZ 800 ?_;refine AV ev ?_;clear cc e1 e3 elb wlb wlb0 hy' yl hy wy wf hb;refine DL (α:=Nat×Nat) (λp=>⟨[(0,.sl false 1 (la.map Ac)),(8,.sl true 1 [Ac f]),(9,.sl false 1 (v.map Ac)),(10,i64 ((m+2:Nat):Int)),(11,.osl 904 p.1 1 0 U0.length)],[⟨904,p.1,3,1,U0.map Ac⟩],p.2⟩) (λ_=>True) ?_ ?_
 ·refine rI 900 ?_
  refine BE.pure [rL la,rL [f]] _ ⟨.refl _,.nn true 1 _,trivial⟩ cu AJ ?_;refine BR ?_;exact⟨rfl,⟨_,_⟩,trivial,AK⟩
 rintro⟨g,n2⟩ -;dsimp only;refine DL (α:=Nat×Nat×List Nat×Nat) (λp=>⟨[(0,.sl false 1 (la.map Ac)),(8,.sl true 1 [Ac f]),(9,.sl false 1 (v.map Ac)),(10,i64 ((m+2:Nat):Int)),(11,.osl p.1 p.2.1 1 0 (la.length+1))],[⟨p.1,p.2.1,3,1,p.2.2.1.map Ac⟩],p.2.2.2⟩) (λp=>p.2.2.1.length=la.length+1/\Rd p.2.2.1/\AP p.2.2.1=a*f) ?_ ?_
 ·refine AC.block ?_
  rcases Nat.eq_or_lt_of_le hu1 with hl|hl
  ·have eN:decide (((la.length+1:Nat):Int)<((la.length+1:Nat):Int))=false:=Bc
   rw[hl];refine Gi (α:=Nat) (λn=>⟨[(0,.sl false 1 (la.map Ac)),(8,.sl true 1 [Ac f]),(9,.sl false 1 (v.map Ac)),(10,i64 ((m+2:Nat):Int)),(11,.osl 904 g 1 0 (la.length+1))],[⟨904,g,3,1,U0.map Ac⟩],n⟩) (λ_=>0) (λ_ F'=>F'=F) n2 rfl AK ?_;rintro n3 F' rfl;refine AC.seq ?_;refine sZ 1000 ?_;refine AV (Ar ea wa1 eN) ?_;refine AO ?_;refine CO ?_;exact⟨rfl,⟨904,g,U0,_⟩,⟨hl,wU0,vU0⟩,AK⟩
  ·have hl2:U0.length=la.length:=by omega
   have eN:decide (((la.length+1:Nat):Int)<((la.length+1:Nat):Int))=false:=Bc;have eY:decide ((la.length:Int)<((la.length+1:Nat):Int))=true:=BX;have hap:List.take la.length (U0.map Ac)++[D.prim (Value.int IntKind.i64 0)]=(U0++[0]).map Ac:=by
    rw[Cp (by rw[Ae];omega),DA];rfl
   rw[hl2];refine Gi (α:=Bool×Nat×Nat) (λp=>match p with
    |(false,_,n)=>⟨[(0,.sl false 1 (la.map Ac)),(8,.sl true 1 [Ac f]),(9,.sl false 1 (v.map Ac)),(10,i64 ((m+2:Nat):Int)),(11,.osl 904 g 1 0 la.length)],[⟨904,g,3,1,U0.map Ac⟩],n⟩
    |(true,g1,n)=>⟨[(0,.sl false 1 (la.map Ac)),(8,.sl true 1 [Ac f]),(9,.sl false 1 (v.map Ac)),(10,i64 ((m+2:Nat):Int)),(11,.osl 1102 g1 1 0 (la.length+1))],[⟨1102,g1,3,1,(U0++[0]).map Ac⟩],n⟩) (λp=>cond p.1 0 1) (λ_ F'=>F'=F) (false,0,n2) rfl AK ?_
   rintro⟨_|_,g1,n3⟩ F' rfl
   ·dsimp only
    refine AC.seq ?_;refine sZ 1000 ?_;refine AV (Ar ea wa1 eY) ?_;refine AO ?_;refine Am ?_;refine AC.block ?_;refine rI 1100 ?_;refine⟨(true,n3+8,n3+10),rfl,(by decide:(0:Nat)<1),?_⟩;dsimp only;rw[hap];exact AK
   ·dsimp only
    refine AC.seq ?_;refine sZ 1000 ?_;refine AV (Ar ea wa1 eN) ?_;refine AO ?_;refine CO ?_;refine⟨rfl,⟨1102,g1,U0++[0],_⟩,⟨by rw[Be,hl2];rfl,Rd.append wU0 λa ha=>?_,by rw[VY];exact vU0⟩,AK⟩;simp only[A9,Dv,or_false]at ha;subst ha;decide
 rintro⟨K,gK,U1,n3⟩ ⟨lU1,wU1,vU1⟩;dsimp only at lU1 wU1 vU1⊢;refine e2d [(8,.sl true 1 [Ac f]),(9,.sl false 1 (v.map Ac)),(10,i64 ((m+2:Nat):Int)),(11,.osl 1102 n3 1 0 (la.length+1))] ⟨.inl rfl,.inl rfl,.inl rfl,.inr ⟨_,_,_,rfl,rfl⟩,trivial⟩ ?_;clear cu hU0 vU0 wU0 hu1 hu2 cv;refine DL (α:=Nat×Nat) (λp=>⟨[(8,.sl true 1 [Ac f]),(9,.sl false 1 (v.map Ac)),(10,i64 ((m+2:Nat):Int)),(11,.osl 1102 n3 1 0 (la.length+1)),(12,.osl 1204 p.1 1 0 (lq+1))],[⟨1204,p.1,3,1,(List.replicate (lq+1) 0).map Ac⟩,⟨1102,n3,3,1,U1.map Ac⟩],p.2⟩) (λ_=>True) ?_ ?_
 ·refine Aq 1200 ?_
  refine AV (Ar wq0 kN r3) ?_;exact⟨trivial,⟨_,_⟩,trivial,by rw[<-r3];exact AK⟩
 rintro⟨g,n2⟩ -;dsimp only;have I0:Mx (a*f) v U1 (List.replicate (lq+1) 0) (la.length+1) (lq+1) (lq+1):=by
  refine lz f0 vU1 vv wU1 lU1 rfl (An _) ?_
  have:RB^(lq+1)*RB^(m+1)<=RB^(lq+1)*b:=Cs _ hbge
  rw[<-Gl,show lq+1+(m+1)=la.length by omega]at this;omega
 clear hup hbge;refine AC.seq ?_;refine sZ 1300 ?_;refine AV wraw ?_;refine AC.block ?_;refine AC.loop (α:=Nat×List Nat×List Nat×Nat) (λp=>⟨[(8,.sl true 1 [Ac f]),(9,.sl false 1 (v.map Ac)),(10,i64 ((m+2:Nat):Int)),(11,.osl 1102 n3 1 0 (la.length+1)),(12,.osl 1204 g 1 0 (lq+1)),(13,i64 ((p.1:Int)-1))],[⟨1204,g,3,1,p.2.2.1.map Ac⟩,⟨1102,n3,3,1,p.2.1.map Ac⟩],p.2.2.2⟩) (λp=>p.1)
  (λp=>p.1<=lq+1/\Mx (a*f) v p.2.1 p.2.2.1 (la.length+1) (lq+1) p.1) (lq+1,U1,List.replicate (lq+1) 0,_) ⟨An _,I0⟩ AK ?_
 rintro⟨k,u,q,n4⟩ F ⟨hk,I⟩;dsimp only at hk I⊢;clear I0 wq0 wq1 wraw r3 ea eu wU1 vU1 lU1;refine AC.seq ?_;refine sR 1400 ?_;refine AO ?_
 (refine B7 (λh20=>?_) (λh20=>?_))<;>(try simp only[Bs,B5]at h20)<;>(try simp only[h20])
 ·obtain⟨j,rfl⟩:∃j,k=j+1:=⟨k-1,by
   have:(k:Int)-1>=0:=by simpa using h20
   omega⟩
  have wj:((j+1:Nat):Int)-1=(j:Int):=by omega
  obtain⟨p0,p1,p2,SI,hz,hP⟩:=mg I hvl wv v1 v2 h2 h1 (EX v10) (by omega);have lu:=I.lU;have cg:=s5 u v j m p0 p1 p2 v2 v1 SI (by omega) (by omega);rw[wj];refine Am ?_;refine AC.seq ?_;refine AC.block ?_;refine sR 1600 ?_;refine BE.own _ (e2t cg rfl (e0c (Dx.of (VG lu)) (Dx.of (.refl _)) (Dx.of (.refl _))) AJ mU) ?_;rintro d H' n5 ⟨⟨t,rfl,ht1,ht2,ht3⟩,rfl,rfl⟩;refine BR ?_;obtain⟨Pn,eP,lPn,wPn,vPn⟩:=mh SI;have hA:(u.take j).length=j:=by rw[Bd];omega
  have p2l:=SI.p2l;have hdl:AP ((u.drop j).take (m+3))/AP v<RB:=Fq SI.less;have hU:u.map Ac=blk (u.take j) Pn (p2:Int) (u.drop (j+(m+3))):=by rw[VM,<-eP,<-jd]
  have J:=λP' h1 h2 h3=>me (P':=P') I vpos (by omega) (by omega) hz hP h1 h2 h3 hdl
  obtain⟨zq,hzq⟩:=Ch (l:=q) (i:=j) (by rw[I.lQ];omega);have hzq':=EN hzq;have wi':IntKind.i64.wrap ((j:Int)-1)=(j:Int)-1:=wI;have wjn:IntKind.i64.wrap ((j:Int)+((m+2:Nat):Int))=((j+(m+2):Nat):Int):=by rw[wI];omega
  have hVW:=Gx wv;rw[show v.length=m+2 from hvl]at hVW;rw[hU];clear hU cg hP hz SI eP h20 wj I h1 h2 v10;generalize(u.drop j).take (m+3)=P at*;generalize u.take j=A at*;generalize u.drop (j+(m+3))=Z at*;refine sR 1700 ?_;refine AC.seq ?_;refine sR 1800 ?_;refine AC.block ?_;refine AC.loop (α:=Nat×Nat×List Nat×Nat) (λp=>⟨[(8,.sl true 1 [Ac f]),(9,.sl false 1 (v.map Ac)),(10,i64 ((m+2:Nat):Int)),(11,.osl 1102 n3 1 0 (la.length+1)),(12,.osl 1204 g 1 0 (lq+1)),(13,i64 (j:Int)),(14,Ac t),(15,Ac p.2.1),(16,i64 p.1)],[⟨1204,g,3,1,q.map Ac⟩,⟨1102,n3,3,1,blk A p.2.2.1 (p2:Int) Z⟩],p.2.2.2⟩) (λp=>m+2-p.1)
   (λp=>p.1<=m+2/\p.2.1<=RB/\p.2.2.1.length=m+2/\Rd p.2.2.1/\AP p.2.2.1+t*AP (v.take p.1)=AP Pn+RB^p.1*p.2.1) (0,0,Pn,_) ⟨BT _,BT _,lPn,wPn,by simp[AP]⟩ AK ?_
  rintro⟨i,c,N,n6⟩ F ⟨hi,hc,hNl,hNw,hI⟩;dsimp only at hi hc hNl hNw hI⊢;refine AC.seq ?_;refine sR 1900 ?_;refine AO ?_
  (refine B7 (λhlt=>?_) (λhlt=>?_))<;>(try simp only[Bs,B5]at hlt)<;>(try simp only[hlt])
  ·have hi2:i<m+2:=by
    have:=DN hlt
    omega
   obtain⟨x,hx⟩:=Ch (l:=v) (i:=i) (by omega);have hx':=EN hx;have hxl:x<RB:=wv x (Au hx);obtain⟨z,hz⟩:=Ch (l:=N) (i:=i) (by omega);have hzl:=hNw z (Au hz);have hz':=dT (A:=A) (Z:=Z) (top:=(p2:Int)) hz;rw[hA]at hz';obtain⟨p,x',lo,hi',d,c',e,k1,k2,k3,k4,k5,dl,cl,hI',hb⟩:=tT hz hx ht1 hxl hc hzl hI;have hset:(blk A N (p2:Int) Z).set (j+i) (Ac d)=blk A (N.set i d) (p2:Int) Z:=by
    have:=ak (A:=A) (Z:=Z) (top:=(p2:Int)) (i:=i) (d:=d) (N:=N) (by omega)
    rwa [hA]at this
   have wij:IntKind.i64.wrap ((i:Int)+(j:Int))=((j+i:Nat):Int):=by rw[wI];omega
   have wi:IntKind.i64.wrap ((i:Int)+1)=((i+1:Nat):Int):=wI;clear hI J hVW vPn ht2 ht3 hdl;refine Am ?_;refine AC.seq ?_;refine AC.block ?_;refine sZ 2100 ?_;refine AF kN ?_;refine B3 kT hx' ?_;refine AF (Ar kN k1 k2) ?_;refine sZ 2200 ?_;refine AF (EP wij kN BW hz' k3 k5) ?_;refine sZ 2300 ?_;refine AV k4 ?_;rcases hb with⟨b1,b2,b3⟩|⟨b1,b2,b3⟩
   ·refine AC.seq ?_
    refine sZ 2400 ?_;refine AV b1 ?_;refine AO ?_;refine Am ?_;subst b2 b3;refine Aq 2700 ?_;refine AF (Bb wij kN BW hz') ?_;rw[hset];refine Aq 2000 ?_;refine AV wi ?_;exact⟨(i+1,hi',N.set i d,_),⟨hi2,cl,by dsimp only;rw[Db];exact hNl,hNw.set dl,hI'⟩,by dsimp only;omega,AK⟩
   ·refine AC.seq ?_
    refine sZ 2400 ?_;refine AV b1 ?_;refine AO ?_;refine sZ 2500 ?_;refine AV b2 ?_;refine Aq 2600 ?_;refine AV b3 ?_;refine Aq 2700 ?_;refine AF (Bb wij kN BW hz') ?_;rw[hset];refine Aq 2000 ?_;refine AV wi ?_;exact⟨(i+1,c',N.set i d,_),⟨hi2,cl,by dsimp only;rw[Db];exact hNl,hNw.set dl,hI'⟩,by dsimp only;omega,AK⟩
  ·have hi2:i=m+2:=by
    have:=Ds hlt
    omega
   subst hi2;rw[Gs]at hI;have hNlt:=Gx hNw;rw[hNl]at hNlt;have htop:=VN (A:=A) (Z:=Z) (top:=(p2:Int)) hNl;have hstop:=ZU (A:=A) (Z:=Z) (top:=(p2:Int)) (t:=(p2:Int)-(c:Int)) hNl;have htop2:=VN (A:=A) (Z:=Z) (top:=(p2:Int)-(c:Int)) hNl;rw[hA]at htop hstop htop2;have p2l9:p2<1000000000:=p2l;have hc9:c<=1000000000:=hc;have wzc:IntKind.i64.wrap ((p2:Int)-(c:Int))=(p2:Int)-(c:Int):=wI;refine CO ?_;refine sZ 2800 ?_;refine AF (CN wjn kN BW htop wzc) ?_;rw[hstop];rcases BC p2 c with h|h
   ·have e29:decide ((p2:Int)-(c:Int)<0)=true:=BX
    have ht9:t<1000000000:=ht1;have wt:IntKind.i64.wrap ((t:Int)-1)=(t:Int)-1:=wI;refine AC.seq ?_;refine sZ 2900 ?_;refine AF (CN wjn kN BW htop2 e29) ?_;refine AO ?_;refine sZ 3000 ?_;refine AV wt ?_;refine sR 3100 ?_;refine AC.seq ?_;refine sR 3200 ?_;refine AC.block ?_;refine AC.loop (α:=Nat×Nat×List Nat×Nat) (λp=>⟨[(8,.sl true 1 [Ac f]),(9,.sl false 1 (v.map Ac)),(10,i64 ((m+2:Nat):Int)),(11,.osl 1102 n3 1 0 (la.length+1)),(12,.osl 1204 g 1 0 (lq+1)),(13,i64 (j:Int)),(14,i64 ((t:Int)-1)),(19,Ac p.2.1),(20,i64 p.1)],[⟨1204,g,3,1,q.map Ac⟩,⟨1102,n3,3,1,blk A p.2.2.1 ((p2:Int)-(c:Int)) Z⟩],p.2.2.2⟩) (λp=>m+2-p.1)
     (λp=>p.1<=m+2/\p.2.1<=1/\p.2.2.1.length=m+2/\Rd p.2.2.1/\AP p.2.2.1+RB^p.1*p.2.1=AP N+AP (v.take p.1)) (0,0,N,_) ⟨BT _,BT _,hNl,hNw,by simp[AP]⟩ AK ?_
    rintro⟨i,c2,N2,n7⟩ F ⟨hi,hc2,hNl2,hNw2,hI2⟩;dsimp only at hi hc2 hNl2 hNw2 hI2⊢;clear htop hstop;refine AC.seq ?_;refine sR 3300 ?_;refine AO ?_
    (refine B7 (λhlt2=>?_) (λhlt2=>?_))<;>(try simp only[Bs,B5]at hlt2)<;>(try simp only[hlt2])
    ·have hi2:i<m+2:=by
      have:=DN hlt2
      omega
     obtain⟨x,hx⟩:=Ch (l:=v) (i:=i) (by omega);have hx':=EN hx;have hxl:x<RB:=wv x (Au hx);obtain⟨z,hz⟩:=Ch (l:=N2) (i:=i) (by omega);have hzl:=hNw2 z (Au hz);have hz':=dT (A:=A) (Z:=Z) (top:=(p2:Int)-(c:Int)) hz;rw[hA]at hz';obtain⟨p,s,d,c',k1,k2,k3,k4,dl,cl,hI'⟩:=sQ hz hx hxl hc2 hzl hI2;have hset:(blk A N2 ((p2:Int)-(c:Int)) Z).set (j+i) (Ac d)=blk A (N2.set i d) ((p2:Int)-(c:Int)) Z:=by
      have:=ak (A:=A) (Z:=Z) (top:=(p2:Int)-(c:Int)) (i:=i) (d:=d) (N:=N2) (by omega)
      rwa [hA]at this
     have wij:IntKind.i64.wrap ((i:Int)+(j:Int))=((j+i:Nat):Int):=by rw[wI];omega
     have wi:IntKind.i64.wrap ((i:Int)+1)=((i+1:Nat):Int):=wI;clear hI2 hI J hVW vPn ht2 ht3 hdl;refine Am ?_;refine AC.seq ?_;refine AC.block ?_;refine AC.seq ?_;refine CR 3500 [0,1,2,3,4,5,6,7,8,9,10,11] [12,13] ?_;refine AF (Bb wij kN BW hz') ?_;refine B3 kT hx' ?_;refine AF (Ar kN k1 k2) ?_;refine sZ 3600 ?_;refine AF (CN wij kN BW hz' k3) ?_;rw[hset];refine Aq 3700 ?_;refine AV k4 ?_;refine Aq 3400 ?_;refine AV wi ?_;exact⟨(i+1,c',N2.set i d,_),⟨hi2,cl,by dsimp only;rw[Db];exact hNl2,hNw2.set dl,hI'⟩,by dsimp only;omega,AK⟩
    ·have hi2:i=m+2:=by
      have:=Ds hlt2
      omega
     subst hi2;rw[Gs]at hI2;have hNlt2:=Gx hNw2;rw[hNl2]at hNlt2;obtain⟨t0,g1,g2,g3⟩:=tS hI vPn h hNlt ht3 hI2 hc2 hNlt2 hVW;have htop3:=VN (A:=A) (Z:=Z) (top:=(p2:Int)-(c:Int)) hNl2;have hstop3:=ZU (A:=A) (Z:=Z) (top:=(p2:Int)-(c:Int)) (t:=((0:Nat):Int)) hNl2;rw[hA]at htop3 hstop3;have wfin:IntKind.i64.wrap ((p2:Int)-(c:Int)+(c2:Int))=((0:Nat):Int):=by rw[g3];rfl
     have et:(t:Int)-1=((t-1:Nat):Int):=by omega
     obtain⟨f1,f2,f3⟩:=gh (P:=P) (V:=AP v) hNl2 hNw2 (z:=0) (by decide) (by rw[FF,D6];exact g2.symm);have J1:=J _ f1 f2 f3;rw[g1]at J1;refine CO ?_;refine Aq 3800 ?_;refine AF (CN wjn kN BW htop3 wfin) ?_;rw[hstop3,VM,et];refine Aq 3900 ?_;refine AF (Ar kN BW hzq') ?_;rw[Ny];refine Aq 1500 ?_;refine AV wi' ?_;exact⟨(j,A++((N2++[0])++Z),q.set j (t-1),_),⟨by dsimp only;omega,J1⟩,by dsimp only;omega,AK⟩
   ·have e29:decide ((p2:Int)-(c:Int)<0)=false:=Bc
    obtain⟨g1,g2⟩:=tR hI vPn h ht2;have ezc:(p2:Int)-(c:Int)=((p2-c:Nat):Int):=by omega
    obtain⟨f1,f2,f3⟩:=gh hNl hNw (z:=p2-c) (by omega) g2.symm;have J1:=J _ f1 f2 f3;rw[g1]at J1;refine AC.seq ?_;refine sZ 2900 ?_;refine AF (CN wjn kN BW htop2 e29) ?_;refine AO ?_;refine Am ?_;rw[ezc,VM];refine Aq 3900 ?_;refine AF (Ar kN BW hzq') ?_;rw[Ny];refine Aq 1500 ?_;refine AV wi' ?_;exact⟨(j,A++((N++[p2-c])++Z),q.set j t,_),⟨by dsimp only;omega,J1⟩,by dsimp only;omega,AK⟩
 ·have hk:k=0:=by
   have:¬((k:Int)-1>=0):=by simpa using h20
   omega
  subst hk;obtain⟨q1,q2⟩:=oA f0 I vv;have wu:=I.wU;have wqq:=I.wq;have lu:=I.lU;have lqq:=I.lQ;have hlt:AP u<RB^(m+2):=by
   have:=I.less
   rw[GR]at this;have h:=Gx wv;rw[show v.length=m+2 from hvl]at h;omega
  have hta:=ly hlt (by omega);have hll:=MA hlt;rw[q2]at hll hta;have ed:a%b*f/f=a%b:=Nat.mul_div_cancel _ f0;have cd:=YE (a%b*f) f f0 fl (by omega);rw[ed]at cd;clear I;refine CO ?_;refine AC.weak ⟨[(8,.sl true 1 [Ac f]),(10,i64 ((m+2:Nat):Int)),(11,.sl false 1 (u.map Ac)),(12,.sl false 1 (q.map Ac))],[],_⟩ ⟨.drop (.drop .nil),⟨.refl _,.refl _,VG lu,VG lqq,trivial⟩,An _⟩ ?_;have e5:List.take (m+2) (u.map Ac)=(u.take (m+2)).map Ac:=by
   rw[List.map_take]
  have eu2:(u.map Ac).length=la.length+1:=by rw[Ae];omega
  have ct:=Mk (u.take (m+2)) (wu.take _) (by rw[Bd];omega);rw[hta]at ct;refine AC.seq ?_;refine CR 4000 [0,1,2,3,4,5,6,7,8,9,10,11] [12] ?_;refine AF (Bb kN Nat.sub_zero (@GR D) e5) ?_;refine Bf.same _ ct AJ ?_;have hf0:([Ac f]:List D)[0]?=some (Ac f):=rfl;refine AF kN ?_;refine B3 kT hf0 ?_;refine AF kN ?_;refine Bf.same _ cd AJ ?_;refine AF kN ?_;refine sR 4100 ?_;refine BE.same _ (Mk q wqq (by omega)) AJ ?_;refine BR ?_;refine Ag ?_;exact AM (by rw[q1]) AA.out
theorem XA (a b:Nat)(hb:b≠0)(ha:(Aa a).length<1000000)(hbl:(Aa b).length<1000000):AL C0 127 [rD a,rD b] (.tup [rD (a/b),rD (a%b)]):=by
 rcases BC a b with h|h
 ·exact oB a b h ha hbl
 ·rcases hl:(Aa b).length with _|m
  ·have:=Je b
   rw[hl]at this;simp at this;exact Ak this hb
  ·rcases m with _|m
   ·exact qJ a b h ha hl hb
   ·exact oC a b m h ha hl
abbrev rZ (z:Int):D:=.agg [Ap (decide (z<0)),rD z.natAbs]
def sg (neg:Bool)(n:Nat):Int:=if neg then -(n:Int)else n
theorem q7 {n:Nat}:0<(Aa n).length↔n≠0:=by
 constructor
 ·rintro h rfl
  rw[HQ]at h;cases h
 ·intro h
  rw[Jd h,Br];exact Nat.succ_pos _
theorem ZI (n:Nat):decide (((((Aa n).map Ac).length:Nat):Int)>0)=decide (n≠0):=by
 have:=@q7 n
 rw[Ae];exact DO.2 ⟨λh=>this.1 (by omega),λh=>by have:=this.2 h;omega⟩
theorem d9h (neg:Bool)(n:Nat):rZ (sg neg n)=.agg [Ap (neg&&decide (n≠0)),rD n]:=by
 unfold rZ sg;cases neg
 ·simp only[Ip,if_false,II,Ej]
  rw[Bc]
 ·simp only[if_true,HI,M8,Ej]
  congr 3
  exact DO.2 (by omega)
theorem Sh (z:Int):sg (decide (z<0)) z.natAbs=z:=by
 unfold sg
 by_cases h:z<0
 ·rw[Ax h,AI rfl];omega
 ·rw[A8 h,AG (by decide)];omega
theorem V1 (b:Bool)(n:Nat):CK (.agg [Ap b,.sl false 1 ((Aa n).map Ac)]):=.agg λd hd=>by
 simp only[A9,Dv,or_false]at hd;rcases hd with rfl|rfl
 ·exact .prim _
 ·exact PX _
def Hc (z:Int):Prop:=(Aa z.natAbs).length<1000000
instance  (b:Bool)(n:Nat):AA (.agg [Ap b,rD n]):=⟨V1 b n⟩
theorem Za (a b:Nat)(fa:(Aa a).length<1000000)(fb:(Aa b).length<1000000):AL C0 92 [rD a,rD b] (rD (Nat.gcd a b)):=by
 refine Ad.walk w1 z7 rfl λF=>?_
 change AC C0 F none F _ ⟨Dm 0 [.sl false 1 ((Aa a).map Ac),.sl false 1 ((Aa b).map Ac)],[],0⟩ _;refine sR 0 ?_;refine AC.seq ?_;refine AC.block ?_;refine AC.loop (α:=Nat×Nat×Nat) (λp=>⟨[(0,.sl false 1 ((Aa p.1).map Ac)),(1,.sl false 1 ((Aa p.2.1).map Ac))],[],p.2.2⟩) (λp=>p.2.1)
  (λp=>Nat.gcd p.1 p.2.1=Nat.gcd a b/\(Aa p.1).length<1000000/\(Aa p.2.1).length<1000000) (a,b,_) ⟨rfl,fa,fb⟩ AK ?_
 rintro⟨x,y,n⟩ F ⟨h1,h2,h3⟩;dsimp only at h1 h2 h3⊢;have et:=ZI y;refine AC.seq ?_;refine sZ 100 ?_;refine AV et ?_
 by_cases hy:y=0
 ·rw[A8 (by simpa using hy)]
  subst hy;refine AO ?_;refine CO ?_;refine sR 400 ?_;refine Ag ?_;refine AM (d0:=rD x) ?_ AA.out;rw[<-h1,Nat.gcd_zero_right]
 ·rw[Ax hy]
  have cd:=XA x y hy h2 h3;refine AO ?_;refine Am ?_;refine AC.block ?_;refine sR 200 ?_;refine cI cd ?_;refine rI 300 ?_;refine⟨(y,x%y,_),⟨?_,h3,?_⟩,CI x (by omega),AK⟩
  ·dsimp only
   rw[<-h1,Og x y,Nat.gcd_rec y x,Og]
  ·exact Da (Jb _ _ (Nat.mod_le x y)) h2
theorem aN (neg:Bool)(l:List Nat)(h:Rd l)(hl:l.length<1000000000):AL C0 179 [Ap neg,rL l] (rZ (sg neg (AP l))):=by
 refine Ad.walk w1 fj rfl λF=>?_
 rw[d9h];have ct:=Mk l h (by omega);generalize AP l=n at*;have et:=ZI n;unfold rD at ct⊢;unfold rL at ct⊢;refine sR 0 ?_;refine sR 100 ?_;refine cI ct ?_;refine AC.seq ?_;cases neg
 ·refine Aq 200 ?_
  refine AF et ?_;refine Ag ?_;exact AM (by simp) (V1 _ n)
 ·refine Aq 200 ?_
  refine AF et ?_;refine Ag ?_;exact AM (by simp) (V1 _ n)
theorem MY (neg:Bool)(n:Nat)(h:(Aa n).length<1000000000):AL C0 179 [Ap neg,rD n] (rZ (sg neg n)):=by
 have:=aN neg (Aa n) (FL n) h
 rwa [Ec]at this
theorem bY (z:Int)(h:Hc z):AL C0 187 [rZ z] (rZ (-z)):=by
 have cs:=MY (!decide (z<0)) z.natAbs (Gk h (by decide));have e:rZ (sg (!decide (z<0)) z.natAbs)=rZ (-z):=by
  congr 1
  unfold sg
  by_cases hz:z<0
  ·rw[Ax hz];simp;omega
  ·rw[A8 hz];simp;omega
 rw[e]at cs;refine Ad.walk w1 vC rfl λF=>?_
 refine sR 0 ?_;refine sR 100 ?_;refine cI cs ?_;refine Ag ?_;exact AM rfl AA.out
theorem Vg (x y:Int)(hx:Hc x)(hy:Hc y):AL C0 132 [rZ x,rZ y] (rZ (x*y)):=by
 have cm:=Ws x.natAbs y.natAbs hx hy;have hl:(Aa (x.natAbs*y.natAbs)).length<1000000000:=Da (Tw _ _) (by unfold Hc at hx hy;omega);have cs:=λb=>MY b (x.natAbs*y.natAbs) hl
 have e:sg (decide (x<0) != decide (y<0)) (x.natAbs*y.natAbs)=x*y:=by
  conv=>rhs;rw[<-Sh x,<-Sh y]
  generalize decide (x<0)=a;generalize decide (y<0)=b;unfold sg;cases a<;>cases b<;>simp[Int.neg_mul,Int.mul_neg]
 rw[<-e];refine Ad.walk w1 vX rfl λF=>?_
 refine sR 0 ?_;refine AC.seq ?_;refine CR 100 [0,1,2,3,4,5,6,7,8,9] [10,11] ?_;refine AF kN ?_;refine Bf.same _ cm AJ ?_;refine AF kN ?_;refine BE.same _ (cs _) AJ ?_;refine BR ?_;refine Ag ?_;exact AM rfl AA.out
theorem oa {a b:Nat}(h:b<=a):decide (ES (a:Int) (b:Int)>=0)=true:=Ax (by unfold ES;split<;>(try split)<;>omega)
theorem ob {a b:Nat}(h:a<b):decide (ES (a:Int) (b:Int)>=0)=false:=A8 (by unfold ES;split<;>(try split)<;>omega)
theorem yb (x y:Int)(hx:Hc x)(hy:Hc y):AL C0 131 [rZ x,rZ y] (rZ (x+y)):=by
 refine Ad.walk w1 vW rfl λF=>?_
 unfold Hc at hx hy;cases hs:(decide (x<0)==decide (y<0))
 ·have hs':decide (x<0)≠decide (y<0):=by simpa using hs
  have hs2:(x<0/\¬y<0)\/(¬x<0/\y<0):=by
   by_cases h1:x<0<;>by_cases h2:y<0<;>simp_all
  have cc:=Sj x.natAbs y.natAbs (by omega) (by omega);refine sR 0 ?_;refine AC.seq ?_;refine sZ 100 ?_;refine AV hs ?_;refine AO ?_;refine Am ?_;refine AC.seq ?_;refine sR 300 ?_;refine cI cc ?_;rcases BC x.natAbs y.natAbs with h|h
  ·have cb:=jV y.natAbs x.natAbs (Jz h) hy
   have cs:=MY (decide (y<0)) (y.natAbs-x.natAbs) (Da (Xu _ _) (by omega));have e:sg (decide (y<0)) (y.natAbs-x.natAbs)=x+y:=by
    unfold sg
    by_cases hy0:y<0
    ·rw[Ax hy0,AI rfl];omega
    ·rw[A8 hy0,AG (by decide)];omega
   rw[e]at cs;rw[ob h];refine AO ?_;refine Am ?_;refine AC.seq ?_;refine CR 500 [0,1,2,3,4,5,6] [7,8] ?_;refine AF kN ?_;refine Bf.same _ cb AJ ?_;refine AF kN ?_;refine BE.same _ cs AJ ?_;refine BR ?_;refine Ag ?_;exact AM rfl AA.out
  ·have cb:=jV x.natAbs y.natAbs h hx
   have cs:=MY (decide (x<0)) (x.natAbs-y.natAbs) (Da (Xu _ _) (by omega));have e:sg (decide (x<0)) (x.natAbs-y.natAbs)=x+y:=by
    unfold sg
    by_cases hx0:x<0
    ·rw[Ax hx0,AI rfl];omega
    ·rw[A8 hx0,AG (by decide)];omega
   rw[e]at cs;rw[oa h];refine AO ?_;refine AC.seq ?_;refine CR 400 [0,1,2,3,4,5,6] [7,8] ?_;refine AF kN ?_;refine Bf.same _ cb AJ ?_;refine AF kN ?_;refine BE.same _ cs AJ ?_;refine BR ?_;refine Ag ?_;exact AM rfl AA.out
 ·have hs':decide (x<0)=decide (y<0):=by simpa using hs
  have ca:=yy x.natAbs y.natAbs hx hy;have cs:=MY (decide (x<0)) (x.natAbs+y.natAbs) (Da (Xt _ _) (by omega));have e:sg (decide (x<0)) (x.natAbs+y.natAbs)=x+y:=by
   unfold sg
   by_cases hx0:x<0
   ·have hy0:y<0:=DN (hs'.symm.trans (Ax hx0))
    rw[Ax hx0,AI rfl];omega
   ·have hy0:¬y<0:=Ds (hs'.symm.trans (A8 hx0))
    rw[A8 hx0,AG (by decide)];omega
  rw[e]at cs;refine sR 0 ?_;refine AC.seq ?_;refine sZ 100 ?_;refine AV hs ?_;refine AO ?_;refine AC.seq ?_;refine CR 200 [0,1,2,3,4,5,6] [7,8] ?_;refine AF kN ?_;refine Bf.same _ ca AJ ?_;refine AF kN ?_;refine BE.same _ cs AJ ?_;refine BR ?_;refine Ag ?_;exact AM rfl AA.out
theorem lV (k m:Nat):Fd (k+1) m []=Fd k (m/10) []++[UInt8.ofNat (48+m%10)]:=by
 rw[<-Xo (k+1) m [] (.inr (Nat.succ_pos k))];unfold Fd M1
 by_cases h:m/10=0
 ·rw[AI h,AI h];simp
 ·rw[AG h,AG h]
  rw[Dh,Be,HN,Nat.add_sub_add_right,Dt]
theorem U4:∀(k hi d:Nat),hi≠0->d<10^k->Lib.decDigits (hi*10^k+d)=Lib.decDigits hi++Fd k d []
 | 0,hi,d,_,hd=>by
  have h0:d=0:=by simpa using hd
  subst h0;rw[ND,EY,D6];simp[Fd,M1]
 |k+1,hi,d,hh,hd=>by
  have e1:hi*10^(k+1)=10*(hi*10^k):=by rw[CW,<-B6,Ba]
  have h1:1<=10^k:=Nat.pow_pos (by decide);have h2:1<=hi*10^k:=IM (EX hh) h1;have h3:¬hi*10^(k+1)+d<10:=by omega
  have h4:d/10<10^k:=by rw[CW]at hd;omega
  rw[lV,<-Dt,<-U4 k hi (d/10) hh h4];rw[Lib.decDigits,dif_neg h3,e1]
  congr 2
  ·omega
  ·congr 1;omega
theorem uG (hi d:Nat)(h:hi≠0)(hd:d<RB):Lib.decDigits (d+RB*hi)=Lib.decDigits hi++Fd 9 d []:=by
 have:=U4 9 hi d h (Cq hd (by decide))
 rw[<-this]
 congr 1
 rw[Ba,L2]
theorem PU {l:List Nat}(h:Rd l):(Lib.decDigits (AP l)).length<=9*l.length+1:=by
 have h1:=Gx h;have e:RB^l.length=10^(9*l.length):=by rw[Nat.pow_mul]
 rw[e]at h1;refine MB _ _ (Gk h1 ?_);exact Nat.pow_lt_pow_right (by decide) (IN _)
theorem aw (neg:Bool)(n:Nat)(h:neg=true->n≠0):Lib.itoa (sg neg n)=if neg then 45::Lib.decDigits n else Lib.decDigits n:=by
 unfold Lib.itoa sg;cases neg
 ·simp only[Ip,if_false]
  rw[CM];rfl
 ·have:=h rfl
  simp only[if_true];rw[DR,M8];rfl
theorem yQ (neg:Bool)(n:Nat)(h:neg=true->n≠0)(hl:(Aa n).length<1000000):AL C0 188 [.agg [Ap neg,rD n]] (str (sb (Lib.itoa (sg neg n)))):=by
 refine Ad.walk w1 vD rfl λF=>?_
 rw[aw neg n h];change AC C0 F none F _ ⟨Dm 0 [.agg [Ap neg,.sl false 1 ((Aa n).map Ac)]],[],0⟩ _;have vn:=Ec n;have wn:=FL n;have tp:=λk a=>Qt n (k:=k) (a:=a)
 generalize Aa n=l at*;subst vn;rcases hc:l.length with _|m
 ·have e0:l=[]:=FC hc
  subst e0;have hn:neg=false:=by cases neg;rfl;exact Ak rfl (h rfl)
  subst hn;have e1:Lib.decDigits (AP [])=[48]:=by unfold Lib.decDigits AP;rw[dif_pos (by decide)];rfl
  rw[AG (by decide),e1];refine sR 0 ?_;refine AC.seq ?_;refine sR 100 ?_;refine AO ?_;refine sR 200 ?_;refine Ag ?_;exact AM rfl AA.out
 ·obtain⟨y,hy⟩:=Ch (l:=l) (i:=m) (by omega)
  have yl:=wn y (Au hy);have y0:=tp m y hc hy;have hy':=EN hy;have el:(((l.map Ac).length:Nat):Int)=((m+1:Nat):Int):=by rw[Ae,hc]
  have et:(((m+1:Nat):Int)==0)=false:=B4.2 (by omega);have w0:IntKind.i64.wrap (((m+1:Nat):Int)-1)=(m:Int):=by rw[wI];omega
  have w2:IntKind.i64.wrap (((m+1:Nat):Int)-2)=(m:Int)-1:=by rw[wI];omega
  have cd:=Q4 y 1 (by unfold RB at yl;omega);rw[aW]at cd;have wr0:IntKind.i64.wrap ((((l.map Ac).length:Nat):Int)-1)=(m:Int):=by rw[el,w0]
  have ed:l.drop m=[y]:=by
   rw[Ey (by omega),IK (by omega)];rw[Cu]at hy;rw[FY hy]
  refine sR 0 ?_;refine AC.seq ?_;refine sZ 100 ?_;refine AV (Ab el et) ?_;refine AO ?_;refine Am ?_;refine sZ 300 ?_;refine AF (Bb el w0 wr0 kN) ?_;refine B3 kT hy' ?_;refine AF kN ?_;refine BE.same _ cd AJ ?_;refine BR ?_;have ev:AP (l.drop m)=y:=by rw[ed];simp[AP]
  refine AC.seq ?_;refine sZ 400 ?_;refine AV (Ab el w2) ?_;refine AC.block ?_;refine AC.loop (α:=Nat×Nat) (λp=>⟨[(1,.optr 0 0 2 0 0),(3,str (sb (Lib.decDigits (AP (l.drop p.1))))),(4,i64 ((p.1:Int)-1))],[⟨0,0,135,2,[.agg [Ap neg,.sl false 1 (l.map Ac)]]⟩],p.2⟩) (λp=>p.1)
   (λp=>p.1<=m/\AP (l.drop p.1)≠0) (m,_) ⟨An _,by dsimp only;rw[ev];exact y0⟩ (by dsimp only;rw[ev];exact AK) ?_
  rintro⟨k,n1⟩ F ⟨h1,h2⟩;dsimp only at h1 h2⊢;clear cd;refine AC.seq ?_;refine sR 500 ?_;refine AO ?_
  (refine B7 (λh20=>?_) (λh20=>?_))<;>(try simp only[Bs,B5]at h20)<;>(try simp only[h20])
  ·obtain⟨j,rfl⟩:∃j,k=j+1:=⟨k-1,by
    have:(k:Int)-1>=0:=by simpa using h20
    omega⟩
   have wj:((j+1:Nat):Int)-1=(j:Int):=by omega
   obtain⟨d,hd⟩:=Ch (l:=l) (i:=j) (by omega);have hd':=EN hd;have dl:=wn d (Au hd);have c9:=Q4 d 9 (by unfold RB at dl;omega);have eD:Lib.decDigits (AP (l.drop (j+1)))++Fd 9 d []=Lib.decDigits (AP (l.drop j)):=by rw[Qy hd,uG _ _ h2 dl]
   have hlen:=PU (l:=l.drop j) λa ha=>wn a (Kv ha)
   rw[<-eD,Be,D3]at hlen;have h3:AP (l.drop j)≠0:=by
    rw[Qy hd]
    have:0<RB*AP (l.drop (j+1)):=IM (by decide) (EX h2)
    omega
   have z1:=Cx (Lib.decDigits (AP (l.drop (j+1))));have z2:=PT (Fd 9 d []);have wi:IntKind.i64.wrap ((j:Int)-1)=(j:Int)-1:=wI;rw[wj];refine Am ?_;refine AC.seq ?_;refine AC.block ?_;refine Aq 700 ?_;refine AF kN ?_;refine B3 kT hd' ?_;refine AF kN ?_;refine BE.same _ c9 AJ ?_;refine BR ?_;rw[Jk,eD];refine Aq 600 ?_;refine AV wi ?_;exact⟨(j,_),⟨by dsimp only;omega,h3⟩,by dsimp only;omega,AK⟩
  ·have hk:k=0:=by
    have:¬((k:Int)-1>=0):=by simpa using h20
    omega
   subst hk;rw[GR]at h2⊢;have hlen:=PU wn;have z1:=Cx (Lib.decDigits (AP l));have z2:(⟨#[45]⟩:ByteArray).size=1:=rfl;refine CO ?_;refine AC.seq ?_;refine AC.seq ?_;cases neg
   ·refine rI 800 ?_
    refine AO ?_;refine Am ?_;rw[AG (by decide)];refine sR 1000 ?_;refine Ag ?_;exact AM rfl AA.out
   ·refine rI 800 ?_
    refine AO ?_;rw[AI rfl];refine sR 900 ?_;refine Ag ?_;refine AM ?_ AA.out;show str ((⟨([45]:List UInt8).toArray⟩:ByteArray)++⟨(Lib.decDigits (AP l)).toArray⟩)=_;rw[Jk];rfl
theorem gC (z:Int)(h:Hc z):AL C0 188 [rZ z] (str (sb (Lib.itoa z))):=by
 have:=yQ (decide (z<0)) z.natAbs (λh=>by have:=DN h;omega) h
 rwa [Sh]at this
theorem QS {C:BA}{f:Nat}{ds ds':List D}{Φ:D->Prop}{H:Hp}{n:Nat}(Hf:Hp)(hc:Ad C f ds' Φ)(hH:C3 H Hf H Hf)(hv:FJ H Hf ds ds')
  (hp:Ah ds'):Cv C f ds H n (λd' H' n'=>Φ d'/\H'=Hf/\n'=n+1):=by
 refine⟨hc.1,λF ρ w vs m hfr hg hvs hr=>?_⟩;obtain⟨m',hO,hN⟩:=hH.mem m;obtain⟨l1,l2⟩:=hv.spec;refine(hc.2 (AN F.X ρ Hf) w vs m.g (BV m.gn m.size) (λb hb=>m'.own_lt hb) (by omega) λi x hx=>?_).mono ?_
 ·have hi:i<ds'.length:=(BS.1 hx).1
  have hd0:ds[i]?=some ds[i]:=Cu;exact hp.out x (Au hx) _ _ _ _ _ ((l2 i _ x hd0 hx).rep m hO hN (hr i _ hd0))
 ·rintro e w' ⟨v,d',rfl,hb,hd',rep⟩
  have hb2:∀(b:Nat) (cs:Array Value) (T:Nat) (fz:Nat×Nat),w.heap[b]?=some (.cells cs T fz)->∃(cs':Array Value) (fz':Nat×Nat),w'.heap[b]?=some (.cells cs' T fz')/\cs'.size=cs.size:=λb cs T fz hh=>⟨cs,_,by
   rw[hb.block b (DB.1 hh).1];exact hh,rfl⟩
  have x:BY ρ (AN F.X ρ H) w ρ (AN F.X ρ Hf) w':=⟨hb.size,λ_ _ _ h=>h,λb hb' hO2=>⟨λh=>hO2 (hO b h),hb.block b hb'⟩,hb2⟩
  have x':BY ρ (AN F.X ρ Hf) w ρ (AN F.X ρ Hf) w':=⟨hb.size,λ_ _ _ h=>h,λb hb' hO2=>⟨hO2,hb.block b hb'⟩,hb2⟩
  refine⟨v,_,Hf,n+1,ρ,rfl,⟨hd',rfl,rfl⟩,m'.same x' hb.os hb.tape hb.output hb.block,x,λk g hg'=>hfr k g (by omega),λe he=>?_,rep.mono ⟨An _,λ_ _ _ h=>(by cases h),λb _ hO2=>⟨hO2,rfl⟩,λb cs T fz h=>⟨cs,_,h,rfl⟩⟩⟩;obtain⟨e',h1,h2,h3,_⟩:=hH.names e he
  have:=hg e' h1
  omega
theorem mD {l:List UInt8}{i:Nat}{c:UInt8}(hc:l[i]?=some c)(hi:i<=BL l):(((c.toNat:Nat):Int)==47)=decide (i=BL l):=by
 have e1:(((c.toNat:Nat):Int)==47)=(c==47):=by
  rw[Fs,Ek,Ek,<-UInt8.toNat_inj];exact⟨λh=>(show c.toNat=47 by omega),λh=>by rw[h];rfl⟩
 rw[e1];unfold BL at hi⊢;clear e1
 induction l generalizing i with
 |nil=>cases hc
 |cons a l ih=>
  rw[Od]at hi⊢;cases i with
  |zero=>
   cases hc
   by_cases h:c=47
   ·subst h;rfl
   ·have h1:(c != 47)=true:=by simpa using h
    have h2:(c==47)=false:=by simpa using h
    rw[AI h1,h2,Br,Bc]
  |succ i=>
   by_cases h:a=47
   ·subst h
    exact Ak hi (by simp)
   ·have h1:(a != 47)=true:=by simpa using h
    rw[AI h1,Br]at hi⊢;rw[ih hc (by omega)];exact DO.2 (by omega)
theorem Ru (l:List UInt8)(h:l.all Bo=true)(hl:l.length<=18):AL C0 178 [str (sb l)] (i64 (dv l:Int)):=by
 refine Ad.walk w1 uv rfl λF=>?_
 have hsz:=Cx l;refine sR 0 ?_;refine sR 100 ?_;refine AC.seq ?_;refine sR 200 ?_;refine AC.block ?_;refine AC.loop (α:=Nat×Nat) (λp=>⟨[(0,str (sb l)),(3,i64 (dv (l.take p.1):Int)),(4,i64 (p.1:Int))],[],p.2⟩) (λp=>l.length-p.1) (λp=>p.1<=l.length) (0,_) (BT _) AK ?_;rintro⟨i,n⟩ F hi;dsimp only at hi⊢;refine AC.seq ?_;refine sZ 300 ?_;refine AV hsz ?_;refine AO ?_
 (refine B7 (λhlt=>?_) (λhlt=>?_))<;>(try simp only[Bs,B5]at hlt)<;>(try simp only[hlt])
 ·have hi2:i<l.length:=by
   have:=DN hlt
   omega
  obtain⟨c,hc⟩:∃c,l[i]?=some c:=⟨l[i],Bx hi2⟩
  have hcd:Bo c=true:=CY.1 h c (Au hc);obtain⟨c1,c2⟩:=ME hcd;have hg:(sb l).data.toList.getD i 0=c:=by
   show(l.toArray.toList).getD i 0=c;simp[hc]
  have hdl:dv (l.take i)<10^17:=by
   have:=G1 (l.take i) (CY.2 λa ha=>CY.1 h a (E3 ha))
   rw[Bd,Ft hi]at this;exact Cq this (FT (by decide) (by omega))
  have hnx:dv (l.take (i+1))=dv (l.take i)*10+(c.toNat-48):=by
   rw[Du,hc];show dv (l.take i++[c])=_;rw[O4];simp[dv,Hd]
  have k1:IntKind.i64.wrap (10*(dv (l.take i):Int))=((10*dv (l.take i):Nat):Int):=by rw[wI];omega
  have k2:IntKind.i64.wrap ((c.toNat:Nat):Int)=((c.toNat:Nat):Int):=wI;have k3:IntKind.i64.wrap (((10*dv (l.take i):Nat):Int)+((c.toNat:Nat):Int))=((10*dv (l.take i)+c.toNat:Nat):Int):=by rw[wI];omega
  have k4:IntKind.i64.wrap (((10*dv (l.take i)+c.toNat:Nat):Int)-48)=((dv (l.take (i+1)):Nat):Int):=by rw[hnx,wI];omega
  have wi:IntKind.i64.wrap ((i:Int)+1)=((i+1:Nat):Int):=wI;refine Am ?_;refine AC.seq ?_;refine AC.block ?_;refine Aq 500 ?_;refine AV (EP kN hg k1 k2 k3 k4) ?_;refine Aq 400 ?_;refine AV wi ?_;exact⟨(i+1,_),hi2,by dsimp only;omega,AK⟩
 ·have hi2:i=l.length:=by
   have:=Ds hlt
   omega
  subst hi2;rw[Cp (An _)];refine CO ?_;refine sR 600 ?_;refine Ag ?_;exact AM rfl AA.out
theorem Va (l:List UInt8)(hl:l.length<=1000000000):AL C0 89 [str (sb l)] (i64 (BL l:Int)):=by
 refine Ad.walk w1 zX rfl λF=>?_
 have hsz:=Cx l;refine sR 0 ?_;refine AC.seq ?_;refine sR 100 ?_;refine AC.block ?_;refine AC.loop (α:=Nat×Nat) (λp=>⟨[(0,str (sb l)),(3,i64 (p.1:Int))],[],p.2⟩) (λp=>l.length-p.1) (λp=>p.1<=BL l) (0,_) (BT _) AK ?_;rintro⟨i,n⟩ F hi;dsimp only at hi⊢;have hsl:=MH l;refine AC.seq ?_;refine sZ 200 ?_;refine AV hsz ?_;refine AO ?_
 (refine B7 (λhlt=>?_) (λhlt=>?_))<;>(try simp only[Bs,B5]at hlt)<;>(try simp only[hlt])
 ·have hi2:i<l.length:=by
   have:=DN hlt
   omega
  obtain⟨c,hc⟩:∃c,l[i]?=some c:=⟨l[i],Bx hi2⟩
  have hg:(sb l).data.toList.getD i 0=c:=by
   show(l.toArray.toList).getD i 0=c;simp[hc]
  have wi:IntKind.i64.wrap ((i:Int)+1)=((i+1:Nat):Int):=wI;have ht:(((c.toNat:Nat):Int)==47)=decide (i=BL l):=mD hc hi;refine Am ?_;refine AC.seq ?_;refine AC.block ?_;refine sZ 400 ?_;refine AV (Ar kN hg ht) ?_
  by_cases he:i=BL l
  ·rw[Ax he]
   refine AO ?_;refine sR 500 ?_;refine Ag ?_;exact AM (by rw[he]) AA.out
  ·rw[A8 he]
   refine AO ?_;refine Am ?_;refine Aq 300 ?_;refine AV wi ?_;exact⟨(i+1,_),by dsimp only;omega,by dsimp only;omega,AK⟩
 ·have hi2:i=l.length:=by
   have:=Ds hlt
   omega
  refine CO ?_;refine sZ 600 ?_;refine AV hsz ?_;refine Ag ?_;exact AM (by congr 3;omega) AA.out
theorem Zc {H Hf:Hp}{K g T:Nat}{l:List Nat}{N:Nat}(hl:l.length=N)(he:Hp.get H K=some ⟨K,g,T,1,l.map Ac⟩:=by exact rfl)(hn:Hp.get Hf K=none:=by exact rfl):Fz H Hf (.osl K g 1 0 N) (.sl false 1 (l.map Ac)):=by
 subst hl;have key:∀(j:Nat) (d d':D),(l.map Ac)[0+j]?=some d->(l.map Ac)[j]?=some d'->d=d':=λj d d' h1 h2=>by
  rw[BW]at h1;rw[h1]at h2;exact FY h2
 refine .osl (e:=⟨K,g,T,1,l.map Ac⟩) he hn rfl rfl (by simp) (by simp) (λj d d' h1 h2=>by rw[key j d d' h1 h2]) λj d d' q c c' h1 h2 h3 h4=>?_
 rw[key j d d' h1 h2]at h3;rw[h3]at h4;cases h4;exact Fz.refl _
theorem Rh (c:UInt8)(l:List UInt8):(((c.toNat:Nat):Int)==45)=Do (c::l):=by
 show _=(c==45);rw[Fs,Ek,Ek,<-UInt8.toNat_inj];exact⟨λh=>(show c.toNat=45 by omega),λh=>by rw[h];rfl⟩
abbrev OC:At:=⟨0,0,135,2,[.agg [Ap false,Cd]]⟩
theorem uK {x:List UInt8}(h:9<x.length):dv x=dv (x.take (x.length-9))*RB+dv (x.drop (x.length-9)):=by
 conv=>lhs;rw[<-FB (x.length-9) x,O4,D3,show x.length-(x.length-9)=9 by omega]
theorem yd (A B t n v:Nat):(A*B+t)*B^n+v=A*B^(n+1)+(v+B^n*t):=by
 rw[B0,B6,CW,Ba B,Ba t];omega
theorem Yc {x x0:List UInt8}{w:List Nat}(h9:9<x.length)(g1:x.all Bo=true)(g2:x.length+w.length*9=x0.length)(g3:Rd w)(g4:dv x0=dv x*RB^w.length+AP w):
  (x.take (x.length-9)).all Bo=true/\(x.take (x.length-9)).length+(w++[dv (x.drop (x.length-9))]).length*9=x0.length/\Rd (w++[dv (x.drop (x.length-9))]) /\
  dv x0=dv (x.take (x.length-9))*RB^(w++[dv (x.drop (x.length-9))]).length+AP (w++[dv (x.drop (x.length-9))]):=by
 refine⟨CY.2 λa ha=>CY.1 g1 a (E3 ha),?_,Rd.append g3 λa ha=>?_,?_⟩
 ·rw[Bd,Be,HN];omega
 ·simp only[A9,Dv,or_false]at ha
  subst ha
  have:=G1 (x.drop (x.length-9)) (CY.2 λa ha=>CY.1 g1 a (Kv ha))
  rwa [D3,show x.length-(x.length-9)=9 by omega]at this
 ·rw[g4,uK h9,Hs rfl,Be,HN]
  exact yd _ _ _ _ _
theorem ni {x x0:List UInt8}{w:List Nat}(h9:x.length<=9)(g1:x.all Bo=true)(g3:Rd w)(g4:dv x0=dv x*RB^w.length+AP w):Rd (w++[dv x])/\AP (w++[dv x])=dv x0:=by
 refine⟨Rd.append g3 λa ha=>?_,?_⟩
 ·simp only[A9,Dv,or_false]at ha
  subst ha;exact Cq (G1 x g1) (FT (by decide) h9)
 ·rw[g4,Hs rfl,Ba,L2]
theorem ah {w:List Nat}{a:Nat}:List.take w.length (w.map Ac)++[i64 (a:Int)]=(w++[a]).map Ac:=by
 rw[Cp (by rw[Ae];exact An _),DA];rfl
theorem bR (l:List UInt8)(hd:(Bw l).all Bo=true)(hl:l.length<=1000000):AL C0 125 [str (sb l)] (rZ (rv l)):=by
 have er:rv l=sg (Do l) (dv (Bw l)):=rfl;rw[er];refine Ad.walk w1 vR rfl λF=>?_
 have hsz:=Cx l;have hdl:(Bw l).length<=l.length:=by
  unfold Bw;split
  ·rw[D3];omega
  ·exact An _
 refine sR 0 ?_;refine DL (α:=Nat) (λn=>⟨[(0,str (sb l)),(2,.optr 0 0 2 0 0),(3,Ap (Do l))],[OC],n⟩) (λ_=>True) ?_ ?_
 ·cases l with
  |nil=>
   have e0:(sb []).size=0:=rfl;have e1:decide (((0:Nat):Int)>0)=false:=rfl;refine Aq 100 ?_;refine AF (Ab e0 e1) ?_;refine AF (Ab kF e1) ?_;exact⟨trivial,_,trivial,AK⟩
  |cons c l=>
   have hpos:(sb (c::l)).size=l.length+1:=hsz;have e0:decide (((sb (c::l)).size:Int)>0)=true:=BX;have e1:((((c::l).getD (Int.toNat 0) 0).toNat:Int)==45)=Do (c::l):=Rh c l;refine Aq 100 ?_;refine AF e0 ?_;refine AF (Ar kT e0 e1) ?_;exact⟨trivial,_,trivial,AK⟩
 rintro n0 -;refine DL (α:=Nat) (λn=>⟨[(0,str (sb (Bw l))),(2,.optr 0 0 2 0 0),(3,Ap (Do l))],[OC],n⟩) (λ_=>True) ?_ ?_
 ·refine sR 200 ?_
  cases hb:Do l
  ·have ed:Bw l=l:=by unfold Bw;rw[hb];rfl
   rw[ed];refine AO ?_;refine Am ?_;exact⟨rfl,_,trivial,AK⟩
  ·have ed:Bw l=l.drop 1:=by unfold Bw;rw[hb];rfl
   have hl0:1<=l.length:=by
    cases l with
    |nil=>cases hb
    |cons c l=>rw[Br];omega
   have ee:(sb l).extract (Int.toNat 1) l.length=sb (Bw l):=by
    rw[Ff,Cp (An _),ed];rfl
   refine AO ?_;refine Aq 300 ?_;refine AF (Ab hsz kN) ?_;rw[ee];exact⟨trivial,_,trivial,AK⟩
 rintro n1 -;generalize Do l=neg at*;generalize Bw l=x0 at*;clear er hsz;have hx0:x0.length<=1000000:=BV hdl hl;clear hdl hl l;refine sR 400 ?_;refine AC.seq ?_;refine AC.block ?_;refine AC.loop (α:=Bool×List UInt8×List Nat×Nat×Nat) (λp=>match p with
  |(false,x,_,_,n)=>⟨[(0,str (sb x)),(2,.optr 0 0 2 0 0),(3,Ap neg),(4,Cd)],[OC],n⟩
  |(true,x,w,g,n)=>⟨[(0,str (sb x)),(2,.optr 0 0 2 0 0),(3,Ap neg),(4,.osl 608 g 1 0 w.length)],[⟨608,g,3,1,w.map Ac⟩,OC],n⟩) (λp=>p.2.1.length)
  (λp=>p.2.1.all Bo=true/\p.2.1.length+p.2.2.1.length*9=x0.length/\Rd p.2.2.1/\dv x0=dv p.2.1*RB^p.2.2.1.length+AP p.2.2.1/\(p.1=false->p.2.2.1=[]))
  (false,x0,[],0,_) ⟨hd,rfl,(λa ha=>by cases ha),by simp[AP],λ_=>rfl⟩ AK ?_
 rintro⟨t,x,w,g,n2⟩ F ⟨g1,g2,g3,g4,g5⟩;dsimp only at g1 g2 g3 g4 g5;have hsz:=Cx x
 by_cases h9:9<x.length
 ·have ht:decide ((x.length:Int)>9)=true:=BX
  have cv:=Ru (x.drop (x.length-9)) (CY.2 λa ha=>CY.1 g1 a (Kv ha)) (by rw[D3];omega);have wk:IntKind.i64.wrap ((x.length:Int)-9)=((x.length-9:Nat):Int):=by rw[wI];omega
  have wr:IntKind.i64.wrap (((sb x).size:Int)-9)=((x.length-9:Nat):Int):=by rw[hsz,wk]
  have e1:(sb x).extract (x.length-9) x.length=sb (x.drop (x.length-9)):=by rw[Ff,Cp (An _)]
  have e2:(sb x).extract 0 (x.length-9)=sb (x.take (x.length-9)):=by rw[Ff,GR]
  cases t
  ·dsimp only
   obtain rfl:=g5 rfl;refine AC.seq ?_;refine sZ 500 ?_;refine AV (Ab hsz ht) ?_;refine AO ?_;refine Am ?_;refine AC.block ?_;refine sZ 600 ?_;refine AF (CN hsz wk wr kN e1) ?_;refine BE.same _ cv AJ ?_;refine BR ?_;have J:=Yc h9 g1 g2 g3 g4;rw[FS]at J;refine Aq 700 ?_;refine AF (Bb hsz wk wr kN) ?_;refine AF e2 ?_;exact⟨(true,x.take (x.length-9),[dv (x.drop (x.length-9))],n2+11,_),⟨J.1,J.2.1,J.2.2.1,J.2.2.2,λh=>by cases h⟩,by dsimp only;rw[Bd];omega,AK⟩
  ·dsimp only
   clear g5;have J:=Yc h9 g1 g2 g3 g4;have ew:(w.map Ac).length=w.length:=Ae _;have el:w.length+1=(w++[dv (x.drop (x.length-9))]).length:=by rw[Be];rfl
   refine AC.seq ?_;refine sZ 500 ?_;refine AV (Ab hsz ht) ?_;refine AO ?_;refine Am ?_;refine AC.block ?_;refine sZ 600 ?_;refine AF (CN hsz wk wr kN e1) ?_;refine BE.same _ cv AJ ?_;refine BR ?_;rw[ah,el];refine Aq 700 ?_;refine AF (Bb hsz wk wr kN) ?_;refine AF e2 ?_;exact⟨(true,x.take (x.length-9),w++[dv (x.drop (x.length-9))],n2+11,_),⟨J.1,J.2.1,J.2.2.1,J.2.2.2,λh=>by cases h⟩,by dsimp only;rw[Bd];omega,AK⟩
 ·have ht:decide ((x.length:Int)>9)=false:=Bc
  have cv:=Ru x g1 (by omega);obtain⟨r1,r2⟩:=ni (by omega) g1 g3 g4;have cs:=aN neg (w++[dv x]) r1 (by rw[Be,HN];omega);rw[r2]at cs;cases t
  ·dsimp only
   obtain rfl:=g5 rfl;refine AC.seq ?_;refine sZ 500 ?_;refine AV (Ab hsz ht) ?_;refine AO ?_;refine CO ?_;refine sR 800 ?_;refine BE.same _ cv AJ ?_;refine BR ?_;refine BE.own _ (QS [OC] cs (.drop (.keep .nil)) ⟨.refl _,Zc rfl,trivial⟩ AJ) ?_;rintro d H' n' ⟨rfl,rfl,rfl⟩;refine BR ?_;refine Ag ?_;exact AM rfl AA.out
  ·dsimp only
   clear g5;have ew:(w.map Ac).length=w.length:=Ae _;have el:w.length+1=(w++[dv x]).length:=by rw[Be];rfl
   refine AC.seq ?_;refine sZ 500 ?_;refine AV (Ab hsz ht) ?_;refine AO ?_;refine CO ?_;refine sR 800 ?_;refine BE.same _ cv AJ ?_;refine BR ?_;rw[ah,el];refine BE.own _ (QS [OC] cs (.drop (.keep .nil)) ⟨.refl _,Zc rfl,trivial⟩ AJ) ?_;rintro d H' n' ⟨rfl,rfl,rfl⟩;refine BR ?_;refine Ag ?_;exact AM rfl AA.out
def XR (o:Option D):Bool:=match o with
 |some (.agg [.prim (.bool false),.sl false 1 [.prim (.int .i64 1)]])=>true
 |_=>false
theorem qU {o:Option D}(h:XR o=true):o=some (rZ 1):=by
 have h1:Aa 1=[1]:=Qs (by decide) (by decide);unfold XR at h;split at h
 ·show _=some (D.agg [Ap (decide ((1:Int)<0)),rL (Aa 1)])
  rw[h1];rfl
 ·cases h
theorem mK:XR ((Gm X1 1000 60).1 126 [i64 1])=true:=by kernel_rfl
theorem oN:AL C0 126 [i64 1] (rZ 1):=QT D5 1000 60 (qU mK)
def QJ (l:List UInt8):Int:=rv (CE l)
def P9 (l:List UInt8):Int:=if DD l then rv (Bg l)else 1
instance  (x y:Int):AA (.tup [rZ x,rZ y]):=⟨.tup λd hd=>by
 simp only[A9,Dv,or_false]at hd;rcases hd with rfl|rfl
 ·exact AA.out
 ·exact AA.out⟩
theorem VX (l:List UInt8)(hn:(Bw (CE l)).all Bo=true)(hd:(Bw (Bg l)).all Bo=true)(hl:l.length<=1000000):AL C0 91 [str (sb l)] (.tup [rZ (QJ l),rZ (P9 l)]):=by
 refine Ad.walk w1 zZ rfl λF=>?_
 have hsz:=Cx l;have cs:=Va l (by omega);have hsl:=MH l;have c1:=bR (CE l) hn (by unfold CE;rw[Bd];omega);have c2:=bR (Bg l) hd (by unfold Bg;rw[D3];omega);have cw:=oN;unfold QJ P9;refine sR 0 ?_;refine sR 100 ?_;refine sR 200 ?_;refine cI cs ?_;cases hh:DD l
 ·have he:BL l=l.length:=by
   unfold DD at hh
   have:=Ds hh
   omega
  have e0:(((BL l:Nat):Int)==(l.length:Int))=true:=Ek.2 (by omega);have en:CE l=l:=by unfold CE;rw[he,Cp (An _)]
  rw[en]at c1⊢;refine AC.seq ?_;refine sZ 300 ?_;refine AV (Ab hsz e0) ?_;refine AO ?_;refine sR 400 ?_;refine cI c1 ?_;refine BE.same _ cw AJ ?_;refine BR ?_;refine Ag ?_;exact AM rfl AA.out
 ·have he:BL l<l.length:=DN hh
  have e0:(((BL l:Nat):Int)==(l.length:Int))=false:=B4.2 (by omega);have x1:(sb l).extract 0 (BL l)=sb (CE l):=by rw[Ff,GR];rfl
  have x2:(sb l).extract (BL l+1) l.length=sb (Bg l):=by rw[Ff,Cp (An _)];rfl
  have wk:IntKind.i64.wrap (((BL l:Nat):Int)+1)=((BL l+1:Nat):Int):=wI;refine AC.seq ?_;refine sZ 300 ?_;refine AV (Ab hsz e0) ?_;refine AO ?_;refine Am ?_;refine AC.seq ?_;refine CR 500 [0,1,2,3,4,5,6,7] [8,9,10] ?_;refine AF (CN hsz wk kN x1 x2) ?_;refine Bf.same _ c1 AJ ?_;refine AF (CN hsz wk kN x1 x2) ?_;refine BE.same _ c2 AJ ?_;refine BR ?_;refine Ag ?_;exact AM rfl AA.out
def A0 (r:Rat):List UInt8:=if r.den=1 then Lib.itoa r.num else Lib.itoa r.num++47::Lib.decDigits r.den
def qZ (x y:Int):Rat:=mkRat (if y<0 then -x else x) y.natAbs
theorem Uw {x:Int}{d:Nat}(hd:d≠0):(mkRat x d).num=sg (decide (x<0)) (x.natAbs/Nat.gcd x.natAbs d)/\(mkRat x d).den=d/Nat.gcd x.natAbs d:=by
 rw[mkRat,dif_neg hd,Rat.normalize_eq];refine⟨?_,rfl⟩;dsimp only;have hg:0<Nat.gcd x.natAbs d:=QV _ (EX hd);obtain⟨p,hp⟩:=Nat.gcd_dvd_left x.natAbs d;have e1:x.natAbs/Nat.gcd x.natAbs d=p:=by
  refine Nat.div_eq_of_eq_mul_right hg hp
 have e2:x=(Nat.gcd x.natAbs d:Int)*sg (decide (x<0)) p:=by
  have h0:(x.natAbs:Int)=(Nat.gcd x.natAbs d:Int)*(p:Int):=by rw[<-Gj,<-hp]
  unfold sg
  by_cases hx:x<0
  ·rw[Ax hx,AI rfl,Int.mul_neg,<-h0];omega
  ·rw[A8 hx,AG (by decide),<-h0];omega
 rw[e1]
 conv=>lhs;arg 1;rw[e2]
 rw[Int.mul_ediv_cancel_left _ (by omega)]
theorem Zr (q:Nat):((((((Aa q).map Ac).length:Nat):Int)==1)=true/\∃a,(Aa q)[0]?=some a/\(((a:Nat):Int)==1)=decide (q=1))\/((((((Aa q).map Ac).length:Nat):Int)==1)=false/\q≠1):=by
 rw[Ae]
 by_cases h:(Aa q).length=1
 ·refine .inl ⟨Ek.2 (by omega),?_⟩
  obtain⟨a,ha⟩:=Ch (l:=Aa q) (i:=0) (by omega);refine⟨a,ha,?_⟩;have e:Aa q=[a]:=by
   obtain⟨b,hb⟩:=List.length_eq_one_iff.1 h;rw[hb]at ha⊢;cases ha;rfl
  have e2:q=a:=by rw[<-Ec q,e];simp[AP]
  rw[e2];rw[Fs,Ek,decide_eq_true_iff];omega
 ·refine .inr ⟨B4.2 (by omega),λhq=>h ?_⟩
  rw[hq,Qs (by decide) (by decide)];rfl
theorem mT (x y:Int)(hy0:y≠0)(hx:Hc x)(hy:Hc y):AL C0 130 [rZ x,rZ y] (str (sb (A0 (qZ x y)))):=by
 refine Ad.walk w1 vV rfl λF=>?_
 unfold qZ;refine sR 0 ?_;refine DL (α:=Nat) (λn=>⟨[(2,.optr 0 0 2 0 0),(3,.optr 1 1 2 0 0)],[⟨1,1,135,2,[.agg [Ap false,rD y.natAbs]]⟩,⟨0,0,135,2,[rZ (if y<0 then -x else x)]⟩],n⟩) (λ_=>True) ?_ ?_
 ·by_cases h:y<0
  ·have cx:=bY x hx
   have cy:=bY y hy;have e1:rZ (-y)=.agg [Ap false,rD y.natAbs]:=by
    show D.agg [Ap (decide (-y<0)),rD (-y).natAbs]=_;rw[Bc,M8]
   rw[e1]at cy;rw[AI h];refine sZ 100 ?_;refine AV (Ax h) ?_;refine AO ?_;refine CR 200 [0,1,2] [3,4,5] ?_;refine AF kN ?_;refine Bf.same _ cx AJ ?_;refine AF kN ?_;refine BE.same _ cy AJ ?_;refine BR ?_;exact⟨trivial,_,trivial,AK⟩
  ·have e1:rZ y=.agg [Ap false,rD y.natAbs]:=by
    show D.agg [Ap (decide (y<0)),rD y.natAbs]=_;rw[A8 h]
   rw[AG h];refine sZ 100 ?_;refine AV (A8 h) ?_;refine AO ?_;refine Am ?_;refine⟨rfl,5,trivial,?_⟩;rw[<-e1];exact AK
 rintro n0 -;obtain⟨z,hz⟩:∃z,z=(if y<0 then -x else x):=⟨_,rfl⟩
 have hza:z.natAbs=x.natAbs:=by rw[hz];split<;>omega
 obtain⟨d,hd⟩:∃d,d=y.natAbs:=⟨_,rfl⟩
 have hd0:d≠0:=by omega
 unfold Hc at hx hy;rw[<-hza]at hx;rw[<-hd]at hy;rw[<-hz,<-hd];clear hz hza hd hy0;clear x y;have cg:=Za z.natAbs d hx hy;obtain⟨qn,qd⟩:=Uw (x:=z) hd0;have hg:0<Nat.gcd z.natAbs d:=QV _ (EX hd0);have hgl:(Aa (Nat.gcd z.natAbs d)).length<1000000:=Da (Jb _ _ (Nat.gcd_le_right _ (EX hd0))) hy;have c4:=XA z.natAbs (Nat.gcd z.natAbs d) (by omega) hx hgl;have c5:AL C0 127 [rD d,rD (Nat.gcd z.natAbs d)] (.tup [.sl false 1 ((Aa (d/Nat.gcd z.natAbs d)).map Ac),rD (d%Nat.gcd z.natAbs d)]):=XA d (Nat.gcd z.natAbs d) (by omega) hy hgl;have hpl:(Aa (z.natAbs/Nat.gcd z.natAbs d)).length<1000000:=Da (Jb _ _ (GQ _ _)) hx;have hql:(Aa (d/Nat.gcd z.natAbs d)).length<1000000:=Da (Jb _ _ (GQ _ _)) hy;have etx:A0 (mkRat z d)=if d/Nat.gcd z.natAbs d=1 then Lib.itoa (sg (decide (z<0)) (z.natAbs/Nat.gcd z.natAbs d))else Lib.itoa (sg (decide (z<0)) (z.natAbs/Nat.gcd z.natAbs d))++47::Lib.decDigits (d/Nat.gcd z.natAbs d):=by
  unfold A0;rw[qn,qd]
 rw[etx];clear etx qn qd hg hgl;generalize z.natAbs/Nat.gcd z.natAbs d=p at*;generalize d/Nat.gcd z.natAbs d=q at*;generalize z.natAbs%Nat.gcd z.natAbs d=r1 at*;generalize d%Nat.gcd z.natAbs d=r2 at*;generalize Nat.gcd z.natAbs d=gg at*;have c6:=MY (decide (z<0)) p (by omega);have hab:(sg (decide (z<0)) p).natAbs=p:=by unfold sg;split<;>omega
 have c7:=gC (sg (decide (z<0)) p) (by unfold Hc;rw[hab];exact hpl);have c8:=MY false q (by omega);have c9:=gC (sg false q) (by unfold Hc;show(Aa q).length<1000000;exact hql);have e9:Lib.itoa (sg false q)=Lib.decDigits q:=by rw[aw false q (by simp)];rfl
 rw[e9]at c9;have l1:=PU (FL p);rw[Ec]at l1;have l2:=PU (FL q);rw[Ec]at l2;have l3:(Lib.itoa (sg (decide (z<0)) p)).length<=(Lib.decDigits p).length+1:=by
  unfold Lib.itoa;split
  ·rw[hab,Br];exact An _
  ·rw[show(sg (decide (z<0)) p).toNat=p by omega];omega
 generalize sg (decide (z<0)) p=pz at*;have s1:=Cx (Lib.itoa pz);have s2:=Cx (Lib.decDigits q);have s3:(⟨#[47]⟩:ByteArray).size=1:=rfl;have s4:(sb (Lib.itoa pz)++(⟨#[47]⟩:ByteArray)).size=(sb (Lib.itoa pz)).size+(⟨#[47]⟩:ByteArray).size:=ByteArray.size_append;generalize Lib.itoa pz=t1 at*;generalize Lib.decDigits q=t2 at*;refine sR 300 ?_;refine cI cg ?_;refine sR 400 ?_;refine cI c4 ?_;refine sR 500 ?_;refine cI c5 ?_;refine sR 600 ?_;refine cI c6 ?_;refine cI c7 ?_;have ht:=Zr q;rcases ht with⟨h1,a,ha,h2⟩|⟨h1,h2⟩
 ·have ha':=EN ha
  refine AC.seq ?_;refine sZ 700 ?_;refine AF h1 ?_;refine B3 kT ha' ?_;refine AF (Ab h1 h2) ?_
  by_cases hq:q=1
  ·rw[Ax hq,AI hq]
   refine AO ?_;refine sR 800 ?_;refine Ag ?_;exact AM rfl AA.out
  ·rw[A8 hq,AG hq]
   refine AO ?_;refine Am ?_;refine sR 900 ?_;refine BE.same _ c8 AJ ?_;refine BR ?_;refine BE.same _ c9 AJ ?_;refine BR ?_;refine Ag ?_;refine AM ?_ AA.out;show str ((⟨t1.toArray⟩++⟨([47]:List UInt8).toArray⟩:ByteArray)++⟨t2.toArray⟩)=_;rw[Jk,Jk,Dt];rfl
 ·rw[AG h2]
  refine AC.seq ?_;refine sZ 700 ?_;refine AV h1 ?_;refine AF kF ?_;refine AO ?_;refine Am ?_;refine sR 900 ?_;refine BE.same _ c8 AJ ?_;refine BR ?_;refine BE.same _ c9 AJ ?_;refine BR ?_;refine Ag ?_;refine AM ?_ AA.out;show str ((⟨t1.toArray⟩++⟨([47]:List UInt8).toArray⟩:ByteArray)++⟨t2.toArray⟩)=_;rw[Jk,Jk,Dt];rfl
set_option maxHeartbeats 2000000
theorem Ra (k:Nat)(h:k<10):(UInt8.ofNat (48+k)).toNat=48+k:=by
 rw[UInt8.toNat_ofNat'];omega
theorem E6:∀n:Nat,(Lib.decDigits n).all Bo=true/\dv (Lib.decDigits n)=n/\(Lib.decDigits n)≠[]:=λn=>by
 induction n using Nat.strongRecOn with
 |_ n ih=>
  have one:∀k,k<10->Bo (UInt8.ofNat (48+k))=true:=λk hk=>by
   unfold Bo;rw[Ra k hk,BU];exact⟨Nat.ble_eq_true_of_le (by omega),Nat.ble_eq_true_of_le (by omega)⟩
  have vone:∀k,k<10->dv [UInt8.ofNat (48+k)]=k:=λk hk=>by
   show 0*10+((UInt8.ofNat (48+k)).toNat-48)=k;rw[Ra k hk];omega
  rw[Lib.decDigits];split
  ·rename_i h
   exact⟨by rw[GS,one n h];rfl,vone n h,by simp⟩
  ·rename_i h
   obtain⟨h1,h2,h3⟩:=ih (n/10) (by omega);refine⟨by rw[Ky,h1,GS,one _ (CI _ (by decide))];rfl,?_,by simp⟩;rw[O4,h2,vone _ (CI _ (by decide)),HN];omega
theorem ol {n:Nat}(h:n≠0):∃c l,Lib.decDigits n=c::l/\c≠48:=by
 induction n using Nat.strongRecOn with
 |_ n ih=>
  rw[Lib.decDigits];split
  ·rename_i h1
   refine⟨_,_,rfl,λhh=>?_⟩
   have:=congrArg UInt8.toNat hh
   rw[Ra n h1]at this
   have:48+n=48:=this
   omega
  ·rename_i h1
   obtain⟨c,l,e,hc⟩:=ih (n/10) (by omega) (by omega);rw[e];exact⟨c,l++_,rfl,hc⟩
theorem uI {c:UInt8}(h:Bo c=true):c≠47/\c≠45:=by
 obtain⟨h1,h2⟩:=ME h;exact⟨λhh=>by subst hh;simp at h1,λhh=>by subst hh;simp at h1⟩
theorem MU (z:Int):Do (Lib.itoa z)=decide (z<0)/\Bw (Lib.itoa z)=Lib.decDigits z.natAbs:=by
 unfold Lib.itoa
 by_cases h:z<0
 ·rw[AI h,Ax h]
  exact⟨rfl,rfl⟩
 ·rw[AG h,A8 h,show z.toNat=z.natAbs by omega]
  have h1:=T9 (E6 z.natAbs).1;exact⟨h1,K9 (E6 z.natAbs).1⟩
theorem bv (z:Int):rv (Lib.itoa z)=z:=by
 unfold rv;rw[(MU z).1,(MU z).2,(E6 z.natAbs).2.1]
 by_cases h:z<0
 ·rw[Ax h,AI rfl];omega
 ·rw[A8 h,AG (by decide)];omega
theorem Xg (z:Int):∀c∈Lib.itoa z,(c != 47)=true:=λc hc=>by
 have hd:∀n,∀c∈Lib.decDigits n,(c != 47)=true:=λn c h=>by
  have:=(uI (CY.1 (E6 n).1 c h)).1
  simpa using this
 unfold Lib.itoa at hc;split at hc
 ·rcases A9.1 hc with rfl|h
  ·rfl
  ·exact hd _ c h
 ·exact hd _ c hc
theorem To {p:UInt8->Bool}:∀ {l:List UInt8} (m:List UInt8),(∀c∈l,p c=true)->(l++m).takeWhile p=l++m.takeWhile p
 | [],_,_=>rfl
 |a::l,m,h=>by
  rw[E2,Od,AI (h a B1),To m λc hc=>h c (B9 _ hc)];rfl
theorem PE (r:Rat):BL (A0 r)=(Lib.itoa r.num).length:=by
 unfold BL A0;split
 ·have:=To (p:=(· != 47)) [] (Xg r.num)
  rw[Dh]at this;rw[this];simp
 ·rw[To (p:=(· != 47)) _ (Xg r.num)]
  simp
theorem Pc (r:Rat):CE (A0 r)=Lib.itoa r.num:=by
 unfold CE;rw[PE];unfold A0;split
 ·exact Cp (An _)
 ·exact List.take_left' rfl
theorem NZ (r:Rat):Bg (A0 r)=if r.den=1 then[]else Lib.decDigits r.den:=by
 unfold Bg;rw[PE];unfold A0;split
 ·exact IK (Nat.le_succ _)
 ·rw[List.drop_append]
  rw[IK (Nat.le_succ _),L0];rfl
theorem Rt (r:Rat):DD (A0 r) = !decide (r.den=1):=by
 unfold DD;rw[PE];unfold A0
 by_cases h:r.den=1
 ·rw[AI h,Ax h,Bc];rfl
 ·rw[AG h,A8 h,Be,Br,BX];rfl
theorem aA (r:Rat):QJ (A0 r)=r.num:=by unfold QJ;rw[Pc,bv]
theorem qx (r:Rat):P9 (A0 r)=r.den:=by
 unfold P9;rw[Rt,NZ]
 by_cases h:r.den=1
 ·rw[Ax h,h];rfl
 ·rw[A8 h,AG h,AI (show(!false)=true from rfl),N0 (E6 _).1,(E6 _).2.1]
theorem Z9 (r:Rat):(Bw (CE (A0 r))).all Bo=true:=by rw[Pc,(MU _).2];exact(E6 _).1
theorem aV (r:Rat):(Bw (Bg (A0 r))).all Bo=true:=by
 rw[NZ];split
 ·rfl
 ·rw[K9 (E6 _).1];exact(E6 _).1
theorem av (z:Int):Lib.itoa z≠[]:=by
 unfold Lib.itoa;split
 ·simp
 ·exact(E6 _).2.2
theorem gF (r:Rat):A0 r≠[]:=by
 unfold A0;split
 ·exact av _
 ·simp
theorem VQ (r:Rat):Do (A0 r)=decide (r.num<0):=by
 rw[<-(MU r.num).1];unfold A0;split
 ·rfl
 ·have:=av r.num
  cases h:Lib.itoa r.num with
  |nil=>exact Ak h this
  |cons c l=>rfl
theorem aB (r:Rat):decide (A0 r=[48])=decide (r.num=0):=by
 refine DO.2 ⟨λh=>?_,λh=>?_⟩
 ·have h1:=aA r
  rw[h]at h1;rw[<-h1];decide
 ·have:r.den=1:=by
   have:=r.reduced
   rw[h]at this;simpa using this
  unfold A0;rw[AI this,h];show Lib.decDigits 0=[48];rw[Lib.decDigits,dif_pos (by decide)];rfl
abbrev rR (r:Rat):D:=str (sb (A0 r))
def M5 (r:Rat):Prop:=(A0 r).length<=1000000
theorem fo (r:Rat)(hl:M5 r):AL C0 109 [rR r] (i64 (HC r)):=by
 refine Ad.walk w1 vM rfl λF=>?_
 have hsz:=Cx (A0 r);unfold M5 at hl;have ez:=E8 (A0 r) [48];rw[aB]at ez;have en:=VQ r;refine sR 0 ?_;refine AC.seq ?_;refine AC.seq ?_;have ez2:BI (sb (A0 r)) ⟨#[48]⟩=decide (r.num=0):=ez;have hne:=gF r;refine Aq 100 ?_;refine AV ez2 ?_
 by_cases h0:r.num=0
 ·rw[Ax h0]
  refine AO ?_;refine sR 200 ?_;refine Ag ?_;exact AM (by unfold HC;rw[h0];rfl) AA.out
 ·rw[A8 h0]
  have hpos:0<(A0 r).length:=List.length_pos_iff.2 hne;have e0:decide (((sb (A0 r)).size:Int)>0)=true:=BX;have e1:((((A0 r).getD (Int.toNat 0) 0).toNat:Int)==45)=decide (r.num<0):=by
   rw[<-en];cases ht:A0 r with
   |nil=>exact Ak ht hne
   |cons c l=>exact Rh c l
  refine AO ?_;refine Am ?_;refine AC.seq ?_;refine sZ 300 ?_;refine AF e0 ?_;refine AF (Ar kT e0 e1) ?_
  by_cases hn:r.num<0
  ·rw[Ax hn]
   refine AO ?_;refine sR 400 ?_;refine Ag ?_;exact AM (by unfold HC;congr 3;omega) AA.out
  ·rw[A8 hn]
   refine AO ?_;refine Am ?_;refine sR 500 ?_;refine Ag ?_;exact AM (by unfold HC;congr 3;omega) AA.out
theorem bp {r:Rat}(h:r.num<0):(A0 r).drop 1=A0 (-r)/\(A0 (-r)).length+1=(A0 r).length:=by
 have e:Lib.itoa r.num=45::Lib.itoa (-r.num):=by
  unfold Lib.itoa;rw[AI h,CM,show(-r.num).toNat=r.num.natAbs by omega]
 have e2:A0 r=45::A0 (-r):=by
  unfold A0;rw[Rat.neg_den,Rat.neg_num,e];split<;>rfl
 rw[e2];exact⟨rfl,rfl⟩
def Df (r:Rat):Rat:=if r.num<0 then -r else r
theorem RV (r:Rat):(Df r).num=r.num.natAbs/\(Df r).den=r.den:=by
 unfold Df;split
 ·rw[Rat.neg_num,Rat.neg_den];exact⟨by omega,rfl⟩
 ·exact⟨by omega,rfl⟩
def qk (r:Rat):Bool:=!decide (20<(A0 r).length) && !(decide (9<BL (A0 (Df r)))||decide (10<(A0 (Df r)).length-BL (A0 (Df r))))
theorem pW (r:Rat):(A0 (Df r)).length<=(A0 r).length:=by
 unfold Df;split
 ·rename_i h
  have:=(bp h).2
  omega
 ·exact An _
theorem UC (r:Rat):Lib.itoa (Df r).num=Lib.decDigits r.num.natAbs:=by
 rw[(RV r).1];unfold Lib.itoa;rw[CM];rfl
theorem Ux {r:Rat}(h:qk r=true):r.num.natAbs<10^9/\r.den<10^9:=by
 unfold qk at h;simp only[BU,Bs,Hj,Hh]at h;obtain⟨h1,h2,h3⟩:=h;have hs:=PE (Df r);rw[UC]at hs;have hd:=NZ (Df r);rw[(RV r).2]at hd;have hdl:(Bg (A0 (Df r))).length=(A0 (Df r)).length-(BL (A0 (Df r))+1):=by unfold Bg;rw[D3]
 have d1:=G1 _ (E6 r.num.natAbs).1;have d2:=G1 _ (E6 r.den).1;rw[(E6 _).2.1]at d1 d2;refine⟨Cq d1 (FT (by decide) (by omega)),?_⟩
 by_cases h1:r.den=1
 ·rw[h1];decide
 ·rw[AG h1]at hd
  rw[hd]at hdl;exact Cq d2 (FT (by decide) (by omega))
theorem bV (r:Rat)(hl:M5 r):AL C0 128 [rR r] (.tup [i64 (if qk r then r.num else 0),i64 (if qk r then(r.den:Int)else 0),Ap (qk r)]):=by
 refine Ad.walk w1 vT rfl λF=>?_
 have hsz:=Cx (A0 r);unfold M5 at hl;have hne:=gF r;have hpos:0<(A0 r).length:=List.length_pos_iff.2 hne;refine sR 0 ?_;refine sR 100 ?_;refine AC.seq ?_;refine AC.seq ?_
 by_cases h20:20<(A0 r).length
 ·have e2:decide (((A0 r).length:Int)>20)=true:=BX
  have eq:qk r=false:=by unfold qk;rw[Ax h20];rfl
  rw[eq];refine Aq 200 ?_;refine AV (Ab hsz e2) ?_;refine AO ?_;refine sR 300 ?_;refine Ag ?_;exact AM rfl AA.out
 ·have e2:decide (((A0 r).length:Int)>20)=false:=Bc
  have eq:qk r = !(decide (9<BL (A0 (Df r)))||decide (10<(A0 (Df r)).length-BL (A0 (Df r)))):=by unfold qk;rw[A8 h20];rfl
  have en:=VQ r;refine Aq 200 ?_;refine AV (Ab hsz e2) ?_;refine AO ?_;refine Am ?_;refine DL (α:=Nat) (λn=>⟨[(5,rR r),(6,Ap (decide (r.num<0)))],[],n⟩) (λ_=>True) ?_ ?_
  ·have e0:decide (((sb (A0 r)).size:Int)>0)=true:=BX
   have e1:((((A0 r).getD (Int.toNat 0) 0).toNat:Int)==45)=decide (r.num<0):=by
    rw[<-en];cases ht:A0 r with
    |nil=>exact Ak ht hne
    |cons c l=>exact Rh c l
   refine Aq 400 ?_;refine AF e0 ?_;refine AF (Ar kT e0 e1) ?_;exact⟨trivial,_,trivial,AK⟩
  rintro n0 -;refine DL (α:=Nat) (λn=>⟨[(5,rR (Df r)),(6,Ap (decide (r.num<0)))],[],n⟩) (λ_=>True) ?_ ?_
  ·refine sR 500 ?_
   by_cases h:r.num<0
   ·obtain⟨t1,t2⟩:=bp h
    have ea:Df r = -r:=by unfold Df;rw[AI h]
    have ee:(sb (A0 r)).extract (Int.toNat 1) (A0 r).length=sb (A0 (Df r)):=by
     rw[ea,Ff,Cp (An _),<-t1];rfl
    rw[Ax h];refine AO ?_;refine Aq 600 ?_;refine AF (Ab hsz kN) ?_;rw[ee];exact⟨trivial,_,trivial,AK⟩
   ·have ea:Df r=r:=by unfold Df;rw[AG h]
    rw[A8 h,ea];refine AO ?_;refine Am ?_;exact⟨rfl,_,trivial,AK⟩
  rintro n1 -;have hal:=pW r;have hsa:=PE (Df r);rw[UC]at hsa;have hn:=Pc (Df r);rw[UC]at hn;have hd:=NZ (Df r);rw[(RV r).2]at hd;have hh:=Rt (Df r);rw[(RV r).2]at hh;unfold DD at hh;have hle:=MH (A0 (Df r));have cs:=Va (A0 (Df r)) (by omega);have hszA:=Cx (A0 (Df r));clear hsz hne hpos e2 en;generalize hT:A0 (Df r)=T at*;have eR:rR (Df r)=str (sb T):=by rw[<-hT]
  rw[eR];clear hT eR;refine sR 700 ?_;refine cI cs ?_;have w8:IntKind.i64.wrap ((T.length:Int)-(BL T:Int))=((T.length-BL T:Nat):Int):=by rw[wI];omega
  have eb:decide (((T.length-BL T:Nat):Int)>10)=decide (10<T.length-BL T):=DO.2 (by omega)
  by_cases h9:9<BL T
  ·have e8:decide ((BL T:Int)>9)=true:=BX
   rw[Ax h9]at eq;have eq2:qk r=false:=eq;rw[eq2];refine AC.seq ?_;refine sZ 800 ?_;refine AV e8 ?_;refine AF kT ?_;refine AO ?_;refine sR 900 ?_;refine Ag ?_;exact AM rfl AA.out
  have e8:decide ((BL T:Int)>9)=false:=Bc;rw[A8 h9]at eq
  by_cases h10:10<T.length-BL T
  ·rw[Ax h10]at eq eb
   have eq2:qk r=false:=eq;rw[eq2];refine AC.seq ?_;refine sZ 800 ?_;refine AV e8 ?_;refine AF (Bb kF hszA w8 eb) ?_;refine AO ?_;refine sR 900 ?_;refine Ag ?_;exact AM rfl AA.out
  rw[A8 h10]at eq eb;have eq2:qk r=true:=eq;rw[eq2];refine AC.seq ?_;refine sZ 800 ?_;refine AV e8 ?_;refine AF (Bb kF hszA w8 eb) ?_;refine AO ?_;refine Am ?_;have hd1:=E6 r.num.natAbs;have hd2:=E6 r.den;have c1:=Ru (Lib.decDigits r.num.natAbs) hd1.1 (by omega);rw[hd1.2.1]at c1;have e10:(sb T).extract 0 (BL T)=sb (Lib.decDigits r.num.natAbs):=by
   rw[Ff,GR,<-hn];rfl
  refine sZ 1000 ?_;refine AF (Ab hszA kN) ?_;refine AF e10 ?_;refine BE.same _ c1 AJ ?_;refine BR ?_;refine DL (α:=Nat) (λn=>⟨[(6,Ap (decide (r.num<0))),(8,i64 (r.num.natAbs:Int)),(9,i64 (r.den:Int))],[],n⟩) (λ_=>True) ?_ ?_
  ·by_cases hden:r.den=1
   ·rw[Ax hden]at hh
    have e11:decide ((BL T:Int)<(T.length:Int))=false:=A8 (by have:=Ds (p:=BL T<T.length) hh;omega);rw[hden];refine sZ 1100 ?_;refine AV (Ab hszA e11) ?_;refine AO ?_;refine Am ?_;exact⟨rfl,_,trivial,AK⟩
   ·rw[A8 hden]at hh
    rw[AG hden]at hd;have hlt:=DN (p:=BL T<T.length) hh;have e11:decide ((BL T:Int)<(T.length:Int))=true:=BX;have wk:IntKind.i64.wrap (((BL T:Nat):Int)+1)=((BL T+1:Nat):Int):=wI;have e12:(sb T).extract (BL T+1) T.length=sb (Lib.decDigits r.den):=by
     rw[Ff,Cp (An _),<-hd];rfl
    have hdl:(Lib.decDigits r.den).length<=18:=by
     rw[<-hd];unfold Bg;rw[D3];omega
    have c2:=Ru (Lib.decDigits r.den) hd2.1 hdl;rw[hd2.2.1]at c2;refine sZ 1100 ?_;refine AV (Ab hszA e11) ?_;refine AO ?_;refine Aq 1200 ?_;refine AF (Ar hszA wk kN) ?_;refine AF e12 ?_;refine BE.same _ c2 AJ ?_;refine BR ?_;exact⟨trivial,_,trivial,AK⟩
  rintro n2 -;obtain⟨b1,b2⟩:=Ux eq2;refine DL (α:=Nat) (λn=>⟨[(8,i64 r.num),(9,i64 (r.den:Int))],[],n⟩) (λ_=>True) ?_ ?_
  ·refine sR 1300 ?_
   by_cases h:r.num<0
   ·have wn:IntKind.i64.wrap (0-(r.num.natAbs:Int))=r.num:=by rw[wI];omega
    rw[Ax h];refine AO ?_;refine Aq 1400 ?_;refine AV wn ?_;exact⟨trivial,_,trivial,AK⟩
   ·have en:(r.num.natAbs:Int)=r.num:=by omega
    rw[A8 h,en];refine AO ?_;refine Am ?_;exact⟨rfl,_,trivial,AK⟩
  rintro n3 -;refine sR 1500 ?_;refine Ag ?_;exact AM rfl AA.out
theorem oU (b:Bool)(n:Nat):(sg b n).natAbs=n:=by unfold sg;split<;>omega
theorem d9p (z:Int)(d:Nat)(hz:z.natAbs<=4000000000000000000)(hd0:0<d)(hd:d<=4000000000000000000):AL C0 129 [i64 z,i64 (d:Int)] (rR (mkRat z d)):=by
 refine Ad.walk w1 vU rfl λF=>?_
 have hg:0<Nat.gcd z.natAbs d:=QV _ hd0;have hgl:Nat.gcd z.natAbs d<=d:=Nat.gcd_le_right _ hd0;obtain⟨qn,qd⟩:=Uw (x:=z) (d:=d) (by omega);have etx:A0 (mkRat z d)=if d/Nat.gcd z.natAbs d=1 then Lib.itoa (mkRat z d).num else Lib.itoa (mkRat z d).num++47::Lib.decDigits (d/Nat.gcd z.natAbs d):=by
  unfold A0;rw[qd]
 have q1:z.tdiv (Nat.gcd z.natAbs d:Nat)=(mkRat z d).num:=by
  rw[qn];obtain⟨p,hp⟩:=Nat.gcd_dvd_left z.natAbs d;have e1:z.natAbs/Nat.gcd z.natAbs d=p:=Nat.div_eq_of_eq_mul_right hg hp;have e2:z=(Nat.gcd z.natAbs d:Int)*sg (decide (z<0)) p:=by
   have h0:(z.natAbs:Int)=(Nat.gcd z.natAbs d:Int)*(p:Int):=by rw[<-Gj,<-hp]
   unfold sg
   by_cases hx:z<0
   ·rw[Ax hx,AI rfl,Int.mul_neg,<-h0];omega
   ·rw[A8 hx,AG (by decide),<-h0];omega
  rw[e1]
  conv=>lhs;arg 1;rw[e2]
  rw[Int.mul_tdiv_cancel_left _ (by omega)]
 have q2:(d:Int).tdiv (Nat.gcd z.natAbs d:Nat)=((d/Nat.gcd z.natAbs d:Nat):Int):=rfl;have q5:(mkRat z d).num.natAbs<=4000000000000000000:=by
  rw[qn];rw[oU];exact BV (GQ _ _) hz
 have q4:d/Nat.gcd z.natAbs d<=4000000000000000000:=BV (GQ _ _) hd;have hx:0<d/Nat.gcd z.natAbs d:=Nat.div_pos hgl hg;have ert:rR (mkRat z d)=str (sb (if d/Nat.gcd z.natAbs d=1 then Lib.itoa (mkRat z d).num else Lib.itoa (mkRat z d).num++47::Lib.decDigits (d/Nat.gcd z.natAbs d))):=by rw[<-etx]
 rw[ert];clear etx ert qn qd;generalize(mkRat z d).num=pz at*;refine fR 0 ?_;refine EI ⟨[(0,i64 z),(1,i64 d),(4,str ⟨#[]⟩)],[],50⟩ ?_ ?_
 ·refine AC.seq ?_
  have l1:(decide (z < -4000000000000000000))=false:=by apply A8;omega
  have l2:(decide (z>4000000000000000000))=false:=by apply A8;omega
  have l3:(decide ((d:Int) < -4000000000000000000))=false:=by apply A8;omega
  have l4:(decide ((d:Int)>4000000000000000000))=false:=by apply A8;omega
  refine Aq 100 ?_
  repeat'(first|(refine BK (by exact CL) ?_;(refine BM ?_);(try simp only[OB,Sq,l1,l2,l3,l4]))|((refine B7 (λhb=>?_) (λhb=>?_))<;>(try simp only[Bs,B5]at hb)<;>(try simp only[hb])<;>(refine BM ?_)))
  refine AO ?_;refine Am ?_;exact BK (by trivial) (AK)
 refine EI ⟨[(0,i64 z),(1,i64 d),(4,str ⟨#[]⟩)],[],100⟩ ?_ ?_
 ·refine fR 300 ?_
  refine AO ?_;have e27:(decide ((d:Int)<0))=false:=by simp
  rw[e27];refine Am ?_;exact BK (by trivial) (AK)
 refine AC.seq ?_;have m1:max z (IntKind.i64.wrap (0-z))=(z.natAbs:Int):=by rw[wI];omega
 refine Aq 500 ?_;refine K4 m1 ?_;refine dI (sW z.natAbs d (by omega) (by omega)) ?_;refine AC.seq ?_;refine CR 600 [0,1,2,3,4,5,6] [7] ?_;refine CQ ?_;have w1p:IntKind.i64.wrap pz=pz:=wI;rw[q1,q2,w1p,wN (BV q4 (by decide))];clear q1 q2 hg hgl;generalize d/Nat.gcd z.natAbs d=y at*;refine fR 700 ?_;have c1:=Q4 pz.natAbs 1 (by omega);have c2:=Q4 y 1 (by omega);rw[aW]at c1 c2;have s1:=MB 18 pz.natAbs (Da q5 (by decide));have s2:=MB 18 y (Da q4 (by decide));have z1:=PT (Lib.decDigits pz.natAbs);have z2:=PT (Lib.decDigits y);have m1:max pz (IntKind.i64.wrap (0-pz))=(pz.natAbs:Int):=by rw[wI];omega
 refine DL (α:=Nat) (λn=>⟨[(0,i64 pz),(1,i64 (y:Int)),(4,str ⟨#[]⟩),(6,str (sb (if pz<0 then[45]else[])))],[],n⟩) (λ_=>True) ?_ ?_
 ·refine fR 800 ?_
  by_cases h:pz<0
  ·rw[Ax h,AI h]
   refine AO ?_;refine fI 900 ?_;exact⟨rfl,_,trivial,AK⟩
  ·rw[A8 h,AG h]
   refine AO ?_;refine Am ?_;exact⟨rfl,_,trivial,AK⟩
 rintro n0 -;have ei:(if pz<0 then[45]else[])++Lib.decDigits pz.natAbs=Lib.itoa pz:=by
  unfold Lib.itoa;split
  ·rfl
  ·rw[show pz.toNat=pz.natAbs by omega];rfl
 have z3:=Cx (if pz<0 then[45]else[]);have z4:(if pz<0 then[45]else[]:List UInt8).length<=1:=by split<;>simp
 have z5:(Lib.itoa pz).length<=20:=by rw[<-ei,Be];omega
 refine sZ 1000 ?_;refine K4 m1 ?_;refine dI c1 ?_;rw[Jk,ei];have z6:=PT (Lib.itoa pz);generalize Lib.itoa pz=t1 at*;clear ei z3 z4;refine DL (α:=Nat) (λn=>⟨[(6,str (sb (if y=1 then t1 else t1++47::Lib.decDigits y)))],[],n⟩) (λ_=>True) ?_ ?_
 ·refine fR 1100 ?_
  by_cases hy:y=1
  ·rw[AI hy]
   have e54:(decide ((y:Int)>1))=false:=by apply A8;omega
   rw[e54];refine AO ?_;refine Am ?_;exact⟨rfl,_,trivial,AK⟩
  ·rw[AG hy]
   have e54:(decide ((y:Int)>1))=true:=by apply Ax;omega
   have s3:(⟨#[47]⟩:ByteArray).size=1:=rfl;have sc:((⟨t1.toArray⟩:ByteArray)++(⟨#[47]⟩:ByteArray)).size=(⟨t1.toArray⟩:ByteArray).size+(⟨#[47]⟩:ByteArray).size:=ByteArray.size_append;rw[e54];refine AO ?_;refine fI 1200 ?_;refine dI c2 ?_;have e47:(⟨#[47]⟩:ByteArray)=⟨([47]:List UInt8).toArray⟩:=rfl;rw[e47,Jk,Jk,Dt,E2,FS];exact⟨rfl,_,trivial,AK⟩
 rintro n1 -;refine fR 1300 ?_;refine Ag ?_;exact AM rfl AA.out
theorem VR {n k:Nat}(h:(Af n).length<=k):(Aa n).length<=3*k:=by
 refine MA (Cq (KI n) ?_);rw[Nat.pow_mul];exact BV (FT (by decide) h) (Oe (by decide) k)
theorem Nk {n k:Nat}(h:(Af n).length<=k):(Lib.decDigits n).length<=27*k+1:=by
 have h1:=PU (FL n);rw[Ec]at h1
 have:=VR h
 omega
theorem se {z:Int}{k:Nat}(h:(Af z.natAbs).length<=k):(Lib.itoa z).length<=27*k+2:=by
 have:=Nk h
 unfold Lib.itoa;split
 ·rw[Br];omega
 ·rw[show z.toNat=z.natAbs by omega];omega
theorem Vf {r:Rat}{k:Nat}(h:rk r k)(hk:k<=10000):M5 r:=by
 have h1:=se h.1;have h2:=Nk h.2;unfold M5 A0;split
 ·omega
 ·rw[Be,Br];omega
def LZ (x:Int)(p:Nat):Prop:=(Aa x.natAbs).length<=p
theorem LZ.mul {x y:Int}{p q:Nat}(hx:LZ x p)(hy:LZ y q):LZ (x*y) (p+q):=by
 unfold LZ at*;rw[Kt]
 have:=Tw x.natAbs y.natAbs
 omega
theorem LZ.add {x y:Int}{p q:Nat}(hx:LZ x p)(hy:LZ y q):LZ (x+y) (p+q+1):=by
 unfold LZ at*;have h1:=Jb (x+y).natAbs (x.natAbs+y.natAbs) (Int.natAbs_add_le x y);have h2:=Xt x.natAbs y.natAbs;omega
theorem LZ.few {x:Int}{p:Nat}(h:LZ x p)(hp:p<1000000):Hc x:=Da h hp
theorem LZ.num {r:Rat}{k:Nat}(h:rk r k):LZ r.num (3*k):=VR h.1
theorem LZ.den {r:Rat}{k:Nat}(h:rk r k):LZ (r.den:Int) (3*k):=VR h.2
theorem yf (a b:Rat):qZ (a.num*b.den+b.num*a.den) ((a.den:Int)*b.den)=a+b:=by
 unfold qZ;have h:¬((a.den:Int)*b.den<0):=by
  rw[<-Gj];omega
 rw[AG h,<-Gj,Ej,Rat.add_def',]
theorem UN {x y:Int}(hx:x.natAbs<10^9)(hy:y.natAbs<10^9):(x*y).natAbs<10^18:=by
 rw[Kt];exact Cq (Nat.mul_lt_mul'' hx hy) (by decide)
theorem W9 (a b:Rat)(i j:Nat)(ha:rk a i)(hb:rk b j)(hij:i+j<=10000):AL C0 93 [rR a,rR b] (rR (a+b)):=by
 refine Ad.walk w1 za rfl λF=>?_
 have ta:=Vf ha (by omega);have tb:=Vf hb (by omega);have qa:=bV a ta;have qb:=bV b tb
 by_cases hq:qk a=true/\qk b=true
 ·obtain⟨h1,h2⟩:=hq
  obtain⟨n1,d1⟩:=Ux h1;obtain⟨n2,d2⟩:=Ux h2;rw[h1,AI rfl,AI rfl]at qa;rw[h2,AI rfl,AI rfl]at qb;have p1:=UN n1 (y:=(b.den:Int)) (by omega);have p2:=UN n2 (y:=(a.den:Int)) (by omega);have p3:=UN (x:=(a.den:Int)) (y:=(b.den:Int)) (by omega) (by omega);have m1:IntKind.i64.wrap (a.num*(b.den:Int))=a.num*b.den:=wI;have m2:IntKind.i64.wrap (b.num*(a.den:Int))=b.num*a.den:=wI;have m3:IntKind.i64.wrap (a.num*(b.den:Int)+b.num*(a.den:Int))=a.num*b.den+b.num*a.den:=wI;have m4:IntKind.i64.wrap ((a.den:Int)*(b.den:Int))=((a.den*b.den:Nat):Int):=by rw[wI,Gj]
  have p4:a.den*b.den<10^18:=by rw[<-Gj,Ej]at p3;exact p3
  have cf:=d9p (a.num*b.den+b.num*a.den) (a.den*b.den) (by omega) (IM a.den_pos b.den_pos) (by omega);rw[<-Rat.add_def']at cf;refine sR 0 ?_;refine sR 100 ?_;refine cI qa ?_;refine sR 200 ?_;refine cI qb ?_;refine AC.seq ?_;refine sZ 300 ?_;refine AF kT ?_;refine AO ?_;refine sZ 400 ?_;refine AV (Bb m1 m2 m3 m4) ?_;refine cI cf ?_;refine Ag ?_;exact AM rfl AA.out
 ·refine sR 0 ?_
  refine sR 100 ?_;refine cI qa ?_;refine sR 200 ?_;refine cI qb ?_;refine DL (α:=Nat) (λn=>⟨[(0,rR a),(1,rR b)],[],n⟩) (λ_=>True) ?_ ?_
  ·cases h1:qk a
   ·refine sZ 300 ?_
    refine AF h1 ?_;refine AF kF ?_;refine AO ?_;refine Am ?_;exact⟨rfl,_,trivial,AK⟩
   ·have h2:qk b=false:=by
     cases h2:qk b
     ·rfl
     ·exact Ak ⟨h1,h2⟩ hq
    rw[h2];refine sZ 300 ?_;refine AF h1 ?_;refine AF kT ?_;refine AO ?_;refine Am ?_;exact⟨rfl,_,trivial,AK⟩
  rintro n0 -;clear qa qb hq;have pa:=VX (A0 a) (Z9 a) (aV a) ta;have pb:=VX (A0 b) (Z9 b) (aV b) tb;rw[aA,qx]at pa pb;have lan:=LZ.num ha;have lad:=LZ.den ha;have lbn:=LZ.num hb;have lbd:=LZ.den hb;have da:=a.den_pos;have db:=b.den_pos;have c1:=Vg a.num b.den (lan.few (by omega)) (lbd.few (by omega));have c2:=Vg b.num a.den (lbn.few (by omega)) (lad.few (by omega));have c3:=yb (a.num*b.den) (b.num*a.den) ((lan.mul lbd).few (by omega)) ((lbn.mul lad).few (by omega));have c4:=Vg (a.den:Int) b.den (lad.few (by omega)) (lbd.few (by omega));have c5:=mT (a.num*b.den+b.num*a.den) ((a.den:Int)*b.den) (by rw[<-Gj];have:=IM da db;omega) (((lan.mul lbd).add (lbn.mul lad)).few (by omega)) ((lad.mul lbd).few (by omega));rw[yf]at c5;refine sR 500 ?_;refine cI pa ?_;refine sR 600 ?_;refine cI pb ?_;refine AC.seq ?_;refine CR 700 [0,1,2,3,4,5,6,7,8] [9,10,11] ?_;refine AF kN ?_
  first|refine Bf.same _ c1 AJ ?_|refine BE.same _ c1 AJ ?_
  refine AF kN ?_
  first|refine Bf.same _ c2 AJ ?_|refine BE.same _ c2 AJ ?_
  refine AF kN ?_
  first|refine Bf.same _ c3 AJ ?_|refine BE.same _ c3 AJ ?_
  refine AF kN ?_
  first|refine Bf.same _ c4 AJ ?_|refine BE.same _ c4 AJ ?_
  refine AF kN ?_
  first|refine Bf.same _ c5 AJ ?_|refine BE.same _ c5 AJ ?_
  refine AF kN ?_;refine Ag ?_;exact AM rfl AA.out
theorem qT (c:UInt8):Bo c=(!decide ((c.toNat:Int)<48) && !decide ((c.toNat:Int)>57)):=by
 unfold Bo;rw[Fs,BU,BU];simp only[Bs,Hh,Nat.ble_eq];omega
theorem kg {l:List UInt8}{i:Nat}{c:UInt8}(hc:l[i]?=some c)(h:(l.take i).all Bo=true):(l.take (i+1)).all Bo=Bo c:=by
 rw[Du,hc,Ky,h];simp
theorem uX {l:List UInt8}{i:Nat}{c:UInt8}(hc:l[i]?=some c)(h:Bo c=false):l.all Bo=false:=by
 cases ha:l.all Bo
 ·rfl
 ·have:=CY.1 ha c (Au hc)
  rw[h]at this;cases this
theorem ou (l:List UInt8)(hl:l.length<=1000000000):AL C0 124 [str (sb l)] (Ap (l.all Bo)):=by
 refine Ad.walk w1 vQ rfl λF=>?_
 have hsz:=Cx l;refine sR 0 ?_;refine AC.seq ?_;refine sR 100 ?_;refine AC.block ?_;refine AC.loop (α:=Nat×Nat) (λp=>⟨[(0,str (sb l)),(3,i64 (p.1:Int))],[],p.2⟩) (λp=>l.length-p.1) (λp=>p.1<=l.length/\(l.take p.1).all Bo=true) (0,_) ⟨BT _,rfl⟩ AK ?_;rintro⟨i,n⟩ F ⟨hi,ha⟩;dsimp only at hi ha⊢;refine AC.seq ?_;refine sZ 200 ?_;refine AV hsz ?_;refine AO ?_
 (refine B7 (λhlt=>?_) (λhlt=>?_))<;>(try simp only[Bs,B5]at hlt)<;>(try simp only[hlt])
 ·have hi2:i<l.length:=by
   have:=DN hlt
   omega
  obtain⟨c,hc⟩:∃c,l[i]?=some c:=⟨l[i],Bx hi2⟩
  have hg:l.getD i 0=c:=by simp[hc]
  have wi:IntKind.i64.wrap ((i:Int)+1)=((i+1:Nat):Int):=wI;have hid:=qT c;have hat:=kg hc ha;have hno:=uX hc;refine Am ?_;refine AC.seq ?_;refine AC.block ?_;refine sZ 400 ?_;refine AV (Ab kN hg) ?_
  by_cases c1:(c.toNat:Int)<48
  ·rw[Ax c1]at hid
   have e4:=Ax c1;simp only[e4];refine AF kT ?_;refine AO ?_;refine sR 500 ?_;refine Ag ?_;exact AM (by rw[hno hid]) AA.out
  ·rw[A8 c1]at hid
   have e4:=A8 c1;simp only[e4];refine AF (Ar kF kN hg) ?_
   by_cases c2:(c.toNat:Int)>57
   ·rw[Ax c2]at hid⊢
    refine AO ?_;refine sR 500 ?_;refine Ag ?_;exact AM (by rw[hno hid]) AA.out
   ·rw[A8 c2]at hid⊢
    refine AO ?_;refine Am ?_;refine Aq 300 ?_;refine AV wi ?_;exact⟨(i+1,_),⟨hi2,hat.trans hid⟩,by dsimp only;omega,AK⟩
 ·have hi2:i=l.length:=by
   have:=Ds hlt
   omega
  subst hi2;rw[Cp (An _)]at ha;refine CO ?_;refine sR 600 ?_;refine Ag ?_;exact AM (by rw[ha]) AA.out
theorem nf (c:UInt8):(((c.toNat:Nat):Int)==48)=decide (c=48):=by
 rw[Fs,Ek,decide_eq_true_iff,<-UInt8.toNat_inj];exact⟨λh=>(show c.toNat=48 by omega),λh=>by rw[h];rfl⟩
theorem eK (l:List UInt8)(hl:l.length<=1000000000):AL C0 90 [str (sb l)] (Ap (DS l)):=by
 refine Ad.walk w1 zY rfl λF=>?_
 have hsz:=Cx l;have cd:=ou l hl;refine sR 0 ?_;refine AC.seq ?_;refine AC.seq ?_
 match l,hl,hsz,cd with
 | [],_,hsz,_=>
  have e1:((((sb []).size:Nat):Int)==0)=true:=rfl;refine Aq 100 ?_;refine AV e1 ?_;refine AF kT ?_;refine AO ?_;refine sR 200 ?_;refine Ag ?_;exact AM rfl AA.out
 | [c],hl,hsz,cd=>
  have e1:((((sb [c]).size:Nat):Int)==0)=false:=rfl;have e2:decide ((((sb [c]).size:Nat):Int)>1)=false:=rfl;have ep:DS [c]=[c].all Bo:=by
   unfold DS Lg
   by_cases h:c=48
   ·subst h;rfl
   ·simp[h]
  rw[ep];refine Aq 100 ?_;refine AV e1 ?_;refine AF kF ?_;simp only[e2];refine AF kF ?_;refine AO ?_;refine Am ?_;refine sR 300 ?_;refine cI cd ?_;refine Ag ?_;exact AM rfl AA.out
 |c::d::l,hl,hsz,cd=>
  have hs2:(sb (c::d::l)).size=l.length+2:=hsz;have e1:((((sb (c::d::l)).size:Nat):Int)==0)=false:=B4.2 (by omega);have e2:decide ((((sb (c::d::l)).size:Nat):Int)>1)=true:=BX;have e3:((((c::d::l).getD (Int.toNat 0) 0).toNat:Int)==48)=decide (c=48):=nf c;have ep:DS (c::d::l)=if c=48 then false else(c::d::l).all Bo:=by
   unfold DS Lg
   by_cases h:c=48
   ·subst h;simp
   ·simp[h]
  rw[ep];refine Aq 100 ?_;refine AV e1 ?_;refine AF (Ab kF e2) ?_;refine AF (Bb kT e2 e3 kF) ?_
  by_cases h:c=48
  ·rw[Ax h,AI h]
   refine AO ?_;refine sR 200 ?_;refine Ag ?_;exact AM rfl AA.out
  ·rw[A8 h,AG h]
   refine AO ?_;refine Am ?_;refine sR 300 ?_;refine cI cd ?_;refine Ag ?_;exact AM rfl AA.out
def DJ (r:Rat):Bool:=decide (600<(Lib.decDigits r.num.natAbs).length)||decide (600<(Lib.decDigits r.den).length)
theorem oX (l:List UInt8):BL l=(CE l).length:=by
 have:=MH l
 unfold CE;rw[Bd];omega
theorem UA (l:List UInt8):CE (Bw l)=CG l/\Bg (Bw l)=Bg l/\DD (Bw l)=DD l/\decide (CE l=[45,48])=(Do l&&decide (CG l=[48])):=by
 cases hb:Do l
 ·have ed:Bw l=l:=by unfold Bw;rw[hb];rfl
  have en:Do (CE l)=false:=by
   unfold CE;cases l with
   |nil=>rfl
   |cons c l=>
    cases hk:BL (c::l)with
    |zero=>rfl
    |succ k=>exact hb
  have es:CG l=CE l:=by unfold CG Bw;rw[en];rfl
  rw[ed,es];refine⟨rfl,rfl,rfl,?_⟩;rw[II];refine A8 λh=>?_
  rw[h]at en;cases en
 ·cases l with
  |nil=>cases hb
  |cons c m=>
   have hc:c=45:=by simpa[Do]using hb
   subst hc;have ed:Bw (45::m)=m:=rfl;have e1:BL (45::m)=BL m+1:=by
    unfold BL;rw[Od,AI (by decide),Br]
   have e2:CE (45::m)=45::CE m:=by unfold CE;rw[e1,List.take_succ_cons]
   have e3:Bg (45::m)=Bg m:=by unfold Bg;rw[e1,Tc]
   have e4:DD (45::m)=DD m:=by unfold DD;rw[e1,Br];exact DO.2 (by omega)
   have e5:CG (45::m)=CE m:=by unfold CG;rw[e2];rfl
   rw[ed,e2,e3,e4,e5];refine⟨rfl,rfl,rfl,?_⟩;rw[HI];exact DO.2 (by simp)
theorem Q3 (l:List UInt8):KN l=((!DS (CG l)||(Do l&&decide (CG l=[48])))||(DD l&&(!DS (Bg l)||decide (Bg l=[48])||decide (Bg l=[49])))):=by
 unfold KN;rw[(UA l).2.2.2]
theorem qC {l:List UInt8}(h:DS l=true):l≠[]:=(LB h).1
theorem gT {l:List UInt8}(h:0<l.length):(((l.getD (Int.toNat 0) 0).toNat:Int)==45)=Do l:=by
 cases l with
 |nil=>cases h
 |cons c l=>exact Rh c l
theorem g9 (l:List UInt8)(hl:l.length<=100000):AL C0 50 [str (sb l)] (i64 (Cj l)):=by
 refine Ad.walk w1 d8p rfl λF=>?_
 have hsz:=Cx l;obtain⟨p1,p2,p3,-⟩:=UA l;have hdl:(Bw l).length<=l.length:=by
  unfold Bw;split
  ·rw[D3];omega
  ·exact An _
 have hbf:=Q3 l;have hchk1:(!DS (CG l)||(Do l&&decide (CG l=[48])))=true->Cj l=1:=λh=>by
  unfold Cj;rw[hbf,h,Bool.true_or,AI rfl]
 have hchk2:(DD l&&(!DS (Bg l)||decide (Bg l=[48])||decide (Bg l=[49])))=true->Cj l=1:=λh=>by
  unfold Cj;rw[hbf,h,Bool.or_true,AI rfl]
 have hne:DS (CG l)=true->0<l.length:=λh=>by
  cases l with
  |nil=>exact Ak rfl (qC h)
  |cons c l=>rw[Br];omega
 refine sR 0 ?_;refine sR 100 ?_;refine DL (α:=Nat) (λn=>⟨[(0,str (sb l)),(3,str (sb (Bw l)))],[],n⟩) (λ_=>True) ?_ ?_
 ·rcases EC l.length with h0|h0
  ·have e0:l=[]:=FC h0
   have e1:decide (((sb []).size:Int)>0)=false:=rfl;have ed:Bw l=l:=by rw[e0];rfl
   rw[ed,e0];refine sZ 200 ?_;refine AV e1 ?_;refine AF kF ?_;refine AO ?_;refine Am ?_;exact⟨rfl,_,trivial,AK⟩
  ·have e0:decide (((sb l).size:Int)>0)=true:=BX
   have e1:=gT h0;refine sZ 200 ?_;refine AF e0 ?_;refine AF (Ar kT e0 e1) ?_;cases hb:Do l
   ·have ed:Bw l=l:=by unfold Bw;rw[hb];rfl
    rw[ed];refine AO ?_;refine Am ?_;exact⟨rfl,_,trivial,AK⟩
   ·have ed:Bw l=l.drop 1:=by unfold Bw;rw[hb];rfl
    have ee:(sb l).extract (Int.toNat 1) l.length=sb (Bw l):=by
     rw[Ff,Cp (An _),ed];rfl
    refine AO ?_;refine Aq 300 ?_;refine AF (Ab hsz kN) ?_;rw[ee];exact⟨trivial,_,trivial,AK⟩
 rintro n0 -;have cs:=Va (Bw l) (by omega);have hle:=MH (Bw l);have hszS:=Cx (Bw l);have hhs:DD l=decide (BL (Bw l)<(Bw l).length):=p3.symm;have e10:(sb (Bw l)).extract 0 (BL (Bw l))=sb (CG l):=by rw[<-p1,Ff,GR];rfl
 have e11:(sb (Bw l)).extract (BL (Bw l)+1) (Bw l).length=sb (Bg l):=by rw[<-p2,Ff,Cp (An _)];rfl
 have hNl:BL (Bw l)=(CG l).length:=by rw[<-p1];exact oX _
 have hDl:(Bg l).length=(Bw l).length-(BL (Bw l)+1):=by rw[<-p2];unfold Bg;rw[D3]
 have pp:=λh1 h2=>VX (Bw l) h1 h2 (by omega)
 unfold QJ P9 at pp;rw[p1,p2,p3]at pp;have edef:Cj l=if KN l then 1 else if 600<(CG l).length\/600<(Bg l).length then 4 else if DD l=true/\Nat.gcd (dv (CG l)) (dv (Bg l))≠1 then 1 else 0:=rfl
 rw[hbf]at edef;generalize hN:CG l=Nn at*;generalize hD:Bg l=Dn at*;generalize hH:DD l=hv at*;generalize hK:Cj l=KnV at*;generalize Bw l=Sn at*;generalize BL Sn=k at*;clear p1 p2 p3 hbf hN hD hH hK;have cf:=eK Nn (by omega);have cf2:=eK Dn (by omega);have q0:=E8 Nn [48];have q1:=E8 Dn [48];have q2:=E8 Dn [49];refine sR 400 ?_;refine cI cs ?_;refine DL (α:=Nat) (λn=>⟨[(0,str (sb l)),(3,str (sb Sn)),(4,i64 (k:Int))],[],n⟩) (λ_=>(!DS Nn||(Do l&&decide (Nn=[48])))=false) ?_ ?_
 ·refine sZ 500 ?_
  refine AF (Ab hszS kN) ?_;refine AF e10 ?_;cases hp:DS Nn
  ·rw[hp]at cf
   refine BE.same _ cf AJ ?_;refine BR ?_;simp only[TR];refine AF kT ?_;refine AO ?_;refine sR 600 ?_;refine Ag ?_;exact AM (by rw[hchk1 (by rw[hp];rfl)];rfl) AA.out
  ·rw[hp]at cf
   have hl0:=hne hp;have e1:=gT hl0;refine BE.same _ cf AJ ?_;refine BR ?_;simp only[QY];refine AF (Ar kF hsz e1) ?_;have q0':BI (sb Nn) ⟨#[48]⟩=decide (Nn=[48]):=q0;cases hb:Do l
   ·refine AF kF ?_
    refine AO ?_;refine Am ?_;exact⟨rfl,_,rfl,AK⟩
   ·refine AF (Bb kT kF hszS kN) ?_
    refine AF (Bb kT kF e10 q0') ?_
    by_cases h0:Nn=[48]
    ·rw[Ax h0]
     refine AO ?_;refine sR 600 ?_;refine Ag ?_;exact AM (by rw[hchk1 (by simp[hp,hb,h0])];rfl) AA.out
    ·rw[A8 h0]
     refine AO ?_;refine Am ?_;exact⟨rfl,_,by simp,AK⟩
 rintro n1 hb1;clear hchk1 hne cf q0;refine DL (α:=Nat) (λn=>⟨[(0,str (sb l)),(3,str (sb Sn)),(4,i64 (k:Int))],[],n⟩) (λ_=>(hv&&(!DS Dn||decide (Dn=[48])||decide (Dn=[49])))=false) ?_ ?_
 ·cases hv
  ·have e40:decide ((k:Int)<(Sn.length:Int))=false:=A8 (by have:=Ds hhs.symm;omega)
   refine sZ 700 ?_;refine AV (Ab hszS e40) ?_;refine AF kF ?_;refine AO ?_;refine Am ?_;exact⟨rfl,_,rfl,AK⟩
  ·have hkl:=DN hhs.symm
   have e40:decide ((k:Int)<(Sn.length:Int))=true:=BX;have wk:IntKind.i64.wrap ((k:Int)+1)=((k+1:Nat):Int):=wI;have q1':BI (sb Dn) ⟨#[48]⟩=decide (Dn=[48]):=q1;have q2':BI (sb Dn) ⟨#[49]⟩=decide (Dn=[49]):=q2;refine sZ 700 ?_;refine AV (Ab hszS e40) ?_;refine AF (Bb kT wk hszS kN) ?_;simp only[e11];refine On kT ?_;cases hp:DS Dn
   ·rw[hp]at cf2
    refine BE.same _ cf2 AJ ?_;refine AF kB ?_;refine AF kT ?_;refine AO ?_;refine sR 800 ?_;refine Ag ?_;exact AM (by rw[hchk2 (by simp[hp])];rfl) AA.out
   ·rw[hp]at cf2
    have e12:(sb Sn).extract (IntKind.i64.wrap ((k:Int)+1)).toNat (sb Sn).size=sb Dn:=by rw[wk,hszS,HG];exact e11
    refine BE.same _ cf2 AJ ?_;refine AF kB ?_;simp only[e12,q1']
    by_cases h48:Dn=[48]
    ·rw[Ax h48]
     refine AF kT ?_;refine AO ?_;refine sR 800 ?_;refine Ag ?_;exact AM (by rw[hchk2 (by simp[h48])];rfl) AA.out
    ·rw[A8 h48]
     refine AF kB ?_;simp only[e12,q2']
     by_cases h49:Dn=[49]
     ·rw[Ax h49]
      refine AO ?_;refine sR 800 ?_;refine Ag ?_;exact AM (by rw[hchk2 (by simp[h49])];rfl) AA.out
     ·rw[A8 h49]
      refine AO ?_;refine Am ?_;exact⟨rfl,_,by simp,AK⟩
 rintro n2 hb2;clear hchk2 cf2 q1 q2 e10 e11 hsz;have hpN:DS Nn=true:=by
  cases h:DS Nn
  ·rw[h]at hb1;simp at hb1
  ·rfl
 have hpD:hv=true->DS Dn=true:=λh0=>by
  cases h:DS Dn
  ·rw[h,h0]at hb2;simp at hb2
  ·rfl
 rw[hb1,hb2]at edef;rw[AG (by decide)]at edef;have wl1:IntKind.i64.wrap ((Sn.length:Int)-(k:Int))=(Sn.length:Int)-(k:Int):=wI;have wl2:IntKind.i64.wrap ((Sn.length:Int)-(k:Int)-1)=(Sn.length:Int)-(k:Int)-1:=wI;have e91:decide ((Sn.length:Int)-(k:Int)-1>600)=decide (600<Dn.length):=DO.2 (by omega);refine DL (α:=Nat) (λn=>⟨[(3,str (sb Sn)),(4,i64 (k:Int))],[],n⟩) (λ_=>Nn.length<=600/\Dn.length<=600) ?_ ?_
 ·by_cases g1:600<k
  ·have e9:decide ((k:Int)>600)=true:=BX
   rw[AI (.inl (by omega))]at edef;refine sZ 900 ?_;refine AV e9 ?_;refine AF kT ?_;refine AO ?_;refine sR 1000 ?_;refine Ag ?_;exact AM (by rw[edef];rfl) AA.out
  ·have e9:decide ((k:Int)>600)=false:=Bc
   refine sZ 900 ?_;refine AV e9 ?_;refine AF (CN kF hszS wl1 wl2 e91) ?_
   by_cases g2:600<Dn.length
   ·rw[AI (.inr g2)]at edef
    rw[Ax g2];refine AO ?_;refine sR 1000 ?_;refine Ag ?_;exact AM (by rw[edef];rfl) AA.out
   ·rw[A8 g2]
    refine AO ?_;refine Am ?_;exact⟨rfl,_,⟨by omega,by omega⟩,AK⟩
 rintro n3 ⟨g1,g2⟩;rw[CM]at edef;clear e91 wl1 wl2 hb1 hb2;obtain⟨-,dN⟩:=LB hpN;refine DL (α:=Nat) (λn=>⟨[],[],n⟩) (λ_=>KnV=0) ?_ ?_
 ·cases hv
  ·have e40:decide ((k:Int)<(Sn.length:Int))=false:=A8 (by have:=Ds hhs.symm;omega)
   rw[AG (by simp)]at edef;refine sZ 1100 ?_;refine AV (Ab hszS e40) ?_;refine AO ?_;refine Am ?_;exact⟨rfl,_,edef,AK⟩
  ·have hkl:=DN hhs.symm
   have e40:decide ((k:Int)<(Sn.length:Int))=true:=BX;obtain⟨-,dD⟩:=LB (hpD rfl);have pa:=pp (by rw[K9 dN];exact dN) (by rw[K9 dD];exact dD);rw[AI rfl,N0 dN,N0 dD]at pa;have lN:(Aa (dv Nn)).length<1000000:=Da (MA (Cq (G1 Nn dN) (Oe (by decide) Nn.length))) (by omega);have lD:(Aa (dv Dn)).length<1000000:=Da (MA (Cq (G1 Dn dD) (Oe (by decide) Dn.length))) (by omega);have cg:AL C0 92 [rD ((dv Nn:Int)).natAbs,rD ((dv Dn:Int)).natAbs] (.sl false 1 ((Aa (Nat.gcd (dv Nn) (dv Dn))).map Ac)):=Za (dv Nn) (dv Dn) lN lD;have ht:=Zr (Nat.gcd (dv Nn) (dv Dn));have ed1:Nat.gcd (dv Nn) (dv Dn)≠1->KnV=1:=λh=>by rw[AI ⟨rfl,h⟩]at edef;exact edef
   have ed0:Nat.gcd (dv Nn) (dv Dn)=1->KnV=0:=λh=>by rw[AG (λhh=>hh.2 h)]at edef;exact edef
   clear edef;generalize Nat.gcd (dv Nn) (dv Dn)=gg at*;refine sZ 1100 ?_;refine AV (Ab hszS e40) ?_;refine AO ?_;refine sR 1200 ?_;refine cI pa ?_;refine sR 1300 ?_;refine cI cg ?_;rcases ht with⟨t1,a,ha,t2⟩|⟨t1,t2⟩
   ·have ha':=EN ha
    have t1n:((((Aa gg).map Ac).length:Int) != 1)=false:=by unfold bne;rw[t1];rfl
    have t2n:((a:Int) != 1) = !decide (gg=1):=by unfold bne;rw[t2]
    refine sZ 1400 ?_;refine AV t1n ?_;refine AF kF ?_;refine B3 kF ha' ?_;refine AF (Ab kF t2n) ?_
    by_cases hg1:gg=1
    ·rw[Ax hg1]
     refine AO ?_;refine Am ?_;exact⟨rfl,_,ed0 hg1,AK⟩
    ·rw[A8 hg1]
     refine AO ?_;refine sR 1500 ?_;refine Ag ?_;exact AM (by rw[ed1 hg1];rfl) AA.out
   ·have edf:=ed1 t2
    have t1n:((((Aa gg).map Ac).length:Int) != 1)=true:=by unfold bne;rw[t1];rfl
    refine sZ 1400 ?_;refine AV t1n ?_;refine AF kT ?_;refine AO ?_;refine sR 1500 ?_;refine Ag ?_;exact AM (by rw[edf];rfl) AA.out
 rintro n4 h0;refine sR 1600 ?_;refine Ag ?_;exact AM (by rw[h0];rfl) AA.out
theorem oq {n k:Nat}(hn:n≠0)(hk:k<10):Lib.decDigits (n*10+k)=Lib.decDigits n++[UInt8.ofNat (48+k)]:=by
 rw[Lib.decDigits,dif_neg (by omega)]
 congr 2
 ·omega
 ·congr 2;omega
theorem Zu {c:UInt8}(h:Bo c=true):UInt8.ofNat (48+(c.toNat-48))=c:=by
 obtain⟨h1,h2⟩:=ME h;rw[<-UInt8.toNat_inj,Ra _ (by omega)];omega
theorem rH (l:List UInt8)(c:UInt8):dv (l++[c])=dv l*10+(c.toNat-48):=by
 rw[O4];simp[dv,Hd]
theorem uH:∀(n:Nat) (l:List UInt8),l.length=n->l≠[]->l.all Bo=true->l.head? ≠ some 48->dv l≠0/\Lib.decDigits (dv l)=l:=λn=>by
 induction n with
 |zero=>intro l h0 h1;exact Ak (FC h0) h1
 |succ n ih=>
  intro l h0 h1 h2 h3;rcases TY l with rfl|⟨m,c,rfl⟩
  ·exact Ak rfl h1
  ·rw[TX]at h0 h1 h2 h3⊢
   rw[Ky,BU]at h2;have hc:Bo c=true:=by simpa using h2.2
   obtain⟨c1,c2⟩:=ME hc;rw[rH]
   by_cases hm:m=[]
   ·subst hm
    have hc48:c≠48:=λh=>h3 (by rw[h];rfl)
    have hcn:c.toNat≠48:=λh=>hc48 (UInt8.toNat_inj.1 h)
    have e0:dv []*10+(c.toNat-48)=c.toNat-48:=by simp[dv,Hd]
    rw[e0];refine⟨by omega,?_⟩;rw[Lib.decDigits,dif_pos (by omega),Zu hc];rfl
   ·have hh:m.head? ≠ some 48:=by
     cases m with
     |nil=>exact Ak rfl hm
     |cons a m=>exact h3
    obtain⟨i1,i2⟩:=ih m (by rw[Be,HN]at h0;omega) hm h2.1 hh;refine⟨by omega,?_⟩;rw[oq i1 (by omega),i2,Zu hc]
theorem UH {l:List UInt8}(h:DS l=true):Lib.decDigits (dv l)=l/\(l≠[48]->dv l≠0):=by
 obtain⟨h1,h2⟩:=LB h
 by_cases h0:l=[48]
 ·subst h0
  refine⟨?_,λhh=>Ak rfl hh⟩;show Lib.decDigits 0=[48];rw[Lib.decDigits,dif_pos (by decide)];rfl
 ·have h3:l.head? ≠ some 48:=by
   unfold DS at h;rw[BU,A8 h0,Bool.false_or]at h
   have:=h.2
   simpa using this
  obtain⟨a,b⟩:=uH _ l rfl h1 h2 h3;exact⟨b,λ_=>a⟩
theorem aO:∀ {l:List UInt8},BL l<l.length->l.drop (BL l)=47::l.drop (BL l+1)
 | [],h=>by cases h
 |c::l,h=>by
  by_cases hc:c=47
  ·subst hc;rfl
  ·have e1:BL (c::l)=BL l+1:=by
    unfold BL;rw[Od,AI (by simpa using hc),Br]
   rw[e1,Br]at h;rw[e1,Tc,Tc];exact aO (by omega)
def Hb (l:List UInt8):Nat:=if DD l then dv (Bg l)else 1
def Bv (l:List UInt8):Rat:=mkRat (rv (CE l)) (Hb l)
theorem oE {n:Int}{d:Nat}(hd:d≠0)(h:Nat.gcd n.natAbs d=1):(mkRat n d).num=n/\(mkRat n d).den=d:=by
 obtain⟨q1,q2⟩:=Uw (x:=n) hd;rw[h,Nat.div_one]at q1 q2;rw[Sh]at q1;exact⟨q1,q2⟩
theorem RZ {l:List UInt8}(h:Cj l=0):KN l=false/\(CG l).length<=600/\(Bg l).length<=600/\(DD l=true->Nat.gcd (dv (CG l)) (dv (Bg l))=1):=by
 unfold Cj at h;cases hb:KN l
 ·rw[hb,AG (by decide)]at h
  split at h
  ·cases h
  ·rename_i h1
   split at h
   ·cases h
   ·rename_i h2
    refine⟨rfl,by omega,by omega,λh3=>?_⟩;rcases Nat.decEq (Nat.gcd (dv (CG l)) (dv (Bg l))) 1 with h4|h4
    ·exact Ak ⟨h3,h4⟩ h2
    ·exact h4
 ·rw[hb,AI rfl]at h;cases h
theorem O3 {l:List UInt8}(h:Cj l=0):(Bv l).num=rv (CE l)/\(Bv l).den=Hb l/\A0 (Bv l)=l/\(rv (CE l)).natAbs=dv (CG l):=by
 obtain⟨h1,h2,h3,h4⟩:=RZ h;rw[Q3]at h1;simp only[Hj]at h1;obtain⟨⟨b1,b2⟩,b3⟩:=h1;have p1:DS (CG l)=true:=by simpa using b1
 obtain⟨d1,d2⟩:=UH p1;have hab:(rv (CE l)).natAbs=dv (CG l):=by
  show(rv (CE l)).natAbs=dv (Bw (CE l));unfold rv;split<;>omega
 have hdd:DD l=true->DS (Bg l)=true/\Bg l≠[48]/\Bg l≠[49]:=λhs=>by
  rw[hs,HI]at b3;simp only[Hj]at b3;exact⟨by simpa using b3.1.1,Ds b3.1.2,Ds b3.2⟩
 have hd0:Hb l≠0:=by
  unfold Hb;cases hs:DD l
  ·simp
  ·obtain⟨e1,e2,e3⟩:=hdd hs
   simpa using(UH e1).2 e2
 have hg:Nat.gcd (rv (CE l)).natAbs (Hb l)=1:=by
  rw[hab];unfold Hb;cases hs:DD l
  ·simp
  ·simpa using h4 hs
 obtain⟨m1,m2⟩:=oE hd0 hg;refine⟨m1,m2,?_,hab⟩;have hi:Lib.itoa (rv (CE l))=CE l:=by
  cases hb:Do (CE l)
  ·have e1:CG l=CE l:=by unfold CG Bw;rw[hb];rfl
   rw[e1]at d1;have e2:rv (CE l)=(dv (CE l):Int):=by unfold rv Bw;rw[hb];rfl
   rw[e2];unfold Lib.itoa;rw[CM];exact d1
  ·obtain⟨m,hm⟩:∃m,CE l=45::m:=by
    cases hn:CE l with
    |nil=>rw[hn]at hb;cases hb
    |cons c m=>
     rw[hn]at hb;exact⟨m,by rw[show c=45 by simpa[Do]using hb]⟩
   have e1:CG l=m:=by unfold CG;rw[hm];rfl
   have hne:CG l≠[48]:=λh=>by
    have:=(UA l).2.2.2
    rw[b2,hm]at this;have h2:=Ds this;rw[e1]at h;exact h2 (by rw[h])
   have hpos:=d2 hne;rw[e1]at d1 hpos;have e2:rv (CE l) = -(dv m:Int):=by rw[hm];rfl
   rw[e2];unfold Lib.itoa;rw[DR,M8,Ej,d1,hm]
 unfold A0;rw[show(Bv l).num=rv (CE l)from m1,show(Bv l).den=Hb l from m2,hi];have hle:=MH l;cases hs:DD l
 ·have e1:Hb l=1:=by unfold Hb;rw[hs];rfl
  have e2:=Ds (p:=BL l<l.length) hs;rw[AI e1];unfold CE;exact Gs
 ·obtain⟨e1,e2,e3⟩:=hdd hs
  have e4:Hb l=dv (Bg l):=by unfold Hb;rw[hs];rfl
  have e5:=(UH e1).1;have e6:dv (Bg l)≠1:=λh=>by
   rw[h,Lib.decDigits,dif_pos (by decide)]at e5;exact e3 e5.symm
  rw[e4,AG e6,e5];unfold CE Bg;rw[<-aO (DN hs),FB]
theorem Qr {l:List UInt8}(h:Cj l=0):(CG l).all Bo=true/\(DD l=true->(Bg l).all Bo=true):=by
 obtain⟨h1,-,-,-⟩:=RZ h;rw[Q3]at h1;simp only[Hj]at h1;obtain⟨⟨b1,-⟩,b3⟩:=h1;refine⟨(LB (by simpa using b1)).2,λhs=>?_⟩;rw[hs,HI]at b3;simp only[Hj]at b3;exact(LB (by simpa using b3.1.1)).2
theorem Nv {l:List UInt8}(h:Cj l=0):rk (Bv l) 600:=by
 obtain⟨m1,m2,-,m4⟩:=O3 h;obtain⟨-,h2,h3,-⟩:=RZ h;obtain⟨p1,p2⟩:=Qr h;have hb:∀k,(10:Nat)^k<=BB^k:=λk=>Oe (by decide) k
 refine⟨?_,?_⟩
 ·rw[m1,m4]
  exact BV (Hn (Cq (G1 _ p1) (hb _))) h2
 ·rw[m2]
  unfold Hb;cases hs:DD l
  ·exact BV (Hn (n:=1) (k:=1) (by decide)) (by decide)
  ·exact BV (Hn (Cq (G1 _ (p2 hs)) (hb _))) h3
theorem SB {l:List UInt8}(h:Cj l=0):FR (Bv l) (G3 l) 600:=by
 obtain⟨m1,m2,-,-⟩:=O3 h;refine⟨⟨Cy _,?_,?_⟩,Nv h⟩
 ·show(AY (rv (CE l))).z=_
  rw[EK,m1]
 ·show(if DD l then dv (Bg l)else 1)=_
  rw[m2];rfl
theorem SS {l:List UInt8}(hl:l.length<=100000)(h:Cj l=0):AL C0 85 [str (sb l)] (G3 l).D:=rU l hl (Qr h).1 (Qr h).2
structure As where
 lot:List UInt8
 part:List UInt8
def As.D (s:As):D:=.agg [str (sb s.lot),str (sb s.part)]
instance e1c (s:As):AX s.D:=by unfold As.D;exact AJ
instance e1d (s:As):AA s.D:=by unfold As.D;exact AJ
abbrev Co (b:Bool)(l:List As):D:=.sl b 2 (l.map As.D)
def As.few (s:As):Prop:=s.lot.length<=100000/\s.part.length<=100000
def D4 (l:List As)(k:Nat):As:=l.getD k ⟨[],[]⟩
theorem KW {l:List As}{k:Nat}{s:As}(h:l[k]?=some s):D4 l k=s:=by unfold D4;rw[ED,h];rfl
structure AE where
 grain:List UInt8
 mass:Int
 shs:List As
def AE.D (x:AE):D:=.agg [str (sb x.grain),i64 x.mass,Co false x.shs]
instance d9U (x:AE):AX x.D:=by unfold AE.D;exact AJ
instance d9V (x:AE):AA x.D:=by unfold AE.D;exact AJ
abbrev Aj (b:Bool)(l:List AE):D:=.sl b 3 (l.map AE.D)
theorem QG (z:Int)(h:Sm z):AL C0 87 [i64 z] (⟨AY z,1⟩:GF).D:=by
 have e:(⟨AY z,1⟩:GF).D=NH z 1:=by
  unfold GF.D;rw[V6,KQ h];rfl
 rw[e];exact e0p z
theorem s8 {n:GI}{k:Nat}(h:n.wf)(hk:1<=k)(hl:(Af n.z.natAbs).length<=k):FR (n.z:Rat) ⟨n,1⟩ k:=by
 refine⟨⟨h,(Rat.num_intCast _).symm,(Rat.den_intCast _).symm⟩,?_⟩;unfold rk;rw[Rat.num_intCast,Rat.den_intCast];exact⟨hl,BV (Hn (n:=1) (k:=1) (by decide)) hk⟩
theorem Rq {z:Int}(h:z.natAbs<18446744073709551616):FR (z:Rat) ⟨AY z,1⟩ 1:=by
 have:=s8 (n:=AY z) (k:=1) (Cy _) (An _) (by rw[EK];exact Hn (k:=1) (by unfold BB;omega))
 rwa [EK]at this
open Go.ChangeShapes Go.WideShapes
def Oo (P:Program)(t:Nat):Option (List (Nat×Nat×Nat)):=match P.underlying t with
 |some (.struct fs)=>some (fs.toList.map λf=>(f.type,f.offset,P.cellsOf f.type))
 |_=>none
section
variable {H:Type} {enc:TypeId×Value->H} {W:World} {fuel:Nat} {cs:List Value} {x:DataW H×List MemPlace} {t:TypeId}
theorem Sr {l:List (Nat×Nat×Nat)}{m:Nat}(hs:Oo Tryz.prog t=some l)(hm:Tryz.prog.cellsOf t=m)(h:DataW.trod enc Tryz.prog W 0 (λ_=>true) true fuel t cs=some x):
  cs.length=m/\∃n,∀(i u off k:Nat),l[i]?=some (u,off,k)->∃y,DataW.trod enc Tryz.prog W 0 (λ_=>true) true n u ((cs.drop off).take k)=some y:=by
 unfold Oo at hs;split at hs
 ·rename_i fs hu
  obtain⟨h1,n,h2⟩:=nr hu h;refine⟨h1.trans hm,n,λi u off k hl=>?_⟩;obtain rfl:=FY hs;rw[Az]at hl;obtain⟨f,hf,he⟩:=Ez.1 hl;cases he;exact h2 i f (by rw[<-Jx];exact hf)
 ·cases hs
theorem KS {a b c:Nat}{p q:List D}(h:EA W ((cs.drop a).take b) p)(k:EA W ((cs.drop (a+b)).take c) q):EA W ((cs.drop a).take (b+c)) (p++q):=by
 rw[List.take_add,List.drop_drop];exact h.append k
theorem Sf {n:Nat}{p:List D}(hn:cs.length=n)(h:EA W ((cs.drop 0).take n) p):EA W cs p:=by
 rw[GR,<-hn,Cz]at h;exact h
theorem yn (h:DataW.trod enc Tryz.prog W 0 (λ_=>true) true fuel 62 cs=some x):∃l:List UInt8,EA W cs (str (sb l)).cells/\l.length<=maxLen:=gc (by kernel_rfl) h
theorem UJ (h:DataW.trod enc Tryz.prog W 0 (λ_=>true) true fuel 9 cs=some x):∃l:List UInt8,EA W cs [str (sb l)]/\l.length<=maxLen:=gc (by kernel_rfl) h
theorem Mh (h:DataW.trod enc Tryz.prog W 0 (λ_=>true) true fuel 3 cs=some x):∃z:Int,EA W cs [i64 z]:=by
 obtain⟨z,_,_,h⟩:=ym (by kernel_rfl) h;exact⟨z,h⟩
theorem qI (h:DataW.trod enc Tryz.prog W 0 (λ_=>true) true fuel 64 cs=some x):∃s:As,EA W cs s.D.cells/\True:=by
 obtain⟨h1,n,h2⟩:=Sr (l:=[(9,0,1),(62,1,1)]) (m:=2) (by kernel_rfl) (by kernel_rfl) h;obtain⟨y0,k0⟩:=h2 0 _ _ _ rfl;obtain⟨y1,k1⟩:=h2 1 _ _ _ rfl;obtain⟨a0,r0,_⟩:=UJ k0;obtain⟨a1,r1,_⟩:=yn k1;exact⟨⟨a0,a1⟩,Sf h1 (KS (b:=1) (c:=1) r0 r1),trivial⟩
theorem nv (h:DataW.trod enc Tryz.prog W 0 (λ_=>true) true fuel 49 cs=some x):∃l:List As,EA W cs [Co false l]/\(∀a∈l,True)/\l.length<=maxLen:=
 Wm (g:=As.D) (ok:=λ_=>True) (e:=64) (sz:=2) (by kernel_rfl) (by kernel_rfl) (by decide) (λ_ _ _ h=>qI h) h
theorem qH (h:DataW.trod enc Tryz.prog W 0 (λ_=>true) true fuel 51 cs=some x):∃s:AE,EA W cs s.D.cells/\s.shs.length<=maxLen:=by
 obtain⟨h1,n,h2⟩:=Sr (l:=[(9,0,1),(3,1,1),(49,2,1)]) (m:=3) (by kernel_rfl) (by kernel_rfl) h;obtain⟨y0,k0⟩:=h2 0 _ _ _ rfl;obtain⟨y1,k1⟩:=h2 1 _ _ _ rfl;obtain⟨y2,k2⟩:=h2 2 _ _ _ rfl;obtain⟨a0,r0,_⟩:=UJ k0;obtain⟨a1,r1⟩:=Mh k1;obtain⟨a2,r2,_,hl⟩:=nv k2;exact⟨⟨a0,a1,a2⟩,Sf h1 (KS (b:=1) (c:=2) r0 (KS (b:=1) (c:=1) r1 r2)),hl⟩
theorem nu (h:DataW.trod enc Tryz.prog W 0 (λ_=>true) true fuel 29 cs=some x):∃l:List AE,EA W cs [Aj false l]/\(∀a∈l,a.shs.length<=maxLen)/\l.length<=maxLen:=
 Wm (g:=AE.D) (ok:=λs=>s.shs.length<=maxLen) (e:=51) (sz:=3) (by kernel_rfl) (by kernel_rfl) (by decide) (λ_ _ _ h=>qH h) h
end
end Go.Ide
