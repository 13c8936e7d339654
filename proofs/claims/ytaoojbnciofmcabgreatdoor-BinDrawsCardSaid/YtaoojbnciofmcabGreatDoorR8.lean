/- The layer of own lemmas and contracts, part 8. -/
import Derived.Test.YtaoojbnciofmcabGreatDoorR7
import Derived.Test.YtaoojbnciofmcabGreatDoorR3
set_option linter.unusedVariables false
set_option linter.unusedSimpArgs false
namespace Go.Ide
open Go.Proofs Go.RowKit
set_option maxRecDepth 20000
def WH:Value->Value->Bool
 | .int .i64 a,.int .i64 b=>a==b
 | .string a,.string b=>a.data.toList==b.data.toList
 | .bool a,.bool b=>a==b
 | .slice none 0 0,.slice none 0 0=>true
 |_,_=>false
theorem ov {a b:Value}(h:WH a b=true):a=b:=by
 unfold WH at h;split at h
 ·rw[eq_of_beq h]
 ·rename_i a b
  have:=eq_of_beq h
  congr 1
  exact ByteArray.ext (Array.toList_inj.1 this)
 ·rw[eq_of_beq h]
 ·rfl
 ·cases h
def L7 (f:D->D->Bool):List D->List D->Bool
 | [],[]=>true
 |a::l,b::m=>f a b&&L7 f l m
 |_,_=>false
theorem SC {f:D->D->Bool}(hf:∀a b,f a b=true->a=b):∀ {l m:List D},L7 f l m=true->l=m
 | [],[],_=>rfl
 |a::l,b::m,h=>by
  simp only[L7,BZ]at h;rw[hf a b h.1,SC hf h.2]
 | [],_::_,h=>by simp[L7]at h
 |_::_,[],h=>by simp[L7]at h
def Oj:Nat->D->D->Bool
 | 0,_,_=>false
 |n+1,a,b=>match a,b with
  | .prim a,.prim b=>WH a b
  | .agg l,.agg m=>L7 (Oj n) l m
  | .sl x y l,.sl x' y' m=>(x==x')&&Nat.beq y y'&&L7 (Oj n) l m
  |_,_=>false
theorem Vn:∀(n:Nat) (a b:D),Oj n a b=true->a=b
 | 0,_,_,h=>by simp[Oj]at h
 |n+1,a,b,h=>by
  unfold Oj at h;split at h
  ·rw[ov h]
  ·rw[SC (Vn n) h]
  ·simp only[BZ]at h
   rw[eq_of_beq h.1.1,CC h.1.2,SC (Vn n) h.2]
  ·cases h
def dig:Nat->Nat->List UInt8
 | 0,_=>[]
 |k+1,u=>match Nat.blt u 10 with
  |true=>[UInt8.ofNat (48+u)]
  |false=>dig k (u/10)++[UInt8.ofNat (48+u%10)]
def Ta (t:Nat)(name:String):Option Nat:=match Nat.beq t 134 with
 |true=>match decide (name = "Cmp")with
  |true=>some 190
  |false=>none
 |false=>none
theorem fQ (t:Nat)(name:String)(f:Nat)(h:Ta t name=some f)(v:Value)(w:World):(method (C0.P.types.size+Made.depth) t v name).run C0.P w=.ok (f,v) w:=by
 unfold Ta at h;split at h<;>try(cases h;done)
 rename_i ht;split at h<;>try(cases h;done)
 rename_i hn;obtain rfl:=CC ht;obtain rfl:=DN hn;cases h
 kernel_rfl
def e0m:A7:=⟨.arr 256 1 false,256,256,true,.agg (Array.replicate 256 (.bool false))⟩
noncomputable def Ql (t:Nat):Option A7:=match Nat.beq t 308 with
 |true=>some e0m
 |false=>Qj.get t
theorem Wp:C5 C0.P Ql:=λt i h=>by
 unfold Ql at h;split at h
 ·rename_i ht
  obtain rfl:=CC ht;cases h
  kernel_rfl
 ·exact j0 t i h
set_option maxHeartbeats 2000000
def Bl (c:UInt8):Bool:=Nat.ble 48 c.toNat&&Nat.ble c.toNat 57
def ID:D:=.agg ((List.range 256).map λi=>Al (Nat.ble 48 i&&Nat.ble i 57))
abbrev Th:List UInt8:=[48,49,50,51,52,53,54,55,56,57]
noncomputable def X4:EV:=⟨Ql,NK.get,Ol.get,λ_=>false,λ_ _=>none,λ_ _=>none,Ly⟩
theorem Wl:Fk C0 X4:=⟨Wp,S5,Ky,λ_ _ _ h=>by simp[X4]at h,by kernel_rfl,λ_ _ _ h=>by simp[X4]at h,Rz⟩
theorem w4:Dg C0 X4:=Wl.w
theorem km:AL C0 281 [str (sb Th)] (.tup [ID,Al true]):=QP Wl 1000 40 (by kernel_rfl)
def W0 (o:Option D)(b:Bool):Bool:=match o with
 |some (.prim (.bool c))=>c==b
 |_=>false
theorem nV {o:Option D}{b:Bool}(h:W0 o b=true):o=some (Al b):=by
 unfold W0 at h;split at h
 ·rw[ED]at h;subst h;rfl
 ·cases h
theorem jh:((List.range 256).all λc=>W0 ((Gr X4 1000 40).1 290 [.pptr ID,.prim (.int .u8 (c:Nat))]) (Nat.ble 48 c&&Nat.ble c 57))=true:=by kernel_rfl
theorem Xb (c:UInt8):AL C0 290 [.pptr ID,.prim (.int .u8 (c.toNat:Nat))] (Al (Bl c)):=by
 refine QP Wl 1000 40 ?_;have h:=CW.1 jh c.toNat (List.mem_range.2 c.toNat_lt);exact nV h
instance:AS ID:=⟨λc hc=>by
 change c∈(List.range 256).map (λi=>Al (Nat.ble 48 i&&Nat.ble i 57))at hc;obtain⟨i,_,rfl⟩:=Bx.1 hc;exact .prim _⟩
def G7 (l:List UInt8):List UInt8:=(l.reverse.dropWhile Bl).reverse
theorem l6 (m:List UInt8)(c:UInt8):G7 (m++[c])=if Bl c then G7 m else m++[c]:=by
 unfold G7;rw[List.reverse_append,List.reverse_singleton,List.singleton_append,Oc];split
 ·rfl
 ·rw[List.reverse_cons,List.reverse_reverse]
theorem pv (l:List UInt8):((G7 l).dropWhile Bl=[])↔l.all Bl=true:=by
 constructor
 ·intro h
  have h1:∀m:List UInt8,m.dropWhile Bl=[]->m.all Bl=true:=λm=>by
   induction m with
   |nil=>intro _;rfl
   |cons c m ih=>
    intro hm;rw[Oc]at hm;split at hm
    ·rename_i hc
     rw[GX,hc,ih hm];rfl
    ·cases hm
  have h2:(l.reverse.dropWhile Bl).all Bl=true:=by
   have:=h1 _ h
   unfold G7 at this
   rwa [List.all_reverse]at this
  have h3:∀m:List UInt8,(m.dropWhile Bl).all Bl=true->m.all Bl=true:=λm=>by
   induction m with
   |nil=>intro _;rfl
   |cons c m ih=>
    intro hm;rw[Oc]at hm;split at hm
    ·rename_i hc
     rw[GX,hc,ih hm];rfl
    ·exact hm
  have:=h3 _ h2
  rwa [List.all_reverse]at this
 ·intro h
  have h1:∀m:List UInt8,m.all Bl=true->m.dropWhile Bl=[]:=λm=>by
   induction m with
   |nil=>intro _;rfl
   |cons c m ih=>
    intro hm;rw[GX,BZ]at hm;rw[Oc,AI hm.1];exact ih hm.2
  have hx:=h1 l.reverse (by rw[List.all_reverse];exact h);unfold G7;rw[hx];rfl
theorem kS (l:List UInt8)(hl:l.length<=1000000000):AL C0 282 [str (sb l),.pptr ID] (str (sb (l.dropWhile Bl))):=by
 refine Af.walk w1 eW rfl λF=>?_
 have hps:AS ID:=AJ;have hcc:=Xb;generalize ID=sd at*;refine sR 0 ?_;refine AC.seq ?_;refine AC.block ?_;refine AC.loop (α:=List UInt8×Nat) (λp=>⟨[(0,str (sb p.1)),(1,.pptr sd)],[],p.2⟩) (λp=>p.1.length) (λp=>p.1.dropWhile Bl=l.dropWhile Bl/\p.1.length<=l.length) (l,_) ⟨rfl,Ar _⟩ AK ?_;rintro⟨m,n⟩ F ⟨h1,h2⟩;dsimp only at h1 h2⊢;refine AC.seq ?_;refine AC.seq ?_;cases m with
 |nil=>
  have e1:decide (((sb []).size:Int)>0)=false:=rfl;refine Kn w1 100 (by kernel_rfl) ?_;refine AX e1 ?_;refine AO ?_;refine CG ?_;refine sR 400 ?_;refine Aj ?_;exact AM (by rw[<-h1];rfl) AA.out
 |cons c m=>
  have hsz:=C3 (c::m);have e1:decide (((sb (c::m)).size:Int)>0)=true:=Aw (by rw[hsz,Bu];omega);have hx:(((sb (c::m)).data.toList.getD ((0:Int)).toNat 0).toNat:Int)=(c.toNat:Int):=rfl;have b1:(0:Int)<((sb (c::m)).size:Int):=by rw[hsz,Bu];omega
  have b2:(1:Int)<=((sb (c::m)).size:Int):=by omega
  have e3:(sb (c::m)).extract ((1:Int)).toNat (sb (c::m)).size=sb m:=by
   rw[Fc,hsz,Cn (Ar _)];rfl
  have cc:=hcc c;refine Kn w1 100 (by kernel_rfl) ?_;refine AX e1 ?_;refine AO ?_;refine An ?_;refine AC.block ?_;refine AC.seq ?_;refine sZ 200 ?_;refine AX hx ?_;refine cI cc ?_;rcases hb:Bl c with _|_
  ·refine AO ?_
   refine CG ?_;refine sR 400 ?_;refine Aj ?_;refine AM ?_ AA.out;rw[<-h1,Oc,AH (by rw[hb];simp)]
  ·refine AO ?_
   refine An ?_;refine Kn w1 300 (by kernel_rfl) ?_;refine AX e3 ?_;refine⟨(m,_),⟨?_,?_⟩,?_,AK⟩
   ·rw[<-h1,Oc,AI hb]
   ·rw[Bu]at h2;dsimp only;omega
   ·show m.length<m.length+1;omega
theorem jr (l:List UInt8)(hl:l.length<=1000000000):AL C0 283 [str (sb l),.pptr ID] (str (sb (G7 l))):=by
 refine Af.walk w1 eX rfl λF=>?_
 have hps:AS ID:=AJ;have hcc:=Xb;generalize ID=sd at*;refine sR 0 ?_;refine AC.seq ?_;refine AC.block ?_;refine AC.loop (α:=List UInt8×Nat) (λp=>⟨[(0,str (sb p.1)),(1,.pptr sd)],[],p.2⟩) (λp=>p.1.length) (λp=>G7 p.1=G7 l/\p.1.length<=l.length) (l,_) ⟨rfl,Ar _⟩ AK ?_;rintro⟨m,n⟩ F ⟨h1,h2⟩;dsimp only at h1 h2⊢;refine AC.seq ?_;refine AC.seq ?_;rcases TT m with rfl|⟨m,c,rfl⟩
 ·have e1:decide (((sb []).size:Int)>0)=false:=rfl
  refine Kn w1 100 (by kernel_rfl) ?_;refine AX e1 ?_;refine AO ?_;refine CG ?_;refine sR 400 ?_;refine Aj ?_;exact AM (by rw[<-h1];rfl) AA.out
 ·rw[TS]at h1 h2⊢
  have hsz:=C3 (m++[c]);rw[Be,HN]at hsz h2;have e1:decide (((sb (m++[c])).size:Int)>0)=true:=Aw (by rw[hsz];omega);have wk1:IntKind.i64.wrap (((sb (m++[c])).size:Int)-1)=(m.length:Int):=by rw[hsz,wI];omega
  have hx:(((sb (m++[c])).data.toList.getD (((m.length:Nat):Int)).toNat 0).toNat:Int)=(c.toNat:Int):=by
   show(((m++[c]).getD m.length 0).toNat:Int)=_;simp
  have b1:((m.length:Nat):Int)<((sb (m++[c])).size:Int):=by rw[hsz];omega
  have e3:(sb (m++[c])).extract 0 (((m.length:Nat):Int)).toNat=sb m:=by
   rw[Fc];simp
  have cc:=hcc c;have ht:=l6 m c;refine Kn w1 100 (by kernel_rfl) ?_;refine AX e1 ?_;refine AO ?_;refine An ?_;refine AC.block ?_;refine AC.seq ?_;refine sZ 200 ?_;refine AX (Aa wk1 hx) ?_;refine cI cc ?_;rcases hb:Bl c with _|_
  ·rw[AH (by rw[hb];simp)]at ht
   refine AO ?_;refine CG ?_;refine sR 400 ?_;refine Aj ?_;exact AM (by rw[<-h1,ht]) AA.out
  ·rw[AI hb]at ht
   refine AO ?_;refine An ?_;refine Kn w1 300 (by kernel_rfl) ?_;refine AX (Aa wk1 e3) ?_;refine⟨(m,_),⟨by rw[<-h1,ht],by dsimp only;omega⟩,?_,AK⟩;dsimp only;rw[Be,HN];omega
namespace TrimW
theorem w1:Dg C0 X4:=w4
theorem trim_ok (l:List UInt8)(hl:l.length<=1000000000):AL C0 267 [str (sb l),str (sb Th)] (str (sb ((G7 l).dropWhile Bl))):=by
 refine Af.walk w1 eV rfl λF=>?_
 have cm:=km;have c1:=jr l hl;have hlr:(G7 l).length<=1000000000:=by
  unfold G7;rw[List.length_reverse];exact BY (List.dropWhile_sublist _).length_le (by rw[List.length_reverse];exact hl)
 have c2:=kS (G7 l) hlr;have hps:AS ID:=AJ;have eS:=Ff l [];have e2:(((sb Th).size:Int)==1)=false:=rfl;have e4:BJ (sb Th) (sb [])=false:=by rw[Ff];exact Az (by simp)
 have hfit:Eg true 256 ID:=by
  have h:((List.range 256).map λi=>Al (Nat.ble 48 i&&Nat.ble i 57)).length=256:=by rw[Ab,List.length_range]
  have:=Eg.agg (ds:=(List.range 256).map λi=>Al (Nat.ble 48 i&&Nat.ble i 57))
  rw[h]at this;exact this
 refine sR 0 ?_
 by_cases h0:l=[]
 ·subst h0
  have eS':BJ (sb []) (sb [])=true:=by rw[Ff];exact Aw rfl
  refine AC.seq ?_;refine sZ 100 ?_;refine AX eS' ?_;refine AG (Aa eS' kT) ?_;refine AO ?_;refine sR 200 ?_;refine Aj ?_;exact AM rfl AA.out
 ·rw[Az h0]at eS
  refine AC.seq ?_;refine sZ 100 ?_;refine AX eS ?_;refine AG (Ao eS e4 kF) ?_;refine AG (Ao eS e4 kF) ?_;refine AO ?_;refine An ?_;refine AC.seq ?_;refine sZ 300 ?_;refine AX e2 ?_;refine AG e2 ?_;refine AG e2 ?_;refine AO ?_;refine An ?_;refine AC.seq ?_;refine sR 500 ?_;refine BF.same _ cm AJ ?_;refine BO ?_;generalize ID=sd at*
  repeat(refine Eb rfl rfl ?_;refine Iz (λ_ _=>rfl) ?_)
  refine PE (BM (by repeat'(first|exact hfit|refine BM ?_ ?_|exact CD)) ?_);refine BO ?_;refine sR 600 ?_;refine AO ?_;refine sR 700 ?_;refine BF.own _ (M9 c1 rfl ?_ AJ (Kf.prim _)) ?_
  ·intro i x y hx hy
   match i with
   | 0=>simp at hx hy;subst hx;subst hy;exact Ds.refl _ _
   | 1=>simp at hx hy;subst hx;subst hy;exact Ds.ptr rfl rfl rfl rfl
   |i+2=>simp at hx
  rintro d H' n' ⟨rfl,rfl,rfl⟩;refine BU ?_;refine BF.own _ (M9 c2 rfl ?_ AJ (Kf.prim _)) ?_
  ·intro i x y hx hy
   match i with
   | 0=>simp at hx hy;subst hx;subst hy;exact Ds.refl _ _
   | 1=>simp at hx hy;subst hx;subst hy;exact Ds.ptr rfl rfl rfl rfl
   |i+2=>simp at hx
  rintro d H' n' ⟨rfl,rfl,rfl⟩;refine BU ?_;refine Aj ?_;exact AM rfl AA.out
end TrimW
def Hj (a:Nat)(l:List UInt8):Nat:=l.foldl (λa c=>a*10+(c.toNat-48)) a
def dv (l:List UInt8):Nat:=Hj 0 l
theorem bT (l:List UInt8):∀a,Hj a l=a*10^l.length+dv l:=by
 induction l with
 |nil=>intro a;simp[Hj,dv]
 |cons c l ih=>
  intro a;have h1:∀b,Hj b (c::l)=Hj (b*10+(c.toNat-48)) l:=λb=>rfl
  have h2:dv (c::l)=Hj (0*10+(c.toNat-48)) l:=rfl;rw[h1,h2,ih,ih (0*10+(c.toNat-48)),Bu,CZ];rw[Bz,Hq,BV,B4,Ba 10];omega
theorem O8 (l m:List UInt8):dv (l++m)=dv l*10^m.length+dv m:=by
 have:dv (l++m)=Hj (dv l) m:=by unfold dv Hj;rw[List.foldl_append]
 rw[this,bT]
theorem kO (l:List UInt8):∀a,l.all Bl=true->Lib.decFrom a l=some (Hj a l):=by
 induction l with
 |nil=>intro a _;rfl
 |cons c l ih=>
  intro a h;rw[GX,BZ]at h;have hd:Lib.digitVal c=some (c.toNat-48):=by
   have h1:=h.1;unfold Bl at h1;rw[BZ]at h1;unfold Lib.digitVal;rw[AI ⟨Dm h1.1,Dm h1.2⟩]
  rw[Lib.decFrom,hd];exact ih _ h.2
theorem MF {c:UInt8}(h:Bl c=true):48<=c.toNat/\c.toNat<=57:=by
 unfold Bl at h;rw[BZ]at h;exact⟨Dm h.1,Dm h.2⟩
theorem nj {l:List UInt8}(h0:l≠[])(h:l.all Bl=true):Lib.atoi l=some (dv l:Int):=by
 cases l with
 |nil=>exact Ak rfl h0
 |cons c l=>
  have hc:Bl c=true:=by rw[GX,BZ]at h;exact h.1
  obtain⟨c1,c2⟩:=MF hc;have e1:(c==45)=false:=by
   rw[Bo];intro hh;subst hh;simp at c1
  have e2:(c==43)=false:=by
   rw[Bo];intro hh;subst hh;simp at c1
  unfold Lib.atoi;dsimp only;rw[e1,e2];simp only[Fs,if_false];unfold Lib.decNat;simp only[List.isEmpty_cons,Fs,if_false];rw[kO _ _ h];rfl
theorem G3 (l:List UInt8)(h:l.all Bl=true):dv l<10^l.length:=by
 induction l with
 |nil=>decide
 |cons c l ih=>
  rw[GX,BZ]at h;have h1:dv (c::l)=Hj (0*10+(c.toNat-48)) l:=rfl;have h2:=ih h.2;obtain⟨c1,c2⟩:=MF h.1;rw[h1,bT,Hq,BV,Bu,CZ,Ba _ 10];have h3:(c.toNat-48)*10^l.length<=9*10^l.length:=CV _ (by omega);omega
def W1 (o:Option D)(z:Int):Bool:=match o with
 |some (.agg [.prim (.int .i64 a),.prim (.slice none 0 0)])=>a==z
 |_=>false
theorem nW {o:Option D}{z:Int}(h:W1 o z=true):o=some (DL z):=by
 unfold W1 at h;split at h
 ·rw[ED]at h;subst h;rfl
 ·cases h
theorem rE:((List.range 19).all λk=>W1 ((Gr X1 1000 60).1 164 [DL 10,i64 (k:Nat)]) ((10^k:Nat):Int))=true:=by kernel_rfl
theorem xu (k:Nat)(h:k<19):AL C0 164 [DL 10,i64 k] (DL ((10^k:Nat):Int)):=by
 refine QP Dx 1000 60 ?_;exact nW (CW.1 rE k (List.mem_range.2 h))
theorem Wh {n:Nat}(h:n<9223372036854775808):DL (n:Int)=(Ac (n:Int)).D:=by
 rw[KO ⟨by omega,by omega⟩];rfl
theorem d9n (a b:Nat)(ha:(Ah a).length<1000000)(hb:(Ah b).length<1000000):AL C0 127 [(Ac (a:Int)).D,(Ac (b:Int)).D] (Ac ((a+b:Nat):Int)).D:=by
 have:=Pw (Ac (a:Int)) (Ac (b:Int)) (C4 _) (C4 _) (I4 ha) (I4 hb)
 have e:Eh (Ac (a:Int)) (Ac (b:Int))=Ac ((a+b:Nat):Int):=by
  have h1:=Nw (Ac (a:Int)) (Ac (b:Int));rw[EE,EE]at h1;rw[Px (Nj _ _) (by rw[h1];omega),h1]
  congr 1
 rw[e]at this;exact this
theorem NP {n k:Nat}(h:n<10^k):(Ah n).length<=k:=Hu (Co h (Oe (by decide) k))
def rv (l:List UInt8):Int:=if Dk l then -(dv (Bv l):Int)else dv (Bv l)
theorem rF (k:Nat)(h:k<19):AL C0 164 [DL 10,i64 k] (Ac ((10^k:Nat):Int)).D:=by
 have:=xu k h
 have h2:10^k<9223372036854775808:=Dy (GK (by decide) (show k<=18 by omega)) (by decide)
 rwa [Wh h2]at this
theorem xi (n:Nat)(h:n<9223372036854775808):AL C0 126 [i64 n] (Ac (n:Int)).D:=by
 have:=P0 (n:Int)
 rwa [Wh h]at this
theorem R3 (l:List UInt8)(hd:(Bv l).all Bl=true)(hl:l.length<=100000):AL C0 123 [str (sb l)] (Ac (rv l)).D:=by
 refine Af.walk w1 dE rfl λF=>?_
 have c1:=ju l (by omega);have c2:=Tl l (by omega);have hml:(Bv l).length<=100000:=by
  unfold Bv;split
  ·rw[D8];omega
  ·exact hl
 unfold rv;generalize hm0:Bv l=m0 at*;generalize Dk l=ng at*;generalize sb l=sl at*;have ez:DL 0=(Ac ((0:Nat):Int)).D:=Wh (by decide);have hpm:∀n:Nat,AA (Ac (n:Int)).w:=λn=>AJ
 refine sR 0 ?_;refine sR 100 ?_;refine cI c1 ?_;refine sR 200 ?_;refine cI c2 ?_;refine sR 300 ?_;refine DJ (α:=Nat) (λn=>⟨[(2,.optr 0 0 2 0 0),(3,Al ng),(4,.optr 301 8 2 0 0)],[⟨301,8,132,2,[(Ac (dv m0:Int)).D]⟩,⟨0,0,132,2,[DL 0]⟩],n⟩) (λ_=>True) ?_ ?_
 ·refine AC.block ?_
  refine HH (α:=List UInt8×Nat×Nat) (λp=>⟨[(0,str (sb p.1)),(2,.optr 0 0 2 0 0),(3,Al ng),(4,.optr 301 8 2 0 0)],[⟨301,8,132,2,[(Ac (p.2.1:Int)).D]⟩,⟨0,0,132,2,[DL 0]⟩],p.2.2⟩) (λp=>p.1.length)
   (λp F'=>F'=F/\p.1.all Bl=true/\p.1.length<=m0.length/\p.2.1<10^(m0.length-p.1.length)/\dv m0=p.2.1*10^p.1.length+dv p.1) (m0,0,20) ⟨rfl,hd,Ar _,by simp,by simp⟩ (by rw[<-ez];exact AK) ?_
  rintro⟨m,A,n⟩ F' ⟨rfl,h1,h2,h3,h4⟩;dsimp only at h1 h2 h3 h4⊢;refine AC.seq ?_;refine AC.seq ?_
  by_cases hm:m=[]
  ·subst hm
   have e1:decide (((sb []).size:Int)>0)=false:=rfl;have hA:dv m0=A:=by simpa[dv,Hj]using h4
   rw[hA];refine As 400 ?_;refine AX e1 ?_;refine AO ?_;refine CG ?_;exact⟨rfl,_,trivial,AK⟩
  ·have hm1:0<m.length:=List.length_pos_iff.2 hm
   have hsz:=C3 m;obtain⟨k,hk⟩:∃k,k=min 18 m.length:=⟨_,rfl⟩
   have e1:decide (((sb m).size:Int)>0)=true:=Aw (by rw[hsz];omega);have ek:min (18:Int) ((sb m).size:Int)=(k:Int):=by rw[hsz];omega
   have b1:(k:Int)<=((sb m).size:Int):=by rw[hsz];omega
   have e22:(sb m).extract 0 ((k:Int)).toNat=sb (m.take k):=by rw[Fc];rfl
   have e36:(sb m).extract ((k:Int)).toNat (sb m).size=sb (m.drop k):=by
    rw[Fc,hsz,Cn (Ar _)];rfl
   have htk:(m.take k).all Bl=true:=CW.2 λc hc=>CW.1 h1 c (GJ hc)
   have hdk:(m.drop k).all Bl=true:=CW.2 λc hc=>CW.1 h1 c (Kv hc)
   have hlk:(m.take k).length=k:=by rw[Bc];omega
   have hv:=G3 _ htk;rw[hlk]at hv;have h18:10^k<=10^18:=GK (by decide) (by omega);have ca:=qX (sb (m.take k)) (dv (m.take k):Int) (by rw[C3,hlk];omega) (nj (by intro h;change m.take k=[]at h;rw[h]at hlk;simp at hlk;omega) htk);have hval:dv m=dv (m.take k)*10^(m.drop k).length+dv (m.drop k):=by
    conv=>lhs;rw[<-Fq k m]
    exact O8 _ _
   generalize dv (m.take k)=v at*;have hAl:(Ah A).length<=100000:=BY (NP h3) (by omega);have h10:(Ah (10^k)).length<=19:=NP (k:=19) (Nat.pow_lt_pow_right (by decide) (by omega));have hmul:=MP A (10^k);have cp:=rF k (by omega);have c3:=Ww A (10^k) (by omega) (by omega);have cv:=xi v (by omega);have hvl:(Ah v).length<=19:=NP (k:=19) (Co hv (GK (by decide) (by omega)));have c4:=d9n (A*10^k) v (by omega) (by omega);refine As 400 ?_;refine AX e1 ?_;refine AO ?_;refine An ?_;refine AC.block ?_;refine sZ 500 ?_;refine AX ek ?_;refine sZ 600 ?_;refine AX e22 ?_;refine cI ca ?_;refine AC.seq ?_;refine CN 700 [0,1,2,3,4,5] [6,7,8] ?_;refine BU ?_;refine Bf.same _ (P0 10) AJ ?_;refine BU ?_;refine Bf.same _ (cp) AJ ?_;refine BU ?_;refine Bf.same _ (c3) AJ ?_;refine BU ?_;refine cI cv ?_;refine cI c4 ?_;refine As 800 ?_;refine AX e36 ?_;refine⟨(m.drop k,A*10^k+v,_),⟨trivial,hdk,?_,?_,?_⟩,?_,AK⟩
   ·dsimp only;rw[D8];omega
   ·dsimp only
    rw[D8,show m0.length-(m.length-k)=(m0.length-m.length)+k by omega,Gq];have h5:(A+1)*10^k<=10^(m0.length-m.length)*10^k:=CV _ h3;rw[Bz]at h5;omega
   ·dsimp only
    rw[h4,hval,D8];have h6:10^m.length=10^k*10^(m.length-k):=by rw[<-Gq];congr 1;omega
    rw[h6,Bz,B4];omega
   ·dsimp only;rw[D8];omega
 rintro n -;have hAl:(Ah (dv m0)).length<=100000:=BY (NP (G3 _ hd)) hml;have cn:=Pz (Ac (dv m0:Int)) (C4 _) (I4 (by omega));rw[EE]at cn;have hpn:AA (Ac (-(dv m0:Int))).w:=AJ;refine AC.seq ?_;refine sR 900 ?_;cases ng with
 |true=>
  rw[AI rfl];refine AO ?_;refine sR 1000 ?_;refine cI cn ?_;refine Aj ?_;exact AM rfl AA.out
 |false=>
  rw[AH (by simp)];refine AO ?_;refine An ?_;refine sR 1100 ?_;refine Aj ?_;exact AM rfl AA.out
def Ll (l:List UInt8):Bool:=!decide (l=[])&&l.all Bl
def DR (l:List UInt8):Bool:=Ll l&&(decide (l=[48]) || !decide (l.head? = some 48))
def B6 (l:List UInt8):List UInt8:=l.take (BL l)
def Bg (l:List UInt8):List UInt8:=l.drop (BL l+1)
def DE (l:List UInt8):Bool:=decide (BL l<l.length)
def CA (l:List UInt8):List UInt8:=Bv (B6 l)
def KJ (l:List UInt8):Bool:=!DR (CA l)||decide (B6 l=[45,48])||(DE l&&(!DR (Bg l)||decide (Bg l=[48])||decide (Bg l=[49])))
def Cr (l:List UInt8):Nat:=if KJ l then 1 else if 600<(CA l).length\/600<(Bg l).length then 4
 else if DE l=true/\Nat.gcd (dv (CA l)) (dv (Bg l))≠1 then 1 else 0
theorem K8 {l:List UInt8}(h:DR l=true):l≠[]/\l.all Bl=true:=by
 unfold DR Ll at h;rw[BZ,BZ]at h;exact⟨by have:=h.1.1;simpa using this,h.1.2⟩
theorem T4 {l:List UInt8}(h:l.all Bl=true):Dk l=false:=by
 cases l with
 |nil=>rfl
 |cons c l=>
  rw[GX,BZ]at h;obtain⟨c1,c2⟩:=MF h.1;show(c==45)=false;rw[Bo];intro hh;subst hh;simp at c1
theorem K7 {l:List UInt8}(h:l.all Bl=true):Bv l=l:=by unfold Bv;rw[T4 h];rfl
theorem N4 {l:List UInt8}(h:l.all Bl=true):rv l=(dv l:Int):=by
 unfold rv;rw[T4 h,K7 h];rfl
theorem mD (l:List UInt8)(hl:l.length<=1000000000):AL C0 239 [str (sb l)] (Al (Ll l)):=by
 refine Af.walk w1 cQ rfl λF=>?_
 have ct:=TrimW.trim_ok l hl;have eS:=Ff l [];have eT:=Ff ((G7 l).dropWhile Bl) [];have hall:decide ((G7 l).dropWhile Bl=[])=l.all Bl:=by
  rw[GU,decide_eq_true_iff];exact pv l
 rw[hall]at eT;unfold Ll;rw[<-eS];generalize hb:BJ (sb l) (sb [])=b at*;refine sR 0 ?_;refine AC.seq ?_;cases b with
 |true=>
  have e1:(!BJ (sb l) (sb []))=false:=by rw[hb];rfl
  refine As 100 ?_;refine AX e1 ?_;refine AG e1 ?_;refine Aj ?_;exact AM rfl AA.out
 |false=>
  have e1:(!BJ (sb l) (sb []))=true:=by rw[hb];rfl
  refine As 100 ?_;refine AX e1 ?_;refine AG e1 ?_;refine Oq e1 ?_;refine BF.same _ ct AJ ?_;refine AG (Aa e1 eT) ?_;refine Aj ?_;exact AM rfl AA.out
theorem ZW (l:List UInt8)(hl:l.length<=1000000000):AL C0 188 [str (sb l)] (Al (DR l)):=by
 refine Af.walk w1 bo rfl λF=>?_
 have cd:=mD l hl;have e0:=Ff l [48];unfold DR;refine sR 0 ?_;refine sR 100 ?_;refine cI cd ?_;rcases hd:Ll l with _|_
 ·refine AG (Aa kT Fs) ?_
  refine AG (Aa kT Fs) ?_;refine Aj ?_;exact AM rfl AA.out
 ·obtain⟨c,m,rfl⟩:∃c m,l=c::m:=by
   cases l with
   |nil=>cases hd
   |cons c m=>exact⟨c,m,rfl⟩
  have hsz:=C3 (c::m);rw[Bu]at hsz;have hx:(((sb (c::m)).data.toList.getD ((0:Int)).toNat 0).toNat:Int)=(c.toNat:Int):=rfl;have b0:(0:Int)<((sb (c::m)).size:Int):=by rw[hsz];omega
  by_cases h0:(c::m)=[48]
  ·rw[Aw h0]at e0⊢
   refine AG e0 ?_;refine AG (Aa e0 kT) ?_;refine AG (Aa e0 kT) ?_;refine Aj ?_;exact AM rfl AA.out
  ·rw[Az h0]at e0⊢
   have e1:((c.toNat:Int) != 48) = !decide (c=48):=by
    rw[GU];simp only[bne_iff_ne,ne_eq,Bq,JN];constructor
    ·intro h hc;subst hc;exact h rfl
    ·intro h hc
     apply h
     have:c.toNat=48:=by omega
     exact UInt8.toNat_inj.1 this
   refine AG e0 ?_;refine AG (Bb e0 kF hx e1) ?_;refine AG (Bb e0 kF hx e1) ?_;refine Aj ?_;exact AM (by simp) AA.out
theorem s5 (n:Nat):AL C0 189 [(Ac (n:Int)).D] (.tup [i64 (Ac (n:Int)).s,Al (decide (Sm (n:Int)))]):=by
 refine Af.walk w1 bp rfl λF=>?_
 by_cases hs:Sm (n:Int)
 ·obtain⟨a1,a2⟩:=S0 hs
  dsimp only[GI.D];rw[a1,a2,Aw hs];refine sR 0 ?_;refine AC.seq ?_;refine CN 100 [0,1,2,3,4,5] [6] ?_;refine BU ?_;refine Aj ?_;exact AM rfl AA.out
 ·obtain⟨a1,a2,a3⟩:=Wv hs
  dsimp only[GI.D];rw[a1,a2,Az hs];generalize(Ah n).map AT=l at*;refine sR 0 ?_;refine AC.seq ?_;refine CN 100 [0,1,2,3,4,5] [6] ?_;refine AX (Ao (@ne_eq (List D)) a3 E6) ?_;refine Aj ?_;exact AM rfl AA.out
def G4 (l:List UInt8):GF:=⟨Ac (rv (B6 l)),if DE l then dv (Bg l)else 1⟩
theorem rK (l:List UInt8)(hl:l.length<=100000)(h1:(CA l).all Bl=true)(h2:DE l=true->(Bg l).all Bl=true):AL C0 91 [str (sb l)] (G4 l).D:=by
 refine Af.walk w1 iD rfl λF=>?_
 have cc:=bQ l (by omega);have r1:=R3 (B6 l) h1 (by unfold B6;rw[Bc];omega);have hpw:AA (Ac (rv (B6 l))).w:=AJ;unfold G4;change AL C0 _ _ (.tup [str (sb (B6 l)),str (sb (Bg l)),Al (DE l)])at cc;rcases hs:DE l with _|_
 ·rw[hs]at cc
  have wg:=bD (Ac (rv (B6 l)));have hp1:AA (Ac ((1:Nat):Int)).w:=AJ;rw[AH (by simp)];dsimp only[GI.D,GF.D]at*;refine sR 0 ?_;refine sR 100 ?_;refine cI cc ?_;refine AC.seq ?_;refine sR 200 ?_;refine AO ?_;refine sR 300 ?_;refine cI r1 ?_;refine cI wg ?_;refine Aj ?_;exact AM rfl AA.out
 ·rw[hs]at cc
  have hd:=h2 hs;have r2:=R3 (Bg l) (by rw[K7 hd];exact hd) (by unfold Bg;rw[D8];omega);rw[N4 hd]at r2;have hp1:AA (Ac (dv (Bg l):Int)).w:=AJ;rw[AI rfl];dsimp only[GI.D,GF.D]at*;refine sR 0 ?_;refine sR 100 ?_;refine cI cc ?_;refine AC.seq ?_;refine sR 200 ?_;refine AO ?_;refine An ?_;refine sR 400 ?_;refine cI r1 ?_;refine cI r2 ?_;refine Aj ?_;exact AM rfl AA.out
set_option maxHeartbeats 4000000
theorem xQ (g:Nat):((g:Int) != 1)=decide (g≠1):=by
 rw[GU,bne_iff_ne,decide_eq_true_iff];omega
theorem nm (l:List UInt8)(hl:l.length<=100000):AL C0 139 [str (sb l)] (i64 (Cr l)):=by
 refine Af.walk w1 dQ rfl λF=>?_
 have cc:=bQ l (by omega);change AL C0 _ _ (.tup [str (sb (B6 l)),str (sb (Bg l)),Al (DE l)])at cc;have hnl:(B6 l).length<=100000:=by unfold B6;rw[Bc];omega
 have hdl:(Bg l).length<=100000:=by unfold Bg;rw[D8];omega
 have hsl:(CA l).length<=100000:=by
  unfold CA Bv;split
  ·rw[D8];omega
  ·exact hnl
 have ct:=Tl (B6 l) (by omega);change AL C0 _ _ (str (sb (CA l)))at ct;have p1:=ZW (CA l) (by omega);have p2:=ZW (Bg l) (by omega);have en:=Ff (B6 l) [45,48];have e0:=Ff (Bg l) [48];have e1:=Ff (Bg l) [49];have z1:=C3 (CA l);have z2:=C3 (Bg l);have hbf:∃b,b=KJ l:=⟨_,rfl⟩
 obtain⟨bf,hbf⟩:=hbf;unfold Cr;rw[<-hbf];unfold KJ at hbf;refine sR 0 ?_;refine sR 100 ?_;refine cI cc ?_;refine sR 200 ?_;refine cI ct ?_;refine AC.seq ?_;refine DJ (α:=Nat) (λn=>⟨[(4,str (sb (Bg l))),(5,Al (DE l)),(6,str (sb (CA l))),(39,Al bf)],[],n⟩) (λ_=>True) ?_ ?_
 ·refine rI 300 ?_
  refine cI p1 ?_;rcases hp:DR (CA l)with _|_
  ·rw[hp]at hbf
   have hb:bf=true:=by rw[hbf];rfl
   subst hb;simp only[TN];refine AG kT ?_;refine AG kT ?_;exact⟨trivial,_,trivial,AK⟩
  ·rw[hp]at hbf
   simp only[QX]
   by_cases hn:B6 l=[45,48]
   ·rw[Aw hn]at en hbf
    have hb:bf=true:=by rw[hbf];rfl
    subst hb;refine AG (Aa kF en) ?_;refine AG (Ao kF kT en) ?_;exact⟨trivial,_,trivial,AK⟩
   ·rw[Az hn]at en hbf
    rcases hs:DE l with _|_
    ·rw[hs]at hbf
     have hb:bf=false:=by rw[hbf];rfl
     subst hb;refine AG (Aa kF en) ?_;refine AG (Bb kF kT en hs) ?_;refine AG (Bb kF kT en hs) ?_;exact⟨trivial,_,trivial,AK⟩
    ·rw[hs]at hbf
     refine AG (Aa kF en) ?_;refine AG (Ao kF en hs) ?_;refine Oq hs ?_;refine BF.same _ p2 AJ ?_;refine BO ?_;rcases hq:DR (Bg l)with _|_
     ·rw[hq]at hbf
      have hb:bf=true:=by rw[hbf];rfl
      subst hb;refine AG (Ao kF kT hq) ?_;refine AG (Ao kF kT hq) ?_;refine AG (Ao kF kT hq) ?_;exact⟨trivial,_,trivial,AK⟩
     ·rw[hq]at hbf
      refine AG hq ?_;simp only[QX];refine AG kF ?_
      by_cases h0:Bg l=[48]
      ·rw[Aw h0]at e0 hbf
       have hb:bf=true:=by rw[hbf];rfl
       subst hb;simp only[e0,imp_self];refine AG kT ?_;refine Iw rfl rfl rfl (by simp only[TN]) (by simp) (Iz (λ_ _=>rfl) ?_);refine AG kF ?_;exact⟨trivial,_,trivial,AK⟩
      ·rw[Az h0]at e0 hbf
       simp only[e0];refine AG kF ?_
       by_cases h1:Bg l=[49]
       ·rw[Aw h1]at e1 hbf
        have hb:bf=true:=by rw[hbf];rfl
        subst hb;simp only[e1];exact⟨trivial,_,trivial,AK⟩
       ·rw[Az h1]at e1 hbf
        have hb:bf=false:=by rw[hbf];rfl
        subst hb;simp only[e1];exact⟨trivial,_,trivial,AK⟩
 rintro n -;cases bf with
 |true=>
  rw[AI rfl];refine AO ?_;refine sR 400 ?_;refine Aj ?_;exact AM rfl AA.out
 |false=>
  rw[AH (by simp)];have hbf:=hbf.symm;simp only[Jw,B0,Bool.and_eq_false_iff]at hbf;obtain⟨⟨hp,hn⟩,hd⟩:=hbf;refine AO ?_;refine An ?_;have hsd:=(K8 hp).2;refine AC.seq ?_;refine DJ (α:=Nat) (λn=>⟨[(4,str (sb (Bg l))),(5,Al (DE l)),(6,str (sb (CA l))),(47,Al (decide (600<(CA l).length\/600<(Bg l).length)))],[],n⟩) (λ_=>True) ?_ ?_
  ·by_cases hA:600<(CA l).length
   ·have ea:decide (((sb (CA l)).size:Int)>600)=true:=Aw (by rw[z1];omega)
    have eb:decide (600<(CA l).length\/600<(Bg l).length)=true:=Aw (Or.inl hA);rw[eb];refine As 500 ?_;refine AX ea ?_;refine AG kT ?_;exact⟨trivial,_,trivial,AK⟩
   ·have ea:decide (((sb (CA l)).size:Int)>600)=false:=Az (by rw[z1];omega)
    have eb:decide (((sb (Bg l)).size:Int)>600)=decide (600<(CA l).length\/600<(Bg l).length):=by
     rw[DO,z2];omega
    refine As 500 ?_;refine AX ea ?_;refine AG kF ?_;simp only[eb];exact⟨trivial,_,trivial,AK⟩
  rintro n -
  by_cases hL:600<(CA l).length\/600<(Bg l).length
  ·rw[Aw hL,AI hL]
   refine AO ?_;refine sR 600 ?_;refine Aj ?_;exact AM rfl AA.out
  ·rw[Az hL,AH hL]
   refine AO ?_;refine An ?_;refine AC.seq ?_;refine sR 700 ?_;rcases hs:DE l with _|_
   ·rw[AH (by simp)]
    refine AO ?_;refine An ?_;refine sR 1100 ?_;refine Aj ?_;exact AM rfl AA.out
   ·rw[hs]at hd
    have hd':=hd.resolve_left (by simp);have hdd:=(K8 hd'.1.1).2;have r1:=R3 (CA l) (by rw[K7 hsd];exact hsd) hsl;have r2:=R3 (Bg l) (by rw[K7 hdd];exact hdd) hdl;rw[N4 hsd]at r1;rw[N4 hdd]at r2;have l1:(Ah (dv (CA l))).length<=100000:=BY (NP (G3 _ hsd)) hsl;have l2:(Ah (dv (Bg l))).length<=100000:=BY (NP (G3 _ hdd)) hdl;have cg:=gT (Ac (dv (CA l):Int)) (Ac (dv (Bg l):Int)) (C4 _) (C4 _) (I4 (by omega)) (I4 (by omega));rw[EE,EE,E5,E5]at cg;have cs:=s5 (Nat.gcd (dv (CA l)) (dv (Bg l)));obtain⟨g,hg0⟩:∃g,g=Nat.gcd (dv (CA l)) (dv (Bg l)):=⟨_,rfl⟩
    rw[<-hg0]at cg cs;simp only[<-hg0];have hpa:AA (Ac (dv (CA l):Int)).w:=AJ;have hpb:AA (Ac (dv (Bg l):Int)).w:=AJ;have hpg:AA (Ac (g:Int)).w:=AJ;dsimp only[GI.D]at r1 r2 cg cs;refine AO ?_;refine sR 800 ?_;refine cI r1 ?_;refine cI r2 ?_;refine cI cg ?_;refine cI cs ?_;refine DJ (α:=Nat) (λn=>⟨[(63,Al (decide (g≠1)))],[],n⟩) (λ_=>True) ?_ ?_
    ·by_cases hg:Sm (g:Int)
     ·obtain⟨a1,a2⟩:=S0 hg
      have eg:=xQ g;rw[a1,Aw hg];refine rI 900 ?_;simp only[QX];refine AG kF ?_;simp only[eg];exact⟨trivial,_,trivial,AK⟩
     ·have eg:decide (g≠1)=true:=Aw λh=>hg (by rw[h];exact⟨by decide,by decide⟩)
      rw[eg,Az hg];refine rI 900 ?_;simp only[TN];refine AG kT ?_;exact⟨trivial,_,trivial,AK⟩
    rintro n -
    by_cases hg:g=1
    ·rw[Az (λh=>h hg),AH (λh=>h.2 hg)]
     refine AO ?_;refine An ?_;refine sR 1100 ?_;refine Aj ?_;exact AM rfl AA.out
    ·rw[Aw hg,AI ⟨trivial,hg⟩]
     refine AO ?_;refine sR 1000 ?_;refine Aj ?_;exact AM rfl AA.out
abbrev RB:Nat:=1000000000
def Ae (n:Nat):List Nat:=if _h:n=0 then[]else(n%RB)::Ae (n/RB)
termination_by n
decreasing_by exact Ir (EX _h) (by decide)
def AQ:List Nat->Nat
 | []=>0
 |a::l=>a+RB*AQ l
def Rd (l:List Nat):Prop:=∀a∈l,a<RB
theorem HP:Ae 0=[]:=by unfold Ae;rfl
theorem Jc {n:Nat}(h:n≠0):Ae n=(n%RB)::Ae (n/RB):=by rw[Ae,dif_neg h]
theorem FK (n:Nat):Rd (Ae n):=by
 induction n using Nat.strongRecOn with
 |ind n ih=>
  by_cases h:n=0
  ·subst h;rw[HP];intro a ha;cases ha
  ·rw[Jc h]
   intro a ha;rcases A8.1 ha with rfl|ha
   ·exact B7 _ (by decide)
   ·exact ih _ (Ir (EX h) (by decide)) a ha
theorem Ea (n:Nat):AQ (Ae n)=n:=by
 induction n using Nat.strongRecOn with
 |ind n ih=>
  by_cases h:n=0
  ·subst h;rw[HP];rfl
  ·rw[Jc h,AQ,ih _ (Ir (EX h) (by decide))]
   exact FU n RB
theorem J9 (l m:List Nat):AQ (l++m)=AQ l+RB^l.length*AQ m:=by
 induction l with
 |nil=>simp[AQ]
 |cons a l ih=>
  simp only[EU,AQ,ih,Bu,CZ,BQ];rw[Ba (RB^l.length) RB,B4,FD]
theorem Rd.tail {a:Nat}{l:List Nat}(h:Rd (a::l)):Rd l:=λb hb=>h b (CL _ hb)
theorem Rd.head {a:Nat}{l:List Nat}(h:Rd (a::l)):a<RB:=h a CF
theorem Rd.append {l m:List Nat}(h:Rd l)(k:Rd m):Rd (l++m):=λa ha=>(Bp.1 ha).elim (h a) (k a)
theorem Rd.take {l:List Nat}(h:Rd l)(n:Nat):Rd (l.take n):=λa ha=>h a (GJ ha)
theorem Gz:∀ {l:List Nat},Rd l->AQ l<RB^l.length
 | [],_=>by simp[AQ]
 |a::l,h=>by
  have h1:=Gz h.tail;have h2:=h.head;rw[AQ,Bu,CZ]
  calc a+RB*AQ l<RB+RB*AQ l:=by omega
   _=RB*(AQ l+1):=by rw[BQ,Ej,L4]
   _<=RB*RB^l.length:=Cy _ h1
   _=_:=Ba _ _
theorem Xi:∀ {l:List Nat},Rd l->(∀a∈l.getLast?,a≠0)->Ae (AQ l)=l
 | [],_,_=>HP
 | [a],h,hl=>by
  have ha:a≠0:=hl a (by simp);have hb:=h.head;rw[show AQ [a]=a from by simp[AQ],Jc ha,Ft hb,IL hb,HP]
 |a::b::l,h,hl=>by
  have ih:=Xi h.tail (λx hx=>hl x (by simpa using hx));have hb:=h.head;have hv:AQ (b::l)≠0:=by
   intro h0;rw[h0,HP]at ih;cases ih
  have e1:AQ (a::b::l)%RB=a:=by rw[AQ,TP,Ft hb]
  have e2:AQ (a::b::l)/RB=AQ (b::l):=by
   rw[AQ,TW _ _ (by decide),IL hb,BV]
  have hne:AQ (a::b::l)≠0:=by
   intro h0;rw[h0]at e2;exact hv (by rw[<-e2];rfl)
  rw[Jc hne,e1,e2,ih]
theorem Xd:∀(k:Nat),AQ (List.replicate k 0)=0
 | 0=>rfl
 |k+1=>by rw[List.replicate_succ,AQ,Xd k,FE]
theorem Ja (b:Nat):∀a,b<=a->(Ae b).length<=(Ae a).length:=by
 induction b using Nat.strongRecOn with
 |ind b ih=>
  intro a h
  by_cases hb:b=0
  ·subst hb;rw[HP];exact BW _
  ·rw[Jc hb,Jc (n:=a) (by omega),Bu,Bu]
   exact Nat.succ_le_succ (ih _ (Ir (EX hb) (by decide)) _ (Nat.div_le_div_right h))
theorem XP {a b:Nat}(h:(Ae a).length<(Ae b).length):a<b:=by
 rcases BE a b with h1|h1
 ·exact h1
 ·have:=Ja b a h1;omega
theorem O9 {l:List Nat}{k a:Nat}(h:l[k]?=some a):AQ l=AQ (l.take k)+RB^k*(a+RB*AQ (l.drop (k+1))):=by
 have hk:k<l.length:=(BS.1 h).1
 conv=>lhs;rw[<-Fq k l]
 rw[J9,Bc,Fp (by omega)]
 have:l.drop k=a::l.drop (k+1):=by
  rw[Et hk]
  congr 1
  exact(BS.1 h).2
 rw[this,AQ]
theorem XY {l m:List Nat}{k a b:Nat}(hl:Rd l)(ha:l[k]?=some a)(hb:m[k]?=some b)(hd:l.drop (k+1)=m.drop (k+1))(hab:a<b):AQ l<AQ m:=by
 have hk:k<l.length:=(BS.1 ha).1;rw[O9 ha,O9 hb,hd];have h1:=Gz (hl.take k);rw[Bc,Fp (by omega)]at h1;generalize AQ (m.drop (k+1))=r;have h2:RB^k*(a+RB*r)+RB^k<=RB^k*(b+RB*r):=by
  rw[<-Nat.mul_succ];exact Cy _ (by omega)
 omega
theorem Hw {l:List Nat}{i a:Nat}(hi:l.length=i):AQ (l++[a])=AQ l+RB^i*a:=by rw[J9,hi];simp[AQ]
theorem Rd.set {l:List Nat}(h:Rd l){i a:Nat}(ha:a<RB):Rd (l.set i a):=λb hb=>by
 rcases NC hb with h1|rfl
 ·exact h b h1
 ·exact ha
theorem Tv (n:Nat):Rd (List.replicate n 0):=λa ha=>by rw[QT ha];decide
theorem O5:∀ {l:List Nat} {k o d:Nat},l[k]?=some o->AQ (l.set k d)+RB^k*o=AQ l+RB^k*d
 |a::l,0,o,d,h=>by
  simp only[TR,BP]at h;subst h;simp only[List.set_cons_zero,AQ,NF,J4];omega
 |a::l,k+1,o,d,h=>by
  simp only[Kq]at h;have ih:=O5 (d:=d) h;simp only[List.set_cons_succ,AQ];have h1:RB^(k+1)*o=RB*(RB^k*o):=by rw[CZ,Ba (RB^k) RB,B4]
  have h2:RB^(k+1)*d=RB*(RB^k*d):=by rw[CZ,Ba (RB^k) RB,B4]
  have h3:RB*AQ (l.set k d)+RB*(RB^k*o)=RB*AQ l+RB*(RB^k*d):=by rw[<-BQ,<-BQ,ih]
  omega
theorem MC {n k:Nat}(h:n<RB^k):(Ae n).length<=k:=by
 induction k generalizing n with
 |zero=>
  have:n=0:=by simpa using h
  subst this;rw[HP];exact Ar _
 |succ k ih=>
  by_cases h0:n=0
  ·subst h0;rw[HP];exact BW _
  ·rw[Jc h0,Bu]
   exact Nat.succ_le_succ (ih (Fr (by rw[Ba,<-CZ];exact h)))
theorem Jd (n:Nat):n<RB^(Ae n).length:=by
 have:=Gz (FK n)
 rwa [Ea]at this
theorem Xg (a b:Nat):(Ae (a+b)).length<=max (Ae a).length (Ae b).length+1:=by
 refine MC ?_;have h1:=Jd a;have h2:=Jd b;have m1:RB^(Ae a).length<=RB^max (Ae a).length (Ae b).length:=GK (by decide) (Nat.le_max_left _ _);have m2:RB^(Ae b).length<=RB^max (Ae a).length (Ae b).length:=GK (by decide) (Nat.le_max_right _ _);rw[CZ];generalize RB^max (Ae a).length (Ae b).length=q at*;unfold RB;omega
theorem Xh (a b:Nat):(Ae (a-b)).length<=(Ae a).length:=Ja _ _ (Nat.sub_le _ _)
theorem Tr (a b:Nat):(Ae (a*b)).length<=(Ae a).length+(Ae b).length:=by
 refine MC ?_;rw[Gq];exact Nat.mul_lt_mul'' (Jd a) (Jd b)
theorem Qv {n:Nat}(h0:n≠0)(h:n<RB):Ae n=[n]:=by
 rw[Jc h0,Ft h,IL h,HP]
theorem V5 {l:List Nat}{k a:Nat}(hl:l.length=k+1)(ha:l[k]?=some a):AQ l=AQ (l.take k)+RB^k*a:=by
 rw[O9 ha,IJ (by omega)];simp[AQ]
theorem yA {l:List Nat}{k a b:Nat}(hl:l.length=k+2)(ha:l[k]?=some a)(hb:l[k+1]?=some b):AQ l=AQ (l.take k)+RB^k*(a+RB*b):=by
 rw[O9 ha]
 have:l.drop (k+1)=[b]:=by
  rw[Et (by omega),IJ (by omega)]
  congr 1
  exact(BS.1 hb).2
 rw[this];simp[AQ]
theorem yB {l:List Nat}{k a b c:Nat}(hl:l.length=k+3)(ha:l[k]?=some a)(hb:l[k+1]?=some b)(hc:l[k+2]?=some c):AQ l=AQ (l.take k)+RB^k*(a+RB*(b+RB*c)):=by
 rw[O9 ha];have h1:=V5 (l:=l.drop (k+1)) (k:=1) (a:=c) (by rw[D8];omega) (by rw[HI,FD];exact hc);have h2:(l.drop (k+1)).take 1=[b]:=by
  rw[Et (by omega)];simp only[List.take_succ_cons,NE]
  congr 1
  exact(BS.1 hb).2
 rw[h1,h2];simp[AQ]
structure Ld (P v:List Nat)(m p0 p1 p2 v2 v1:Nat):Prop where
 lP:P.length=m+3
 lv:v.length=m+2
 wP:Rd P
 wv:Rd v
 h0:P[m]?=some p0
 h1:P[m+1]?=some p1
 h2:P[m+2]?=some p2
 g2:v[m]?=some v2
 g1:v[m+1]?=some v1
 top:0<v1
 less:AQ P<AQ v*RB
namespace Ld
variable {P v:List Nat} {m p0 p1 p2 v2 v1:Nat} (S:Ld P v m p0 p1 p2 v2 v1)
include S
theorem valP:AQ P=AQ (P.take m)+RB^m*(p0+RB*(p1+RB*p2)):=yB S.lP S.h0 S.h1 S.h2
theorem valv:AQ v=AQ (v.take m)+RB^m*(v2+RB*v1):=yA S.lv S.g2 S.g1
theorem lowP:AQ (P.take m)<RB^m:=by
 have:=Gz (S.wP.take m)
 rwa [Bc,Fp (by have:=S.lP;omega)]at this
theorem lowv:AQ (v.take m)<RB^m:=by
 have:=Gz (S.wv.take m)
 rwa [Bc,Fp (by have:=S.lv;omega)]at this
theorem p0l:p0<RB:=S.wP _ (Ax S.h0)
theorem p1l:p1<RB:=S.wP _ (Ax S.h1)
theorem p2l:p2<RB:=S.wP _ (Ax S.h2)
theorem v1l:v1<RB:=S.wv _ (Ax S.g1)
theorem v2l:v2<RB:=S.wv _ (Ax S.g2)
theorem below3:AQ P<(p0+RB*(p1+RB*p2)+1)*RB^m:=by
 rw[S.valP,Bz,J4,Ba (RB^m)]
 have:=S.lowP
 omega
theorem below2:AQ P<(p1+RB*p2+1)*RB^(m+1):=by
 have h:=S.below3;have h1:=S.p0l;generalize p1+RB*p2=t at*;have h2:(p0+RB*t+1)*RB^m<=(RB*(t+1))*RB^m:=CV _ (by rw[BQ RB t 1];omega);have h3:(t+1)*RB^(m+1)=(RB*(t+1))*RB^m:=by rw[CZ,Ba (RB^m) RB,<-B4,Ba (t+1) RB]
 omega
theorem abovev:v1*RB^(m+1)<=AQ v:=by
 rw[S.valv,CZ,BQ]
 have:v1*(RB^m*RB)=RB^m*(RB*v1):=by rw[Ba v1,B4]
 omega
theorem abovev2:(v2+RB*v1)*RB^m<=AQ v:=by
 rw[S.valv,Ba];omega
theorem pos:0<AQ v:=Co (IK S.top (Nat.pow_pos (by decide))) S.abovev
theorem p2v1:p2<=v1:=by
 rcases BE v1 p2 with h|h
 ·exfalso
  have e1:RB^(m+2)*p2<=AQ P:=by
   rw[S.valP,BQ,BQ,BQ]
   have:RB^(m+2)*p2=RB^m*(RB*(RB*p2)):=by rw[CZ,CZ,B4,B4]
   omega
  have e2:AQ v<RB^(m+1)*(v1+1):=by
   have h1:=S.lowv;have h2:=S.v2l;have e3:RB^(m+1)*(v1+1)=RB^m*(RB*v1+RB):=by rw[CZ,B4,BQ,Ej]
   have e4:RB^m*(v2+RB*v1+1)<=RB^m*(RB*v1+RB):=Cy _ (by omega);rw[BQ _ _ 1,Ej]at e4;rw[S.valv,e3];omega
  have e5:RB^(m+1)*(v1+1)*RB=RB^(m+2)*(v1+1):=by rw[Nat.mul_right_comm,<-CZ]
  have e6:RB^(m+2)*(v1+1)<=RB^(m+2)*p2:=Cy _ h;have e7:(AQ v)*RB<=RB^(m+1)*(v1+1)*RB:=CV _ (Kt e2)
  have:=S.less
  omega
 ·exact h
end Ld
theorem j9 {A P v:List Nat}{q i z x d b c b' c' lo:Nat}(hz:A[i]?=some z)(hx:v[i]?=some x)(hI:AQ A+q*AQ (v.take i)=AQ P+RB^i*(c+b))
  (h1:lo+RB*c'=q*x+c) (h2:d+lo+b=z+RB*b'):AQ (A.set i d)+q*AQ (v.take (i+1))=AQ P+RB^(i+1)*(c'+b'):=by
 have hs:=O5 (d:=d) hz;have hi:i<v.length:=(BS.1 hx).1;rw[Fy hx,Hw (i:=i) (by rw[Bc];omega),BQ,JR q,CZ,B4];have e:RB^i*(d+q*x+(c+b))=RB^i*(z+RB*(c'+b')):=by congr 1;rw[BQ RB];omega
 rw[BQ,BQ,BQ (RB^i) z]at e;omega
theorem j8 {A P v:List Nat}{i z x c:Nat}(hz:A[i]?=some z)(hx:v[i]?=some x)(hI:AQ A+RB^i*c=AQ P+AQ (v.take i)):
  AQ (A.set i ((z+x+c)%RB))+RB^(i+1)*((z+x+c)/RB)=AQ P+AQ (v.take (i+1)):=by
 have hs:=O5 (d:=(z+x+c)%RB) hz;have hi:i<v.length:=(BS.1 hx).1;rw[Fy hx,Hw (i:=i) (by rw[Bc];omega),CZ,B4];have e:RB^i*((z+x+c)%RB+RB*((z+x+c)/RB))=RB^i*(z+x+c):=by rw[FU]
 rw[BQ,BQ,BQ (RB^i) z]at e;omega
theorem kP {n k:Nat}(h1:RB^k<=n)(h2:n<RB^(k+1)):(Ae n).length=k+1:=by
 have h3:=MC h2;have h4:=Dy h1 (Jd n);have h5:=(Nat.pow_lt_pow_iff_right (show 1<RB by decide)).1 h4;omega
theorem Qw:∀(n:Nat) {k a:Nat},(Ae n).length=k+1->(Ae n)[k]?=some a->a≠0:=λn=>by
 induction n using Nat.strongRecOn with
 |ind n ih=>
  intro k a h1 h2
  by_cases h0:n=0
  ·subst h0;rw[HP]at h1;cases h1
  ·rw[Jc h0]at h1 h2
   rw[Bu]at h1;have h3:=Nat.succ.inj h1;cases k with
   |zero=>
    have h4:Ae (n/RB)=[]:=FB h3;have h5:n/RB=0:=by rw[<-Ea (n/RB),h4];rfl
    have h6:=FU n RB;rw[h5]at h6;simp at h2;intro h7;subst h7;rw[h2]at h6;omega
   |succ k=>
    rw[Kq]at h2;exact ih _ (Ir (EX h0) (by decide)) h3 h2
theorem Tu {n k:Nat}(h:(Ae n).length=k+1):RB^k<=n:=by
 obtain⟨a,ha⟩:=Cf (l:=Ae n) (i:=k) (by omega);have h1:=Qw n h ha;have h2:=V5 h ha;rw[Ea]at h2;have h3:=Cy (RB^k) (show 1<=a by omega);omega
theorem Q0 {l:List Nat}{j a:Nat}(h:l[j]?=some a):AQ (l.drop j)=a+RB*AQ (l.drop (j+1)):=by
 have hj:j<l.length:=(BS.1 h).1;rw[Et hj,(BS.1 h).2];rfl
theorem jn {a q:List Nat}{j x b rest:Nat}(hb:0<b)(hx:a[j]?=some x)(hj:j<q.length)(hI:AQ (q.drop (j+1))*b+rest=AQ (a.drop (j+1))):
  AQ ((q.set j ((rest*RB+x)/b)).drop j)*b+(rest*RB+x)%b=AQ (a.drop j)/\(rest*RB+x)%b<b:=by
 refine⟨?_,B7 _ hb⟩;rw[RU hj,Q0 hx,<-hI,AQ];have e:=FF (rest*RB+x) b;rw[Bz,BQ RB,B4 RB,Ba RB rest,Ba _ b];omega
structure Mz (X:Nat)(v U q:List Nat)(lu lq k:Nat):Prop where
 lU:U.length=lu
 lQ:q.length=lq
 wU:Rd U
 wq:Rd q
 val:RB^k*AQ (q.drop k)*AQ v+AQ U=X
 less:AQ (U.drop k)<AQ v
theorem kq {X:Nat}{v U q:List Nat}{lu lq j m:Nat}(I:Mz X v U q lu lq (j+1))(hv:v.length=m+2)(wv:Rd v)(v1 v2:Nat)(h2:v[m]?=some v2)(h1:v[m+1]?=some v1)(ht:0<v1)(hj:j+(m+3)<=lu):
  ∃p0 p1 p2,Ld ((U.drop j).take (m+3)) v m p0 p1 p2 v2 v1/\AQ (U.drop (j+(m+3)))=0/\AQ ((U.drop j).take (m+3))=AQ (U.drop j):=by
 obtain⟨lU,lQ,wU,wq,val,less⟩:=I;obtain⟨x,hx⟩:=Cf (l:=U) (i:=j) (by omega);have hxl:=wU x (Ax hx);have e1:=Q0 hx;have hlt:AQ (U.drop j)<AQ v*RB:=by
  have:RB*(AQ (U.drop (j+1))+1)<=RB*AQ v:=Cy _ less
  rw[BQ,Ba RB (AQ v)]at this;omega
 have hPl:((U.drop j).take (m+3)).length=m+3:=by rw[Bc,D8];omega
 have e2:AQ (U.drop j)=AQ ((U.drop j).take (m+3))+RB^(m+3)*AQ (U.drop (j+(m+3))):=by
  conv=>lhs;rw[<-Fq (m+3) (U.drop j)]
  rw[J9,hPl,List.drop_drop]
 have hvl:=Gz wv;rw[hv]at hvl;have hz:AQ (U.drop (j+(m+3)))=0:=by
  rcases D7 (AQ (U.drop (j+(m+3))))with h|h
  ·exact h
  ·exfalso
   have e3:RB^(m+3)*1<=RB^(m+3)*AQ (U.drop (j+(m+3))):=Cy _ h;have e4:AQ v*RB<=RB^(m+2)*RB:=CV _ (Kt hvl);have e5:RB^(m+2)*RB=RB^(m+3):=(CZ RB (m+2)).symm;rw[e5]at e4;omega
 rw[hz,FE,Dv]at e2;obtain⟨p0,h0⟩:=Cf (l:=(U.drop j).take (m+3)) (i:=m) (by omega);obtain⟨p1,h3⟩:=Cf (l:=(U.drop j).take (m+3)) (i:=m+1) (by omega);obtain⟨p2,h4⟩:=Cf (l:=(U.drop j).take (m+3)) (i:=m+2) (by omega);exact⟨p0,p1,p2,⟨hPl,hv,λa ha=>wU a (Kv (GJ ha)),wv,h0,h3,h4,h2,h1,ht,by rw[<-e2];exact hlt⟩,hz,e2.symm⟩
theorem kp {X:Nat}{v U q P':List Nat}{lu lq j m:Nat}(I:Mz X v U q lu lq (j+1))(hv:0<AQ v)(hj:j+(m+3)<=lu)(hjq:j<lq)(hz:AQ (U.drop (j+(m+3)))=0)(hP:AQ ((U.drop j).take (m+3))=AQ (U.drop j))
  (h1:P'.length=m+3) (h2:Rd P') (h3:AQ P'=AQ ((U.drop j).take (m+3))%AQ v) (hd:AQ ((U.drop j).take (m+3))/AQ v<RB):
  Mz X v (U.take j++(P'++U.drop (j+(m+3)))) (q.set j (AQ ((U.drop j).take (m+3))/AQ v)) lu lq j:=by
 obtain⟨lU,lQ,wU,wq,val,less⟩:=I;have hA:(U.take j).length=j:=by rw[Bc];omega
 have e0:AQ U=AQ (U.take j)+RB^j*AQ (U.drop j):=by
  conv=>lhs;rw[<-Fq j U]
  rw[J9,hA]
 have e1:AQ (P'++U.drop (j+(m+3)))=AQ P':=by rw[J9,hz,FE,Dv]
 refine⟨?_,by rw[DK];exact lQ,?_,wq.set hd,?_,?_⟩
 ·rw[Be,Be,hA,h1,D8];omega
 ·exact Rd.append (wU.take j) (Rd.append h2 λa ha=>wU a (Kv ha))
 ·rw[RU (by omega),AQ,J9,hA,e1,h3,hP]
  rw[e0]at val;have e2:=FF (AQ (U.drop j)) (AQ v);have e3:RB^(j+1)*AQ (q.drop (j+1))*AQ v=RB^j*(RB*AQ (q.drop (j+1))*AQ v):=by
   rw[CZ,B4,B4,B4]
  rw[e3]at val;have e4:RB^j*AQ (U.drop j)=RB^j*(AQ v*(AQ (U.drop j)/AQ v))+RB^j*(AQ (U.drop j)%AQ v):=by
   rw[<-BQ,e2]
  rw[B4,Bz,BQ,Ba (AQ (U.drop j)/AQ v)];omega
 ·rw[List.drop_left' hA,e1,h3]
  exact B7 _ hv
set_option maxHeartbeats 2000000
abbrev Ag (n:Nat):D:=i64 (n:Int)
def rL (l:List Nat):D:=.sl false 1 (l.map Ag)
def rD (n:Nat):D:=rL (Ae n)
theorem PV (l:List Nat):CE (rL l):=.sl λe he d hd=>by
 obtain⟨a,_,rfl⟩:=Bx.1 he;simp only[D.cells,A8,Dq,or_false]at hd;subst hd;exact .prim _
instance  (l:List Nat):AA (rL l):=⟨PV l⟩
instance  (n:Nat):AA (rD n):=⟨PV _⟩
theorem EH {l:List Nat}{i a:Nat}(h:l[i]?=some a):(l.map Ag)[i]?=some (Ag a):=by rw[Ay,h];rfl
theorem Nz {l:List Nat}{i a:Nat}:(l.map Ag).set i (Ag a)=(l.set i a).map Ag:=List.map_set.symm
theorem zH (c:Nat):((c:Int)==0)=decide (c=0):=by rw[GU,ED,decide_eq_true_iff];omega
theorem VM (m:List Nat):AQ (m++[0])=AQ m:=by rw[Hw rfl];simp
theorem au {m:List Nat}{c:Nat}(h:Rd (m++[c]))(hc:c≠0):Ae (AQ (m++[c]))=m++[c]:=Xi h λa ha=>by
 rw[List.getLast?_append]at ha;simp at ha;rw[<-ha];exact hc
theorem Ml (l:List Nat)(h:Rd l)(hlen:l.length<4000000000):AL C0 264 [rL l] (rD (AQ l)):=by
 refine Af.walk w1 ce rfl λF=>?_
 unfold rL;refine sR 0 ?_;refine AC.seq ?_;refine AC.block ?_;refine AC.loop (α:=List Nat×Nat) (λp=>⟨[(0,.sl false 1 (p.1.map Ag))],[],p.2⟩) (λp=>p.1.length)
  (λp=>AQ p.1=AQ l/\Rd p.1/\p.1.length<=l.length) (l,_) ⟨rfl,h,Ar _⟩ AK ?_
 rintro⟨m,n⟩ F ⟨h1,h2,h3⟩;dsimp only at h1 h2 h3⊢;refine AC.seq ?_;refine AC.seq ?_;rcases TT m with rfl|⟨m,c,rfl⟩
 ·have e1:decide (((0:Nat):Int)>0)=false:=rfl
  refine As 100 ?_;refine AX e1 ?_;refine AG e1 ?_;refine AO ?_;refine CG ?_;refine sR 300 ?_;refine Aj ?_;refine AM (d0:=rL []) ?_ AA.out;rw[<-h1];unfold rD;rw[show AQ []=0 from rfl,HP]
 ·rw[TS]at h1 h2 h3⊢
  have el:((((m++[c]).map Ag).length:Nat):Int)=((m.length+1:Nat):Int):=by rw[Ab,Be];rfl
  rw[Be,HN]at h3;have e1:decide (((m.length+1:Nat):Int)>0)=true:=BR;have wk:IntKind.i64.wrap (((m.length+1:Nat):Int)-1)=(m.length:Int):=by rw[wI];omega
  have wraw:IntKind.i64.wrap (((((m++[c]).map Ag).length:Nat):Int)-1)=(m.length:Int):=by rw[el,wk]
  have hx:((m++[c]).map Ag)[m.length]?=some (Ag c):=EH (by simp);have ec:=zH c;refine As 100 ?_;refine AX (Aa el e1) ?_;refine AG (CS e1 wraw el wk kN) ?_;refine By e1 hx ?_;refine AG (CS e1 wraw el wk ec) ?_
  by_cases hc:c=0
  ·rw[Aw hc]
   subst hc;have e4:List.take (m.length-0) (List.drop 0 ((m++[0]).map Ag))=m.map Ag:=by simp
   have e5:List.take m.length ((m++[0]).map Ag)=m.map Ag:=by simp
   rw[VM]at h1;refine AO ?_;refine An ?_;refine AC.block ?_;refine As 200 ?_;refine AX (CS el wk wraw kN e4) ?_;exact⟨(m,_),⟨h1,λa ha=>h2 a (II _ ha),by dsimp only;omega⟩,by dsimp only;rw[Be,HN];omega,AK⟩
  ·rw[Az hc]
   refine AO ?_;refine CG ?_;refine sR 300 ?_;refine Aj ?_;refine AM (d0:=rL (m++[c])) ?_ AA.out;unfold rD;rw[<-h1,au h2 hc]
theorem Ux (l:List Nat)(i:Nat)(hlen:l.length<4000000000)(hi:i<4000000000):AL C0 266 [rL l,Ag i] (Ag (l.getD i 0)):=by
 refine Af.walk w1 wJ rfl λF=>?_
 unfold rL;have el:(((l.map Ag).length:Nat):Int)=(l.length:Int):=by rw[Ab]
 refine sR 0 ?_;refine AC.seq ?_;refine AC.seq ?_
 by_cases h:i<l.length
 ·have e1:decide ((i:Int)<(l.length:Int))=true:=BR
  obtain⟨a,ha⟩:=Cf h;have hx:=EH ha;have eg:l.getD i 0=a:=by rw[EK,ha];rfl
  rw[eg];refine As 100 ?_;refine AX (Aa el e1) ?_;refine AO ?_;refine sZ 200 ?_;refine AG kN ?_;refine By kT hx ?_;refine AG kN ?_;refine Aj ?_;exact AM rfl AA.out
 ·have e1:decide ((i:Int)<(l.length:Int))=false:=Bd
  have eg:l.getD i 0=0:=by rw[EK,D6 (by omega)];rfl
  rw[eg];refine As 100 ?_;refine AX (Aa el e1) ?_;refine AO ?_;refine An ?_;refine sR 300 ?_;refine Aj ?_;exact AM rfl AA.out
theorem Si (a b:Nat)(ha:(Ae a).length<4000000000)(hb:(Ae b).length<4000000000):AL C0 236 [rD a,rD b] (i64 (EQ a b)):=by
 refine Af.walk w1 us rfl λF=>?_
 have hwa:=FK a;have hwb:=FK b;have va:=Ea a;have vb:=Ea b;have hlt:=@XP a b;have hgt:=@XP b a;unfold rD rL EQ;generalize Ae a=la at*;generalize Ae b=lb at*;have ea:(((la.map Ag).length:Nat):Int)=(la.length:Int):=by rw[Ab]
 have eb:(((lb.map Ag).length:Nat):Int)=(lb.length:Int):=by rw[Ab]
 refine sR 0 ?_;refine AC.seq ?_;refine sZ 100 ?_;refine AX (Aa ea eb) ?_;refine AO ?_
 (refine B1 (λh10=>?_) (λh10=>?_))<;>(try simp only[Bq,B0]at h10)<;>(try simp only[h10])
 ·have hne:la.length≠lb.length:=by
   have:(la.length:Int)≠lb.length:=by simpa using h10
   omega
  refine AC.seq ?_;refine sZ 200 ?_;refine AX (Aa ea eb) ?_;refine AO ?_
  (refine B1 (λh15=>?_) (λh15=>?_))<;>(try simp only[Bq,B0]at h15)<;>(try simp only[h15])
  ·have h1:la.length<lb.length:=by
    have:(la.length:Int)<lb.length:=by simpa using h15
    omega
   rw[AI (by have:=hlt h1;omega)];refine sR 300 ?_;refine Aj ?_;exact AM rfl AA.out
  ·have h1:lb.length<la.length:=by
    have:¬(la.length:Int)<lb.length:=by simpa using h15
    omega
   have h2:=hgt h1;rw[CP,DQ];refine An ?_;refine sR 400 ?_;refine Aj ?_;exact AM rfl AA.out
 ·have hl:la.length=lb.length:=by
   have:(la.length:Int)=lb.length:=by simpa using h10
   omega
  clear hlt hgt;refine An ?_;refine AC.seq ?_;refine sZ 500 ?_;refine AX ea ?_;refine AC.block ?_;have w0:IntKind.i64.wrap ((la.length:Int)-1)=(la.length:Int)-1:=wI;rw[w0];refine AC.loop (α:=Nat×Nat) (λp=>⟨[(0,.sl false 1 (la.map Ag)),(1,.sl false 1 (lb.map Ag)),(5,i64 ((p.1:Int)-1))],[],p.2⟩) (λp=>p.1)
   (λp=>p.1<=la.length/\la.drop p.1=lb.drop p.1) (la.length,_) ⟨Ar _,by rw[JS,hl,JS]⟩ AK ?_
  rintro⟨k,m⟩ F ⟨h1,h2⟩;dsimp only at h1 h2⊢;refine AC.seq ?_;refine sR 600 ?_;refine AO ?_
  (refine B1 (λh20=>?_) (λh20=>?_))<;>(try simp only[Bq,B0]at h20)<;>(try simp only[h20])
  ·obtain⟨j,rfl⟩:∃j,k=j+1:=⟨k-1,by
    have:(k:Int)-1>=0:=by simpa using h20
    omega⟩
   have wj:((j+1:Nat):Int)-1=(j:Int):=by omega
   obtain⟨x,hx⟩:∃x,la[j]?=some x:=⟨la[j],Ce⟩
   obtain⟨y,hy⟩:∃y,lb[j]?=some y:=⟨lb[j],Ce⟩
   have hx':=EH hx;have hy':=EH hy;rw[wj];refine An ?_;refine AC.seq ?_;refine AC.block ?_;refine AC.seq ?_;refine AC.seq ?_;refine CN 800 [0,1,2,3,4,5,6,7] [8] ?_;refine AG kN ?_;refine By kT hx' ?_;refine AG kN ?_;refine By kT hy' ?_;refine AG kN ?_;refine AG kN ?_;refine AO ?_
   (refine B1 (λh31=>?_) (λh31=>?_))<;>(try simp only[Bq,B0]at h31)<;>(try simp only[h31])
   ·have hxy:x<y:=by
     have:=DN h31
     omega
    have:=XY hwa hx hy h2 hxy
    rw[DQ];refine sR 900 ?_;refine Aj ?_;exact AM rfl AA.out
   ·have hxy0:¬x<y:=by
     have:=Do h31
     omega
    refine An ?_;refine AC.seq ?_;refine CN 1000 [0,1,2,3,4,5,6,7] [8] ?_;refine AG kN ?_;refine By kT hx' ?_;refine AG kN ?_;refine By kT hy' ?_;refine AG kN ?_;refine AG kN ?_;refine AO ?_
    (refine B1 (λh40=>?_) (λh40=>?_))<;>(try simp only[Bq,B0]at h40)<;>(try simp only[h40])
    ·have hxy:y<x:=by
      have:=DN h40
      omega
     have:=XY hwb hy hx h2.symm hxy
     rw[CP,DQ];refine sR 1100 ?_;refine Aj ?_;exact AM rfl AA.out
    ·have hxy:x=y:=by
      have:=Do h40
      omega
     subst hxy;have w5:IntKind.i64.wrap ((j:Int)-1)=(j:Int)-1:=wI;refine An ?_;refine As 700 ?_;refine AX w5 ?_;have hj:=(BS.1 hx)
     have hj':=(BS.1 hy)
     refine⟨(j,_),⟨by dsimp only;omega,?_⟩,by dsimp only;omega,AK⟩;dsimp only;rw[Et hj.1,Et hj'.1,hj.2,hj'.2,h2]
  ·have hk:k=0:=by
    have:¬((k:Int)-1>=0):=by simpa using h20
    omega
   subst hk;have hab:a=b:=by
    rw[<-va,<-vb]
    have:la=lb:=by simpa using h2
    rw[this]
   subst hab;rw[CP,CP];refine CG ?_;refine sR 1200 ?_;refine Aj ?_;exact AM rfl AA.out
theorem Ts (l:List Nat)(i:Nat):AQ (l.take (i+1))=AQ (l.take i)+RB^i*l.getD i 0:=by
 by_cases h:i<l.length
 ·obtain⟨a,ha⟩:=Cf h
  rw[Fy ha,Hw (i:=i) (by rw[Bc];omega),EK,ha];rfl
 ·rw[Gw,Gw,EK,D6 (by omega)]
  simp
theorem UF {l:List Nat}(h:Rd l)(i:Nat):l.getD i 0<RB:=by
 by_cases hi:i<l.length
 ·obtain⟨a,ha⟩:=Cf hi
  rw[EK,ha];exact h a (Ax ha)
 ·rw[EK,D6 (by omega)];decide
theorem Yg (l:List Nat)(i:Nat):AQ (l.take i)<=AQ l:=by
 conv=>rhs;rw[<-Fq i l]
 rw[J9];exact Nat.le_add_right _ _
theorem YP {a i:Nat}(h:i<(Ae a).length):RB^i<=a:=by
 obtain⟨k,hk⟩:∃k,(Ae a).length=k+1:=⟨(Ae a).length-1,by omega⟩
 exact BY (GK (by decide) (by omega)) (Tu hk)
structure Ph (a b:Nat)(i c:Nat)(out:List Nat):Prop where
 len:out.length=i
 wd:Rd out
 c1:c<=1
 val:AQ out+RB^i*c=AQ ((Ae a).take i)+AQ ((Ae b).take i)
 can:i=0\/RB^(i-1)<=a+b
theorem nh {a b i c:Nat}{out:List Nat}(I:Ph a b i c out)(h:i<(Ae a).length\/i<(Ae b).length\/0<c):
  Ph a b (i+1) (((Ae a).getD i 0+(Ae b).getD i 0+c)/RB) (out++[((Ae a).getD i 0+(Ae b).getD i 0+c)%RB])/\(Ae a).getD i 0+(Ae b).getD i 0+c<2*RB:=by
 obtain⟨len,wd,c1,val,can⟩:=I;have h1:=UF (FK a) i;have h2:=UF (FK b) i;have hs:(Ae a).getD i 0+(Ae b).getD i 0+c<2*RB:=by omega
 have e1:=Ts (Ae a) i;have e2:=Ts (Ae b) i;have ta:=Yg (Ae a) i;have tb:=Yg (Ae b) i;rw[Ea]at ta tb;refine⟨⟨by rw[Be,len];rfl,Rd.append wd λx hx=>?_,?_,?_,.inr ?_⟩,hs⟩
 ·simp only[A8,Dq,or_false]at hx
  subst hx;exact B7 _ (by decide)
 ·exact Of (Fr (by rw[Ba];exact hs))
 ·rw[Hw len,e1,e2,CZ,B4]
  have e:=FU ((Ae a).getD i 0+(Ae b).getD i 0+c) RB;generalize(Ae a).getD i 0=p at*;generalize(Ae b).getD i 0=q at*;have e3:RB^i*((p+q+c)%RB+RB*((p+q+c)/RB))=RB^i*(p+q+c):=by rw[e]
  rw[BQ,BQ,BQ (RB^i) p]at e3;omega
 ·rw[JP]
  rcases h with h|h|h
  ·have:=YP h;omega
  ·have:=YP h;omega
  ·have hc:c=1:=by omega
   subst hc;rw[Ej]at val;omega
theorem nf {a b i:Nat}{out:List Nat}(I:Ph a b i 0 out)(h1:¬i<(Ae a).length)(h2:¬i<(Ae b).length):out=Ae (a+b):=by
 obtain⟨len,wd,c1,val,can⟩:=I;rw[Gw,Gw,Ea,Ea,FE,Dv]at val;rcases TT out with rfl|⟨m,c,rfl⟩
 ·rw[<-val];unfold Ae;rfl
 ·rw[TS]at*
  rw[Be,HN]at len;have hc:c≠0:=by
   intro hc;subst hc;rcases can with h|h
   ·omega
   ·rw[VM]at val
    have:=Gz (l:=m) λx hx=>wd x (II _ hx)
    rw[show i-1=m.length by omega]at h;omega
  rw[<-val,au wd hc]
theorem yI (a b:Nat)(ha:(Ae a).length<1000000)(hb:(Ae b).length<1000000):AL C0 235 [rD a,rD b] (rD (a+b)):=by
 refine Af.walk w1 ur rfl λF=>?_
 have hT:Fz [] [] (rD a) (rD a):=.refl _;change AC C0 F none F _ ⟨Dj 0 [.sl false 1 ((Ae a).map Ag),.sl false 1 ((Ae b).map Ag)],[],0⟩ _;have ea:((((Ae a).map Ag).length:Nat):Int)=((Ae a).length:Int):=by rw[Ab]
 have eb:((((Ae b).map Ag).length:Nat):Int)=((Ae b).length:Int):=by rw[Ab]
 have I0:Ph a b 0 0 []:=⟨rfl,(λx hx=>Ak hx Dq),BW _,by simp[AQ],.inl rfl⟩
 refine sR 0 ?_;refine sR 100 ?_;refine sR 200 ?_;refine AC.seq ?_;refine sR 300 ?_;refine AC.block ?_;refine AC.loop (α:=Nat×Nat×List Nat×List D×Nat×Nat) (λp=>⟨[(0,.sl false 1 ((Ae a).map Ag)),(1,.sl false 1 ((Ae b).map Ag)),(5,EP 704 p.2.2.2.2.1 1 p.2.2.2.1),(6,Ag p.2.1),(7,Ag p.1)],EF 704 p.2.2.2.2.1 3 1 p.2.2.2.1,p.2.2.2.2.2⟩)
  (λp=>(max (Ae a).length (Ae b).length-p.1)*2+p.2.1) (λp=>Ph a b p.1 p.2.1 p.2.2.1/\p.2.2.2.1=p.2.2.1.map Ag/\p.1<=max (Ae a).length (Ae b).length+1) (0,0,[],[],0,_) ⟨I0,rfl,BW _⟩ AK ?_
 rintro⟨i,c,out,L,g,n⟩ F ⟨I,hL,hi⟩;dsimp only at I hL hi⊢;have c1:=I.c1;have hol:=I.len;refine AC.seq ?_;refine DJ (α:=Nat) (λn=>⟨[(0,.sl false 1 ((Ae a).map Ag)),(1,.sl false 1 ((Ae b).map Ag)),(5,EP 704 g 1 L),(6,Ag c),(7,Ag i),(22,Al (decide (i<(Ae a).length\/i<(Ae b).length\/0<c)))],EF 704 g 3 1 L,n⟩) (λ_=>True) ?_ ?_
 ·generalize EP 704 g 1 L=od at*
  generalize EF 704 g 3 1 L=oh at*
  by_cases h1:i<(Ae a).length
  ·have e1:decide ((i:Int)<((Ae a).length:Int))=true:=BR
   have e:decide (i<(Ae a).length\/i<(Ae b).length\/0<c)=true:=Aw (.inl h1);rw[e];refine As 400 ?_;refine AX (Aa ea e1) ?_;refine AG kT ?_;refine AG kT ?_;exact⟨trivial,_,trivial,AK⟩
  ·have e1:decide ((i:Int)<((Ae a).length:Int))=false:=Bd
   by_cases h2:i<(Ae b).length
   ·have e2:decide ((i:Int)<((Ae b).length:Int))=true:=BR
    have e:decide (i<(Ae a).length\/i<(Ae b).length\/0<c)=true:=Aw (.inr (.inl h2));rw[e];refine As 400 ?_;refine AX (Aa ea e1) ?_;refine AG kF ?_;simp only[eb,e2];refine AG kT ?_;exact⟨trivial,_,trivial,AK⟩
   ·have e2:decide ((i:Int)<((Ae b).length:Int))=false:=Bd
    have e:decide ((c:Int)>0)=decide (i<(Ae a).length\/i<(Ae b).length\/0<c):=by rw[DO];omega
    rw[<-e];refine As 400 ?_;refine AX (Aa ea e1) ?_;refine AG kF ?_;simp only[eb,e2];refine AG kF ?_;exact⟨trivial,_,trivial,AK⟩
 rintro n2 -
 by_cases h:i<(Ae a).length\/i<(Ae b).length\/0<c
 ·obtain⟨J,hs⟩:=nh I h
  have d1:=Ux (Ae a) i (by omega) (by omega);have d2:=Ux (Ae b) i (by omega) (by omega);unfold rL at d1 d2;have hmu:∀c',c'<=1->(max (Ae a).length (Ae b).length<=i->c'=0)->(max (Ae a).length (Ae b).length-(i+1))*2+c'<(max (Ae a).length (Ae b).length-i)*2+c:=λc' h1 h2=>by
   rcases BE i (max (Ae a).length (Ae b).length)with h3|h3
   ·omega
   ·have:=h2 h3;omega
  have hmu2:max (Ae a).length (Ae b).length<=i->((Ae a).getD i 0+(Ae b).getD i 0+c)/RB=0:=λh3=>by
   rw[EK,D6 (by omega),EK,D6 (by omega)];show(0+0+c)/1000000000=0;omega
  have hbnd:i<max (Ae a).length (Ae b).length+1:=by
   rcases h with h|h|h
   ·omega
   ·omega
   ·rcases BE i (max (Ae a).length (Ae b).length+1)with h3|h3
    ·exact h3
    ·exfalso
     obtain⟨len,wd,_,val,_⟩:=I;have hc:c=1:=by omega
     subst hc;rw[Gw,Gw,Ea,Ea,Ej]at val;have l1:=Jd a;have l2:=Jd b;have m1:RB^(Ae a).length<=RB^max (Ae a).length (Ae b).length:=GK (by decide) (Nat.le_max_left _ _);have m2:RB^(Ae b).length<=RB^max (Ae a).length (Ae b).length:=GK (by decide) (Nat.le_max_right _ _);have m3:RB^(max (Ae a).length (Ae b).length+1)<=RB^i:=GK (by decide) h3;rw[CZ]at m3;generalize RB^max (Ae a).length (Ae b).length=Q at*;change Q*1000000000<=_ at m3;omega
  have hmu3:=hmu _ J.c1 hmu2;rw[Aw h];generalize hp:(Ae a).getD i 0=p at*;generalize hq:(Ae b).getD i 0=q at*;have k1:IntKind.i64.wrap ((p:Int)+(q:Int))=((p+q:Nat):Int):=by rw[wI (by omega) (by unfold RB at hs;omega)];omega
  have k2:IntKind.i64.wrap (((p+q:Nat):Int)+(c:Int))=((p+q+c:Nat):Int):=by rw[wI (by omega) (by unfold RB at hs;omega)];omega
  have k3:((p+q+c:Nat):Int).tmod 1000000000=(((p+q+c)%RB:Nat):Int):=rfl;have k4:IntKind.i64.wrap (((p+q+c:Nat):Int).tdiv 1000000000)=(((p+q+c)/RB:Nat):Int):=by
   show IntKind.i64.wrap ((((p+q+c)/1000000000:Nat)):Int)=_;exact wN (by unfold RB at hs;omega)
  have wi:IntKind.i64.wrap ((i:Int)+1)=((i+1:Nat):Int):=wI;generalize(p+q+c)%RB=d at*;generalize(p+q+c)/RB=c' at*;have hlo:L.length<=1000001:=by rw[hL,Ab];omega
  have hmo:L++[Ag d]=(out++[d]).map Ag:=by rw[hL,Cz];rfl
  clear hmu hmu2 ea eb hL I;refine AO ?_;refine An ?_;refine AC.seq ?_;refine AC.block ?_;refine sR 600 ?_;refine cI d1 ?_;refine cI d2 ?_;simp only[k1,k2];refine AC.seq ?_;rcases L with _|⟨x,L⟩
  all_goals
   (try simp only[Bu]at hlo)
   dsimp only[Je,Jf,IR,IS];refine As 700 ?_;refine AX k3 ?_;refine As 800 ?_;refine AX k4 ?_;refine As 500 ?_;refine AX wi ?_
  ·exact⟨(i+1,c',out++[d],[]++[Ag d],_,_),⟨J,hmo,hbnd⟩,hmu3,AK⟩
  ·have htk:List.take (L.length+1) (x::L)=x::L:=by simp
   rw[htk];refine⟨(i+1,c',out++[d],x::L++[Ag d],_,_),⟨J,hmo,hbnd⟩,hmu3,by(dsimp only;rw[O0];exact AK)⟩
 ·rw[Az h]
  have hc:c=0:=by omega
  subst hc;have hout:=nf I (by omega) (by omega);refine AO ?_;refine CG ?_;refine sR 900 ?_;refine Aj ?_;refine⟨_,ST _ _ _ _ _,?_,?_⟩
  ·rw[hL];exact PV _
  ·rw[hL,hout];rfl
set_option maxHeartbeats 4000000
theorem y8 {env:Ap}{t K g T n:Nat}{l:List D}(he:env.get t=EP K g 1 l:=by exact rfl):Wk ⟨env,EF K g T 1 l,n⟩ ⟨[(t,.sl false 1 l)],[],n⟩:=by
 refine⟨?_,⟨?_,trivial⟩,Ar _⟩
 ·cases l with
  |nil=>exact .nil
  |cons x l=>exact .drop .nil
 ·dsimp only
  rw[he];exact ST _ _ _ _ _
theorem sC {env:Ap}{t K g n N:Nat}{z:List Nat}{T:Nat}(hl:z.length=N)(he:env.get t=.osl K g 1 0 N:=by exact rfl):Wk ⟨env,[⟨K,g,T,1,z.map Ag⟩],n⟩ ⟨[(t,.sl false 1 (z.map Ag))],[],n⟩:=by
 subst hl;refine⟨.drop .nil,⟨?_,trivial⟩,Ar _⟩;dsimp only;rw[he]
 have:=SU K g T 1 (z.map Ag)
 rwa [Ab]at this
theorem kQ {a v c:Nat}(ha:a<RB)(hv:v<RB)(hc:c<=1):∃d c',d<RB/\c'<=1/\d+v+c=a+RB*c'/\((c'=0/\(a:Int)-v-c=d)\/(c'=1/\(a:Int)-v-c<0/\(a:Int)-v-c+1000000000=d)):=by
 unfold RB at ha hv⊢
 by_cases h:a<v+c
 ·exact⟨a+1000000000-v-c,1,by omega,by omega,by omega,.inr ⟨rfl,by omega,by omega⟩⟩
 ·exact⟨a-v-c,0,by omega,by omega,by omega,.inl ⟨rfl,by omega⟩⟩
theorem iQ (a b:Nat)(hab:b<=a)(ha:(Ae a).length<1000000):AL C0 237 [rD a,rD b] (rD (a-b)):=by
 refine Af.walk w1 ut rfl λF=>?_
 change AC C0 F none F _ ⟨Dj 0 [.sl false 1 ((Ae a).map Ag),.sl false 1 ((Ae b).map Ag)],[],0⟩ _;have hlb:=Ja b a hab;have va:=Ea a;have vb:=Ea b;have wx:=FK a;have wy:=FK b;generalize Ae a=x at*;generalize Ae b=y at*;have ea:(((x.map Ag).length:Nat):Int)=(x.length:Int):=by rw[Ab]
 refine sR 0 ?_;refine sR 100 ?_;refine sR 200 ?_;refine AC.seq ?_;refine sR 300 ?_;refine AC.block ?_;refine AC.loop (α:=Nat×Nat×List Nat×List D×Nat×Nat) (λp=>⟨[(0,.sl false 1 (x.map Ag)),(1,.sl false 1 (y.map Ag)),(5,EP 1103 p.2.2.2.2.1 1 p.2.2.2.1),(6,Ag p.2.1),(7,Ag p.1)],EF 1103 p.2.2.2.2.1 3 1 p.2.2.2.1,p.2.2.2.2.2⟩)
  (λp=>x.length-p.1) (λp=>p.1<=x.length/\p.2.1<=1/\p.2.2.1.length=p.1/\Rd p.2.2.1/\AQ p.2.2.1+AQ (y.take p.1)=AQ (x.take p.1)+RB^p.1*p.2.1/\p.2.2.2.1=p.2.2.1.map Ag) (0,0,[],[],0,_) ⟨BW _,BW _,rfl,(λx hx=>Ak hx Dq),by simp[AQ],rfl⟩ AK ?_
 rintro⟨i,c,out,L,g,n⟩ F ⟨hi,hc,hol,how,hI,hL⟩;dsimp only at hi hc hol how hI hL⊢;refine AC.seq ?_;refine AC.seq ?_
 by_cases h:i<x.length
 ·have e1:decide ((i:Int)<(x.length:Int))=true:=BR
  obtain⟨p,hp⟩:=Cf h;have hx:=EH hp;have hpl:=wx p (Ax hp);have d2:=Ux y i (by omega) (by omega);unfold rL at d2;have hql:=UF wy i;have ty:=Ts y i;have tx:AQ (x.take (i+1))=AQ (x.take i)+RB^i*p:=by rw[Fy hp,Hw (i:=i) (by rw[Bc];omega)]
  generalize y.getD i 0=q at*;obtain⟨d,c',hd,hc',hdig,hcase⟩:=kQ hpl hql hc;have k1:IntKind.i64.wrap ((p:Int)-(q:Int))=(p:Int)-q:=wI (by unfold RB at*;omega) (by unfold RB at*;omega);have k2:IntKind.i64.wrap ((p:Int)-q-(c:Int))=(p:Int)-q-c:=wI (by unfold RB at*;omega) (by unfold RB at*;omega);have wi:IntKind.i64.wrap ((i:Int)+1)=((i+1:Nat):Int):=wI;have hlo:L.length<=1000001:=by rw[hL,Ab];omega
  have hmo:L++[Ag d]=(out++[d]).map Ag:=by rw[hL,Cz];rfl
  have hvn:AQ (out++[d])+AQ (y.take (i+1))=AQ (x.take (i+1))+RB^(i+1)*c':=by
   rw[Hw hol,ty,tx,CZ,B4];have e3:RB^i*(d+q+c)=RB^i*(p+RB*c'):=by rw[hdig]
   rw[BQ,BQ,BQ (RB^i) p]at e3;omega
  have how':Rd (out++[d]):=Rd.append how λx hx=>by
   simp only[A8,Dq,or_false]at hx;subst hx;exact hd
  have hol':(out++[d]).length=i+1:=by rw[Be,hol];rfl
  clear hI hL how;refine As 400 ?_;refine AX (Aa ea e1) ?_;refine AO ?_;refine An ?_;refine AC.seq ?_;refine AC.block ?_;refine AC.seq ?_;refine CN 600 [0,1,2,3,4,5,6,7,8] [9,10] ?_;refine AG kN ?_;refine By kT hx ?_;refine AG kN ?_;refine Bf.same _ d2 AJ ?_;refine AG (Aa k1 k2) ?_;refine sR 700 ?_;refine DJ (α:=Nat) (λn=>⟨[(0,.sl false 1 (x.map Ag)),(1,.sl false 1 (y.map Ag)),(5,EP 1103 g 1 L),(6,Ag c'),(7,Ag i),(8,Ag d)],EF 1103 g 3 1 L,n⟩) (λ_=>True) ?_ ?_
  ·generalize EP 1103 g 1 L=od at*
   generalize EF 1103 g 3 1 L=oh at*;refine AC.seq ?_;rcases hcase with⟨rfl,h2⟩|⟨rfl,h2,h3⟩
   ·have e2:decide ((p:Int)-q-c<0)=false:=Bd
    rw[h2]at e2;rw[h2];refine As 800 ?_;refine AX e2 ?_;refine AO ?_;refine An ?_;exact⟨rfl,_,trivial,AK⟩
   ·have e2:decide ((p:Int)-q-c<0)=true:=Aw h2
    have k3:IntKind.i64.wrap ((p:Int)-q-c+1000000000)=(d:Int):=by rw[h3];exact wI (by unfold RB at*;omega) (by unfold RB at*;omega)
    refine As 800 ?_;refine AX e2 ?_;refine AO ?_;refine sZ 900 ?_;refine AX k3 ?_;refine rI 1000 ?_;exact⟨rfl,_,trivial,AK⟩
  rintro n3 -;rcases L with _|⟨x0,L⟩
  all_goals
   (try simp only[Bu]at hlo)
   dsimp only[Je,Jf,IR,IS];refine rI 1100 ?_;refine As 500 ?_;refine AX wi ?_
  ·exact⟨(i+1,c',out++[d],[]++[Ag d],_,_),⟨h,hc',hol',how',hvn,hmo⟩,by dsimp only;omega,AK⟩
  ·have htk:List.take (L.length+1) (x0::L)=x0::L:=by simp
   rw[htk];refine⟨(i+1,c',out++[d],x0::L++[Ag d],_,_),⟨h,hc',hol',how',hvn,hmo⟩,by dsimp only;omega,by(dsimp only;rw[O0];exact AK)⟩
 ·have e1:decide ((i:Int)<(x.length:Int))=false:=Bd
  have hix:i=x.length:=by omega
  subst hix;rw[Gw,Gw,va,vb]at hI;have hlt:=Gz how;rw[hol]at hlt;have hxl:=Gz wx;rw[va]at hxl;have hov:AQ out=a-b:=by
   rcases D7 c with h|h
   ·subst h;rw[FE]at hI;omega
   ·have:c=1:=by omega
    subst this;rw[Ej]at hI;omega
  refine As 400 ?_;refine AX (Aa ea e1) ?_;refine AO ?_;refine CG ?_;refine AC.weak ⟨[(5,.sl false 1 L)],[],_⟩ y8 ?_;rw[hL];refine sR 1200 ?_;refine BF.same _ (Ml out how (by omega)) AJ ?_;refine BU ?_;refine Aj ?_;exact AM (by rw[hov]) AA.out
theorem WS (a b:Nat)(hla:(Ae a).length<1000000)(hlb:(Ae b).length<1000000):AL C0 238 [rD a,rD b] (rD (a*b)):=by
 refine Af.walk w1 uu rfl λF=>?_
 change AC C0 F none F _ ⟨Dj 0 [.sl false 1 ((Ae a).map Ag),.sl false 1 ((Ae b).map Ag)],[],0⟩ _;have va:=Ea a;have vb:=Ea b;have ha:=FK a;have hb:=FK b;generalize Ae a=x at*;generalize Ae b=y at*;subst va;subst vb;have ea:(((x.map Ag).length:Nat):Int)=(x.length:Int):=by rw[Ab]
 have eb:(((y.map Ag).length:Nat):Int)=(y.length:Int):=by rw[Ab]
 have wl:IntKind.i64.wrap ((x.length:Int)+(y.length:Int))=((x.length+y.length:Nat):Int):=by rw[wI];omega
 have r3:List.replicate (x.length+y.length) (ofV (.int .i64 0))=(List.replicate (x.length+y.length) 0).map Ag:=by rw[Kw];rfl
 refine sR 0 ?_;refine sZ 100 ?_;refine AX (Bb ea eb wl kN) ?_;refine AC.seq ?_;refine sR 200 ?_;refine AC.block ?_;refine AC.loop (α:=Nat×List Nat×Nat) (λp=>⟨[(0,.sl false 1 (x.map Ag)),(1,.sl false 1 (y.map Ag)),(5,.osl 105 6 1 0 (x.length+y.length)),(6,i64 p.1)],[⟨105,6,3,1,p.2.1.map Ag⟩],p.2.2⟩) (λp=>x.length-p.1)
  (λp=>p.1<=x.length/\p.2.1.length=x.length+y.length/\Rd p.2.1/\AQ p.2.1=AQ (x.take p.1)*AQ y/\∀k,p.1+y.length<=k->∀d,p.2.1[k]?=some d->d=0) (0,List.replicate (x.length+y.length) 0,_)
  ⟨BW _,by simp,Tv _,by simp[AQ,Xd],λk _ d hd=>QT (Ax hd)⟩ (by rw[<-r3];exact AK) ?_
 rintro⟨i,o,m⟩ F ⟨h1,h2,h3,h4,h5⟩;dsimp only at h1 h2 h3 h4 h5⊢;refine AC.seq ?_;refine AC.seq ?_
 by_cases hi:i<x.length
 ·have e1:decide ((i:Int)<(x.length:Int))=true:=BR
  obtain⟨p,hp⟩:=Cf hi;have hp':=EH hp;have hpl:p<RB:=ha p (Ax hp);have wi:IntKind.i64.wrap ((i:Int)+1)=((i+1:Nat):Int):=wI;have hax:AQ (x.take (i+1))=AQ (x.take i)+RB^i*p:=by rw[Fy hp,Hw (i:=i) (by rw[Bc];omega)]
  refine As 300 ?_;refine AX (Aa ea e1) ?_;refine AO ?_;refine An ?_;refine AC.seq ?_;refine AC.block ?_;refine sR 500 ?_;refine AC.seq ?_;refine sR 600 ?_;refine AC.block ?_;refine AC.loop (α:=Nat×Nat×List Nat×Nat) (λq=>⟨[(0,.sl false 1 (x.map Ag)),(1,.sl false 1 (y.map Ag)),(5,.osl 105 6 1 0 (x.length+y.length)),(6,i64 i),(7,Ag q.2.1),(8,i64 q.1)],[⟨105,6,3,1,q.2.2.1.map Ag⟩],q.2.2.2⟩) (λq=>y.length-q.1)
   (λq=>q.1<=y.length/\q.2.1<RB/\q.2.2.1.length=x.length+y.length/\Rd q.2.2.1/\AQ q.2.2.1+RB^(i+q.1)*q.2.1=AQ (x.take i)*AQ y+RB^i*p*AQ (y.take q.1)/\∀k,i+y.length<=k->∀d,q.2.2.1[k]?=some d->d=0) (0,0,o,_)
   ⟨BW _,(show 0<RB by decide),h2,h3,by simp[AQ,h4],h5⟩ AK ?_
  rintro⟨j,c,q,m2⟩ F ⟨g1,g2,g3,g4,g5,g6⟩;dsimp only at g1 g2 g3 g4 g5 g6⊢;clear h2 h3 h4 h5 r3 wl;refine AC.seq ?_;refine AC.seq ?_
  by_cases hj:j<y.length
  ·have e2:decide ((j:Int)<(y.length:Int))=true:=BR
   obtain⟨r,hr⟩:=Cf hj;have hr':=EH hr;have hrl:r<RB:=hb r (Ax hr);obtain⟨z,hz⟩:=Cf (l:=q) (i:=i+j) (by omega);have hz':=EH hz;have hzl:z<RB:=g4 z (Ax hz);have wj:IntKind.i64.wrap ((j:Int)+1)=((j+1:Nat):Int):=wI;have wij:IntKind.i64.wrap ((i:Int)+(j:Int))=((i+j:Nat):Int):=by rw[wI];omega
   have hbx:AQ (y.take (j+1))=AQ (y.take j)+RB^j*r:=by rw[Fy hr,Hw (i:=j) (by rw[Bc];omega)]
   have hpr:p*r<=999999999*999999999:=JU (by unfold RB at hpl;omega) (by unfold RB at hrl;omega);have k0:IntKind.i64.wrap ((p:Int)*(r:Int))=((p*r:Nat):Int):=by rw[<-Gm,wI]
   have k1:IntKind.i64.wrap ((z:Int)+((p*r:Nat):Int))=((z+p*r:Nat):Int):=by rw[wI (by omega) (by unfold RB at*;omega)];omega
   have k2:IntKind.i64.wrap (((z+p*r:Nat):Int)+(c:Int))=((z+p*r+c:Nat):Int):=by rw[wI (by omega) (by unfold RB at*;omega)];omega
   have hs:=O5 (d:=(z+p*r+c)%RB) hz;have e:=FU (z+p*r+c) RB;have hq:(z+p*r+c)/RB<RB:=Fr (by unfold RB at*;omega);have hd:(z+p*r+c)%RB<RB:=B7 _ (by decide);have k3:((z+p*r+c:Nat):Int).tmod 1000000000=(((z+p*r+c)%RB:Nat):Int):=rfl;have k4:IntKind.i64.wrap (((z+p*r+c:Nat):Int).tdiv 1000000000)=(((z+p*r+c)/RB:Nat):Int):=by
    show IntKind.i64.wrap ((((z+p*r+c)/1000000000:Nat)):Int)=_;exact wN (by change(z+p*r+c)/RB<=_;unfold RB at hq⊢;omega)
   have hval:AQ (q.set (i+j) ((z+p*r+c)%RB))+RB^(i+(j+1))*((z+p*r+c)/RB)=AQ (x.take i)*AQ y+RB^i*p*AQ (y.take (j+1)):=by
    rw[hbx,BQ,<-FD (AQ (x.take i)*AQ y),<-g5];have h6:RB^(i+j)*((z+p*r+c)%RB)+RB^(i+(j+1))*((z+p*r+c)/RB)=RB^i*p*(RB^j*r)+RB^(i+j)*z+RB^(i+j)*c:=by
     have:RB^i*p*(RB^j*r)=RB^(i+j)*(p*r):=by
      rw[Gq,B4,B4,JR p]
     rw[this,<-FD i j 1,CZ,B4,<-BQ,<-BQ,<-BQ,e]
     congr 1;omega
    omega
   generalize(z+p*r+c)%RB=d at*;generalize(z+p*r+c)/RB=c' at*;clear hs e g5 hax hbx;refine As 700 ?_;refine AX (Aa eb e2) ?_;refine AO ?_;refine An ?_;refine AC.seq ?_;refine AC.block ?_;refine AC.seq ?_;refine CN 900 [0,1,2,3,4,5,6,7,8,9,10,11,12,13,14,15,16] [17,18] ?_;refine AG (Bb wij kN BV hz') ?_;refine By kT hp' ?_;refine AG (Bb wij kN BV hz') ?_;refine By kT hr' ?_;refine AG (Ao k0 k1 k2) ?_;refine sZ 1000 ?_;refine AG (CS wij kN BV hz' k3) ?_;rw[Nz];refine As 1100 ?_;refine AX k4 ?_;refine As 800 ?_;refine AX wj ?_;refine⟨(j+1,c',q.set (i+j) d,_),⟨hj,hq,by dsimp only;rw[DK];exact g3,g4.set hd,hval,λk hk d hd=>?_⟩,by dsimp only;omega,AK⟩;dsimp only at hk hd;rw[JO (by omega)]at hd;exact g6 k hk d hd
  ·have e2:decide ((j:Int)<(y.length:Int))=false:=Bd
   have hj:j=y.length:=by omega
   subst hj;obtain⟨z,hz⟩:=Cf (l:=q) (i:=i+y.length) (by omega);have hz0:z=0:=g6 _ (Ar _) _ hz;subst hz0;have hz':=EH hz;have wij:IntKind.i64.wrap ((i:Int)+(y.length:Int))=((i+y.length:Nat):Int):=by rw[wI];omega
   have wij0:IntKind.i64.wrap ((i:Int)+(((y.map Ag).length:Nat):Int))=((i+y.length:Nat):Int):=by rw[eb];exact wij
   have k1:IntKind.i64.wrap (((0:Nat):Int)+(c:Int))=(c:Int):=by rw[wI (by omega) (by unfold RB at*;omega)];omega
   have hs:=O5 (d:=c) hz;rw[Cn (Ar _)]at g5;have hval:AQ (q.set (i+y.length) c)=AQ (x.take (i+1))*AQ y:=by
    rw[hax,Bz];omega
   clear hs g5 hax;refine As 700 ?_;refine AX (Aa eb e2) ?_;refine AO ?_;refine CG ?_;refine As 1200 ?_;refine AG (D9 eb wij kN BV hz' k1) ?_;rw[Nz];refine As 400 ?_;refine AX wi ?_;refine⟨(i+1,q.set (i+y.length) c,_),⟨hi,by dsimp only;rw[DK];exact g3,g4.set g2,hval,λk hk d hd=>?_⟩,by dsimp only;omega,AK⟩;dsimp only at hk hd;rw[JO (by omega)]at hd;exact g6 k (by omega) d hd
 ·have e1:decide ((i:Int)<(x.length:Int))=false:=Bd
  have hi:i=x.length:=by omega
  subst hi;rw[Cn (Ar _)]at h4;refine As 300 ?_;refine AX (Aa ea e1) ?_;refine AO ?_;refine CG ?_;refine AC.weak ⟨[(5,.sl false 1 (o.map Ag))],[],_⟩ (sC h2) ?_;refine sR 1300 ?_;refine BF.same _ (Ml o h3 (by omega)) AJ ?_;refine BU ?_;refine Aj ?_;exact AM (by rw[h4]) AA.out
theorem P7 (a b:Nat)(h:a/b<=9223372036854775807):IntKind.i64.wrap ((a:Int).tdiv (b:Int))=((a/b:Nat):Int):=by
 rw[<-Int.ofNat_tdiv];exact wN h
theorem Sw (a b:Nat):(a:Int).tmod (b:Int)=((a%b:Nat):Int):=(Int.ofNat_tmod a b).symm
theorem pN {env:Ap}{t K g n N t2:Nat}{z:List Nat}{T:Nat}{d2:D}(hl:z.length=N)(he:env.get t=.osl K g 1 0 N:=by exact rfl)(h2:env.get t2=d2:=by exact rfl):Wk ⟨env,[⟨K,g,T,1,z.map Ag⟩],n⟩ ⟨[(t,.sl false 1 (z.map Ag)),(t2,d2)],[],n⟩:=by
 subst hl;refine⟨.drop .nil,⟨?_,?_,trivial⟩,Ar _⟩
 ·dsimp only
  rw[he]
  have:=SU K g T 1 (z.map Ag)
  rwa [Ab]at this
 ·dsimp only
  rw[h2];exact .refl _
theorem pU {r p d:Nat}(h:r*RB+p<d*RB)(hd:d<RB):IntKind.i64.wrap ((r:Int)*1000000000)=((r*RB:Nat):Int)/\IntKind.i64.wrap (((r*RB:Nat):Int)+(p:Int))=((r*RB+p:Nat):Int):=by
 unfold RB at*;refine⟨?_,?_⟩
 ·rw[wI];omega
 ·rw[wI];omega
theorem Xv (a d:Nat)(hd:0<d)(hdl:d<RB)(hl:(Ae a).length<1000000):AL C0 263 [rD a,Ag d] (.tup [rD (a/d),Ag (a%d)]):=by
 refine Af.walk w1 wG rfl λF=>?_
 change AC C0 F none F _ ⟨Dj 0 [.sl false 1 ((Ae a).map Ag),Ag d],[],0⟩ _;have va:=Ea a;have wa:=FK a;generalize Ae a=x at*;have ea:(((x.map Ag).length:Nat):Int)=(x.length:Int):=by rw[Ab]
 have wl:IntKind.i64.wrap ((x.length:Int)-1)=(x.length:Int)-1:=wI;have r3:List.replicate x.length (ofV (.int .i64 0))=(List.replicate x.length 0).map Ag:=by rw[Kw];rfl
 have d0:¬(d:Int)=0:=by omega
 refine sR 0 ?_;refine sZ 100 ?_;refine AX (Aa ea kN) ?_;refine sR 200 ?_;refine AC.seq ?_;refine sZ 300 ?_;refine AX (Aa ea wl) ?_;refine AC.block ?_;refine AC.loop (α:=Nat×Nat×List Nat×Nat) (λp=>⟨[(0,.sl false 1 (x.map Ag)),(1,Ag d),(6,.osl 102 4 1 0 x.length),(7,Ag p.2.1),(8,i64 ((p.1:Int)-1))],[⟨102,4,3,1,p.2.2.1.map Ag⟩],p.2.2.2⟩) (λp=>p.1)
  (λp=>p.1<=x.length/\p.2.1<d/\p.2.2.1.length=x.length/\Rd p.2.2.1/\AQ (p.2.2.1.drop p.1)*d+p.2.1=AQ (x.drop p.1)) (x.length,0,List.replicate x.length 0,_)
  ⟨Ar _,hd,by simp,Tv _,by simp[AQ]⟩ (by rw[<-r3];exact AK) ?_
 rintro⟨k,r,q,m⟩ F ⟨h1,h2,h3,h4,h5⟩;dsimp only at h1 h2 h3 h4 h5⊢;clear ea wl r3;refine AC.seq ?_;refine sR 400 ?_;refine AO ?_
 (refine B1 (λh20=>?_) (λh20=>?_))<;>(try simp only[Bq,B0]at h20)<;>(try simp only[h20])
 ·obtain⟨j,rfl⟩:∃j,k=j+1:=⟨k-1,by
   have:=DN h20
   omega⟩
  have wj:((j+1:Nat):Int)-1=(j:Int):=by omega
  obtain⟨p,hp⟩:=Cf (l:=x) (i:=j) (by omega);obtain⟨z,hz⟩:=Cf (l:=q) (i:=j) (by omega);have hp':=EH hp;have hz':=EH hz;have hpl:=wa p (Ax hp);obtain⟨J1,J2⟩:=jn hd hp (by omega) h5;have hsb:r*RB+p<d*RB:=by
   have:(r+1)*RB<=d*RB:=CV _ h2
   rw[Bz]at this;omega
  have hql:(r*RB+p)/d<RB:=Fr hsb;obtain⟨k1,k2⟩:=pU hsb hdl;have k3:=P7 (r*RB+p) d (BY (Kt hql) (by decide));have k4:=Sw (r*RB+p) d;have wi:IntKind.i64.wrap ((j:Int)-1)=(j:Int)-1:=wI;generalize(r*RB+p)/d=e at*;generalize(r*RB+p)%d=r' at*;rw[wj];refine An ?_;refine AC.seq ?_;refine AC.block ?_;refine sZ 600 ?_;refine AG kN ?_;refine By kT hp' ?_;refine AG (Aa k1 k2) ?_;refine sZ 700 ?_;refine AG (Bb kN BV hz' k3) ?_;rw[Nz];refine As 800 ?_;refine AX k4 ?_;refine As 500 ?_;refine AX wi ?_;exact⟨(j,r',q.set j e,_),⟨by dsimp only;omega,J2,by dsimp only;rw[DK];exact h3,h4.set hql,J1⟩,by dsimp only;omega,AK⟩
 ·have hk:k=0:=by
   have:=Do h20
   omega
  subst hk;rw[GH,GH,va]at h5;obtain⟨q1,q2⟩:=RI h5 h2;refine CG ?_;refine AC.weak ⟨[(6,.sl false 1 (q.map Ag)),(7,Ag r)],[],_⟩ (pN h3) ?_;refine sR 900 ?_;refine BF.same _ (Ml q h4 (by omega)) AJ ?_;refine BU ?_;refine Aj ?_;exact AM (by rw[q1,q2]) AA.out
structure KT (U V n2 v1 p1 q r:Nat):Prop where
 eq:q*v1+r=n2
 up:U<(q+1)*V
 cap:n2<=v1*RB+p1
 p1l:p1<RB
namespace KT
variable {U V n2 v1 p1 q r:Nat} (G:KT U V n2 v1 p1 q r)
include G
theorem small (h:RB<=r):q<RB:=by
 rcases BE q RB with h1|h1
 ·exact h1
 ·exfalso
  have h2:=CV v1 h1;have h3:=G.eq;have h4:=G.cap;have h5:=G.p1l;rw[Ba RB v1]at h2;omega
theorem qle (hv:0<v1):q<=2*RB:=by
 rcases BE (2*RB) q with h1|h1
 ·exfalso
  have h2:=CV v1 h1;have h3:=G.eq;have h4:=G.cap;have h5:=G.p1l;have h6:RB*1<=RB*v1:=Cy _ hv;rw[Nat.succ_mul,B4,Ba RB v1]at h2;rw[Ba RB v1]at h6;omega
 ·exact h1
end KT
section
variable {P v:List Nat} {m p0 p1 p2 v2 v1:Nat} (S:Ld P v m p0 p1 p2 v2 v1)
include S
theorem jt:KT (AQ P) (AQ v) (p1+RB*p2) v1 p1 ((p2*RB+p1)/v1) ((p2*RB+p1)%v1):=by
 have c0:p2*RB+p1=p1+RB*p2:=by rw[Ba,L4]
 rw[c0];have e:=FF (p1+RB*p2) v1;have l:=B7 (p1+RB*p2) S.top;have c1:=Ba v1 ((p1+RB*p2)/v1);refine⟨by omega,Xq S.below2 S.abovev ?_,?_,S.p1l⟩
 ·rw[Bz];omega
 ·have:=Cy RB S.p2v1
  rw[Ba v1];omega
theorem jy {q r:Nat}(G:KT (AQ P) (AQ v) (p1+RB*p2) v1 p1 q r)(h:RB<=q\/r*RB+p0<q*v2):0<q/\KT (AQ P) (AQ v) (p1+RB*p2) v1 p1 (q-1) (r+v1):=by
 obtain⟨e,u,cp,pl⟩:=G;have hq:0<q:=by
  rcases h with h|h
  ·unfold RB at h;omega
  ·rcases D7 q with h0|h0
   ·subst h0;omega
   ·exact h0
 obtain⟨k,rfl⟩:∃k,q=k+1:=⟨q-1,by omega⟩
 refine⟨hq,⟨?_,?_,cp,pl⟩⟩
 ·rw[JP,<-e,Bz];omega
 ·rw[JP]
  rcases h with h|h
  ·have h1:AQ v*RB<=(k+1)*AQ v:=by rw[Ba];exact CV _ h
   have:=S.less
   omega
  ·have e2:(k+1)*(v2+RB*v1)=(k+1)*v2+RB*((k+1)*v1):=by rw[BQ,JR]
   refine X8 S.below3 S.abovev2 ?_;rw[e2,<-e,BQ RB,Ba RB r];omega
theorem Xr {q r:Nat}(G:KT (AQ P) (AQ v) (p1+RB*p2) v1 p1 q r)(h:RB<=r\/(q<RB/\q*v2<=r*RB+p0)):q<RB/\q*AQ v<=AQ P+AQ v:=by
 have hqB:q<RB:=by
  rcases h with h|h
  ·exact G.small h
  ·exact h.1
 obtain⟨e,u,cp,pl⟩:=G;have h5:=S.v2l;have hq:q*v2<=r*RB+p0:=by
  rcases h with h|h
  ·have h2:q*v2<=RB*RB:=JU (by omega) (by omega)
   have h3:RB*RB<=r*RB:=CV _ h;omega
  ·exact h.2
 have e2:q*(v2+RB*v1)=q*v2+RB*(q*v1):=by rw[BQ,JR]
 refine⟨hqB,Ys (n3:=p0+RB*(p1+RB*p2)) (D:=v2+RB*v1) (P:=RB^m) (B:=RB) (v:=AQ (v.take m)) ?_ ?_ S.lowv ?_ (by omega) ?_⟩
 ·rw[S.valP,Ba];omega
 ·rw[S.valv,Ba];omega
 ·rw[e2,<-e,BQ RB,Ba RB r]
  omega
 ·have:=S.top
  have h1:=Cy RB (show 1<=v1 from this);omega
end
theorem Ds.of {H:Hp}{d0 d:D}(h:Fz H [] d0 d):Ds H d0 d:=λ_ _ _ _ m hO hN _ hv=>h.rep m hO (λe he b hb _=>hN e he b hb) hv
theorem e1A {C:BA}{f:Nat}{ds ds':List D}{Φ:D->Prop}{H:Hp}{n:Nat}(hc:Af C f ds' Φ)(hl:ds'.length=ds.length)(hv:∀(i:Nat) (a b:D),ds[i]?=some a->ds'[i]?=some b->Ds H a b)
  (hp:Ai ds') (hflat:∀d,Φ d->Kf d):CX C f ds H n (λd' H' n'=>Φ d'/\H'=H/\n'=n+1):=by
 refine⟨hc.1,λF ρ w vs m hfr hg hvs hr=>?_⟩;have hH:Cs H [] H []:=by
  generalize H=H0
  have:∀H1:Hp,Cs H0 [] H1 []:=λH1=>by
   induction H1 with
   |nil=>exact .nil
   |cons e r ih=>exact .drop ih
  exact this H0
 obtain⟨m',hO,hN⟩:=hH.mem m;refine(hc.2 (AN F.X ρ []) w vs m.g (BY m.gn m.size) (λb hb=>m'.own_lt hb) (by omega) λi x hx=>?_).mono ?_
 ·have hi:i<ds'.length:=(BS.1 hx).1
  have hd0:ds[i]?=some ds[i]:=Ce;exact hp.out x (Ax hx) _ _ _ _ _ (hv i _ x hd0 hx C F ρ w m hO (λe he b hb=>hN e he b hb rfl) _ (hr i _ hd0))
 ·rintro e w' ⟨v,d',rfl,hb,hd',rep⟩
  have x:BX ρ (AN F.X ρ H) w ρ (AN F.X ρ H) w':=⟨hb.size,λ_ _ _ h=>h,λb hb' hO=>⟨hO,hb.block b hb'⟩,λb cs T fz hh=>⟨cs,_,by
   rw[hb.block b (DB.1 hh).1];exact hh,rfl⟩⟩
  exact⟨v,_,H,n+1,ρ,rfl,⟨hd',rfl,rfl⟩,m.same x hb.os hb.tape hb.output hb.block,x,λk g hg'=>hfr k g (by omega),λe he=>Dd (hg e he),hflat _ hd' _ _ _ _ _ _ _ rep⟩
def Y7 (P v:List Nat)(d:D):Prop:=∃q,d=Ag q/\q<RB/\AQ P<(q+1)*AQ v/\q*AQ v<=AQ P+AQ v
theorem oB {p2 p1 v1:Nat}(h1:p1<RB)(h2:p2<RB):IntKind.i64.wrap ((p2:Int)*1000000000)=((p2*RB:Nat):Int)/\IntKind.i64.wrap (((p2*RB:Nat):Int)+(p1:Int))=((p2*RB+p1:Nat):Int) /\
  IntKind.i64.wrap (((p2*RB+p1:Nat):Int).tdiv (v1:Int))=(((p2*RB+p1)/v1:Nat):Int):=by
 have h3:=Gn (p2*RB+p1) v1;unfold RB at*;refine⟨?_,?_,?_⟩
 ·rw[wI];omega
 ·rw[wI];omega
 ·exact P7 _ _ (by omega)
theorem ki {t r v2 p0:Nat}(ht:t<RB)(hr:r<RB)(h2:v2<RB)(h0:p0<RB):IntKind.i64.wrap ((t:Int)*(v2:Int))=((t*v2:Nat):Int)/\IntKind.i64.wrap ((r:Int)*1000000000)=((r*RB:Nat):Int) /\
  IntKind.i64.wrap (((r*RB:Nat):Int)+(p0:Int))=((r*RB+p0:Nat):Int):=by
 have h3:t*v2<=999999999*999999999:=JU (by unfold RB at ht;omega) (by unfold RB at h2;omega);unfold RB at*;refine⟨?_,?_,?_⟩
 ·rw[<-Gm,wI]
 ·rw[wI];omega
 ·rw[wI];omega
theorem sj {t v2 r p0:Nat}(h:t<RB):decide (((t*v2:Nat):Int)>((r*RB+p0:Nat):Int))=decide (RB<=t\/r*RB+p0<t*v2):=
 DO.2 ⟨λh1=>.inr (Int.ofNat_lt.1 h1),λh1=>Int.ofNat_lt.2 (h1.resolve_left (Nat.not_le.2 h))⟩
theorem sk {t v2 r p0:Nat}(h:¬(RB<=t\/r*RB+p0<t*v2)):t<RB/\t*v2<=r*RB+p0:=⟨Nat.lt_of_not_le λh1=>h (.inl h1),Nat.le_of_not_lt λh1=>h (.inr h1)⟩
theorem rl {P v:List Nat}{m p0 p1 p2 v2 v1:Nat}(S:Ld P v m p0 p1 p2 v2 v1):∃a1 T q0 r0:Nat,IntKind.i64.wrap ((p2:Int)*1000000000)=(a1:Int)/\IntKind.i64.wrap ((a1:Int)+(p1:Int))=(T:Int) /\
  IntKind.i64.wrap ((T:Int).tdiv (v1:Int))=(q0:Int)/\(T:Int).tmod (v1:Int)=(r0:Int)/\KT (AQ P) (AQ v) (p1+RB*p2) v1 p1 q0 r0/\r0<RB:=by
 obtain⟨k1,k2,k3⟩:=oB (v1:=v1) S.p1l S.p2l;exact⟨_,_,_,_,k1,k2,k3,Sw _ v1,jt S,Gp (B7 _ S.top) S.v1l⟩
theorem oQ {t r v2 p0:Nat}(ht:t<RB)(hr:r<RB)(h2:v2<RB)(h0:p0<RB):∃a1 a2 a3:Nat,IntKind.i64.wrap ((t:Int)*(v2:Int))=(a3:Int)/\IntKind.i64.wrap ((r:Int)*1000000000)=(a1:Int) /\
  IntKind.i64.wrap ((a1:Int)+(p0:Int))=(a2:Int)/\decide ((a3:Int)>(a2:Int))=decide (RB<=t\/r*RB+p0<t*v2):=by
 obtain⟨q1,q2,q3⟩:=ki ht hr h2 h0;exact⟨_,_,_,q1,q2,q3,sj ht⟩
theorem rQ (U v:List Nat)(j m p0 p1 p2 v2 v1:Nat)(S:Ld ((U.drop j).take (m+3)) v m p0 p1 p2 v2 v1)(hj:j+(m+3)<=U.length)(hU:U.length<4000000):Af C0 265 [rL U,rL v,Ag j] (Y7 ((U.drop j).take (m+3)) v):=by
 refine Af.walk w1 wH rfl λF=>?_
 unfold rL;have hg:∀ {k p:Nat},((U.drop j).take (m+3))[k]?=some p->U[j+k]?=some p:=λ{k p} h=>by
  rw[FT]at h;split at h
  ·rwa [HI]at h
  ·cases h
 have u0:=EH (hg S.h0);have u1:=EH (hg S.h1);have u2:=EH (hg S.h2);have y1:=EH S.g1;have y2:=EH S.g2;have l0:=S.p0l;have l1:=S.p1l;have l2:=S.p2l;have lv1:=S.v1l;have lv2:=S.v2l;have ev:(((v.map Ag).length:Nat):Int)=((m+2:Nat):Int):=by rw[Ab,S.lv]
 have eu:(((U.map Ag).length:Nat):Int)=(U.length:Int):=by rw[Ab]
 have w0:IntKind.i64.wrap ((j:Int)+((m+2:Nat):Int))=((j+(m+2):Nat):Int):=by rw[wI];omega
 have wa:IntKind.i64.wrap (((j+(m+2):Nat):Int)-1)=((j+(m+1):Nat):Int):=by rw[wI];omega
 have wb:IntKind.i64.wrap (((j+(m+2):Nat):Int)-2)=((j+m:Nat):Int):=by rw[wI];omega
 have wc:IntKind.i64.wrap (((m+2:Nat):Int)-1)=((m+1:Nat):Int):=by rw[wI];omega
 have wd:IntKind.i64.wrap (((m+2:Nat):Int)-2)=(m:Int):=by rw[wI];omega
 have ra:IntKind.i64.wrap (IntKind.i64.wrap ((j:Int)+((m+2:Nat):Int))-1)=((j+(m+1):Nat):Int):=by rw[w0,wa]
 have rb:IntKind.i64.wrap (IntKind.i64.wrap ((j:Int)+((m+2:Nat):Int))-2)=((j+m:Nat):Int):=by rw[w0,wb]
 obtain⟨a1,T,q0,r0,k1,k2,k3,k4,G0,hr0⟩:=rl S;have v0:¬(v1:Int)=0:=by have:=S.top;omega
 have hvl:=S.lv;refine sR 0 ?_;refine sZ 100 ?_;refine AX ev ?_;refine AC.seq ?_;refine CN 200 [0,1,2,3,4,5,6,7,8,9,10,11,12,13] [14,15] ?_;refine AG (Bb w0 wa ra kN) ?_;refine By kT u2 ?_;refine AG (Bb w0 wa ra kN) ?_;refine By kT u1 ?_;refine AG (D9 w0 wa ra kN k1 k2) ?_;refine AC.seq ?_;refine CN 300 [0,1,2,3,4,5,6,7,8,9,10,11,12,13,14] [15] ?_;refine AG (Aa wc kN) ?_;refine By kT y1 ?_;refine AG (Aa wc kN) ?_;refine By kT y1 ?_;refine AG (Bb wc kN k3 k4) ?_;refine DJ (α:=Nat×Nat) (λp=>⟨[(9,Ag p.1)],[],p.2⟩) (λp=>p.1<RB/\AQ ((U.drop j).take (m+3))<(p.1+1)*AQ v/\p.1*AQ v<=AQ ((U.drop j).take (m+3))+AQ v) ?_ ?_
 ·refine AC.block ?_
  refine HH (α:=Nat×Nat×Nat) (λp=>⟨[(0,.sl false 1 (U.map Ag)),(1,.sl false 1 (v.map Ag)),(2,Ag j),(7,i64 ((m+2:Nat):Int)),(9,Ag p.1),(10,Ag p.2.1)],[],p.2.2⟩) (λp=>p.1)
   (λp F'=>F'=F/\KT (AQ ((U.drop j).take (m+3))) (AQ v) (p1+RB*p2) v1 p1 p.1 p.2.1/\p.2.1<RB) (q0,r0,_) ⟨rfl,G0,hr0⟩ AK ?_
  rintro⟨t,r,n⟩ F' ⟨rfl,G,hr⟩;dsimp only at G hr⊢;clear G0 hr0 k1 k2 k3 k4 u1 u2 ra wa;have htl:=G.qle S.top;obtain⟨b,hb⟩:∃b,b=decide (RB<=t\/r*RB+p0<t*v2):=⟨_,rfl⟩
  refine AC.seq ?_;refine DJ (α:=Nat) (λn=>⟨[(0,.sl false 1 (U.map Ag)),(1,.sl false 1 (v.map Ag)),(2,Ag j),(7,i64 ((m+2:Nat):Int)),(9,Ag t),(10,Ag r),(63,Al b)],[],n⟩) (λ_=>True) ?_ ?_
  ·rcases BE t RB with h|h
   ·have e1:decide ((t:Int)>=1000000000)=false:=Az (by unfold RB at h;omega)
    obtain⟨a1,a2,a3,q1,q2,q3,q4⟩:=oQ h hr lv2 l0;rw[<-hb]at q4;clear hb;rw[<-q4];refine CN 400 [0,1,2,3,4,5,6,7,8,9,10,11,12,13,14,15,16,17,18,19] [20,21] ?_;refine AG e1 ?_;refine AG (Ao kF wd kN) ?_;refine By kF y2 ?_;refine AG (CS kF w0 wb rb kN) ?_;refine By kF u0 ?_;refine AG (Bb kF q1 q2 q3) ?_;refine AG kF ?_;exact⟨trivial,_,trivial,AK⟩
   ·have e1:decide ((t:Int)>=1000000000)=true:=Aw (by unfold RB at h;omega)
    have e2:b=true:=hb.trans (Aw (.inl h));subst e2;refine CN 400 [0,1,2,3,4,5,6,7,8,9,10,11,12,13,14,15,16,17,18,19] [20,21] ?_;refine AG e1 ?_;refine AG kT ?_;refine AG kT ?_;exact⟨trivial,_,trivial,AK⟩
  rintro n2 -;cases b with
  |true=>
   have hc:=DN hb.symm;obtain⟨t0,G2⟩:=jy S G hc;have j1:IntKind.i64.wrap ((t:Int)-1)=((t-1:Nat):Int):=by rw[wI (by omega) (by unfold RB at htl;omega)];omega
   have j2:IntKind.i64.wrap ((r:Int)+(v1:Int))=((r+v1:Nat):Int):=by rw[wI (by omega) (by unfold RB at hr lv1;omega)];omega
   clear hc hb;refine AO ?_;refine An ?_;refine AC.block ?_;refine sZ 500 ?_;refine AX j1 ?_;refine sZ 600 ?_;refine AG (Aa wc kN) ?_;refine By kT y1 ?_;refine AG j2 ?_;refine AC.seq ?_;rcases BE (r+v1) RB with h|h
   ·have e3:decide (((r+v1:Nat):Int)>=1000000000)=false:=Az (by unfold RB at h;omega)
    refine As 700 ?_;refine AX e3 ?_;refine AO ?_;refine An ?_;exact⟨(t-1,r+v1,_),⟨rfl,G2,h⟩,by dsimp only;omega,AK⟩
   ·have e3:decide (((r+v1:Nat):Int)>=1000000000)=true:=Aw (by unfold RB at h;omega)
    obtain⟨g1,g2⟩:=Xr S G2 (.inl h);refine As 700 ?_;refine AX e3 ?_;refine AO ?_;refine sR 800 ?_;refine Aj ?_;exact⟨_,.refl _,AA.out,t-1,rfl,g1,G2.up,g2⟩
  |false=>
   have hc:=Do hb.symm;obtain⟨g1,g2⟩:=Xr S G (.inr (sk hc));clear hc hb;refine AO ?_;refine CG ?_;exact⟨rfl,⟨t,_⟩,⟨g1,G.up,g2⟩,AK⟩
 rintro⟨q,n⟩ ⟨g1,g2,g3⟩;dsimp only at g1 g2 g3⊢;refine sR 900 ?_;refine Aj ?_;exact⟨_,.refl _,AA.out,q,rfl,g1,g2,g3⟩
def Pu (k g k' n:Nat)(env:Ap):Ap->Prop
 | []=>True
 |(t,d)::r=>(d=env.get t\/∃sz i len,env.get t=.osl k g sz i len/\d=.osl k' n sz i len)/\Pu k g k' n env r
theorem Pu.get {k g k' n:Nat}{env:Ap}:∀ {env':Ap},Pu k g k' n env env'->∀t,env'.get t=.any\/env'.get t=env.get t\/∃sz i len,env.get t=.osl k g sz i len/\env'.get t=.osl k' n sz i len
 | [],_,t=>.inl rfl
 |(t0,d)::r,h,t=>by
  simp only[Ap.get];cases hb:Nat.beq t0 t with
  |true=>
   obtain rfl:=CC hb;rcases h.1 with h1|h1
   ·exact .inr (.inl h1)
   ·exact .inr (.inr h1)
  |false=>exact Pu.get h.2 t
section
variable {C:BA} {B F:Ad} {rd:Option Nat} {Q:Exit->Ad->St->Prop}
theorem e1j {c:Code}{env:Ap}{k g k' T sz n:Nat}{es:List D}(env':Ap)(he:Pu k g k' n env env')(h:AC C B rd F c ⟨env',[⟨k',n,T,sz,es⟩],n+1⟩ Q):AC C B rd F c ⟨env,[⟨k,g,T,sz,es⟩],n⟩ Q:=by
 refine⟨λhB hd ρ a w hs=>?_⟩;obtain⟨ρ',hl,hk,hf⟩:∃ρ':Lk,(∀k1 g1 b,ρ k1 g1=some b->ρ' k1 g1=some b)/\ρ' k' n=ρ k g/\Jp ρ' (n+1):=by
  cases hb:ρ k g with
  |none=>exact⟨ρ,λ_ _ _ h=>h,hs.fresh _ _ (Ar _),λk1 g1 h=>hs.fresh _ _ (Nat.le_of_succ_le h)⟩
  |some b=>exact⟨ρ.put k' n b,λk1 g1 b1 h1=>OZ (hs.fresh _ _ (Ar _)) h1,Es _ _ _ _,λk1 g1 h1=>by
    unfold Lk.put;split
    ·rename_i hh;omega
    ·exact hs.fresh _ _ (Nat.le_of_succ_le h1)⟩
 have hO:AN F.X ρ' [⟨k',n,T,sz,es⟩]=AN F.X ρ [⟨k,g,T,sz,es⟩]:=funext λb=>propext (by simp[AN,hk])
 have x:BX ρ (AN F.X ρ [⟨k,g,T,sz,es⟩]) w ρ' (AN F.X ρ' [⟨k',n,T,sz,es⟩]) w:=⟨Ar _,hl,λb _ hb=>⟨by rw[hO];exact hb,rfl⟩,λ_ cs _ _ h=>⟨cs,_,h,rfl⟩⟩
 refine h.out hB hd ρ' a w ⟨⟨⟨λe he'=>?_,by simp,λe he' b hb=>?_⟩,hs.mem.os,hs.mem.tape,hs.mem.output,hs.mem.size,hs.mem.blk,hs.mem.xlt,hs.mem.g0,hs.mem.gn,hs.mem.gw,λk1 g1 b h1=>hl _ _ _ (hs.mem.lnk _ _ _ h1),hs.mem.shp⟩,hf,λe he'=>?_,λt=>?_,hs.nt,hs.dfr⟩
 ·simp only[A8,Dq,or_false]at he'
  subst he';rcases hs.mem.hok.ent ⟨k,g,T,sz,es⟩ (by simp)with⟨h1,h2⟩|⟨b,cs,h1,h2,h3⟩
  ·exact .inl ⟨h1,by rw[show ρ' k' n=ρ k g from hk];exact h2⟩
  ·refine .inr ⟨b,cs,hk.trans h1,h2,?_⟩
   have h4:=h3.mono x;exact⟨h4.len,h4.siz,h4.one,h4.rep⟩
 ·simp only[A8,Dq,or_false]at he'
  subst he';exact hs.mem.hok.own ⟨k,g,T,sz,es⟩ (by simp) b (hk.symm.trans hb)
 ·simp only[A8,Dq,or_false]at he'
  subst he';exact IM _
 ·have h0:=(hs.env t).mono x
  rcases he.get t with h1|h1|⟨sz',i,len,h1,h2⟩
  ·show AW _ _ _ (env'.get t) _
   rw[h1];exact .any _
  ·show AW _ _ _ (env'.get t) _
   rw[h1];exact h0
  ·show AW _ _ _ (env'.get t) _
   rw[h2];have h5:=hs.env t;change AW _ _ _ (env.get t) _ at h5;rw[h1]at h5;generalize a.tmps.getD t undef=v at*;cases h5 with
   |onil=>exact .onil _ _ _
   |osl hr hb hc hs' hm=>exact .osl (hk.trans hr) hb hc hs' hm
end
theorem d9X {b m y:Nat}(hl:(Ae b).length=m+1)(hy:(Ae b)[m]?=some y):∃f,f=1000000000/(y+1)/\0<f/\f<RB/\(Ae (b*f)).length=m+1:=by
 have hy0:=Qw b hl hy;have hyl:y<RB:=FK b y (Ax hy);have hf0:0<1000000000/(y+1):=Nat.div_pos (by unfold RB at hyl;omega) (by omega);have hf1:1000000000/(y+1)<RB:=Ir (by decide) (by omega);have hm:=Nat.div_mul_le_self 1000000000 (y+1);refine⟨_,rfl,hf0,hf1,?_⟩;generalize 1000000000/(y+1)=f at*;refine kP ?_ ?_
 ·exact BY (Tu hl) (Nat.le_mul_of_pos_right _ hf0)
 ·have h2:=V5 hl hy
  have h3:=Gz ((FK b).take m);rw[Bc,hl,Fp (by omega)]at h3;rw[Ea]at h2;have h4:b<RB^m*(y+1):=by rw[BQ,Ej];omega
  have h5:b*f<RB^m*(y+1)*f:=TM h4 hf0;have h6:RB^m*(y+1)*f=RB^m*(f*(y+1)):=by rw[B4,Ba (y+1)]
  have h7:RB^m*(f*(y+1))<=RB^m*RB:=Cy _ hm;rw[CZ];omega
theorem ku {a b f:Nat}{U v:List Nat}{k lu lq:Nat}(hf:0<f)(hU:AQ U=a*f)(hv:AQ v=b*f)(wU:Rd U)(lU:U.length=lu){q:List Nat}(hq:q=List.replicate lq 0)(hk:lq<=k)
  (hab:a<RB^k*b):Mz (a*f) v U q lu lq k:=by
 subst hq;refine⟨lU,Hn,wU,Tv _,?_,?_⟩
 ·rw[IJ (by rw[Hn];exact hk)]
  rw[show AQ []=0 from rfl,FE,Hq,BV,hU]
 ·rcases BE (AQ (U.drop k)) (AQ v)with h|h
  ·exact h
  ·exfalso
   have e0:AQ U=AQ (U.take k)+RB^(U.take k).length*AQ (U.drop k):=by
    conv=>lhs;rw[<-Fq k U]
    rw[J9]
   have h3:a*f<RB^k*b*f:=TM hab hf;rw[B4,<-hv]at h3;rcases BE U.length k with hl|hl
   ·rw[IJ (by omega)]at h
    rw[show AQ []=0 from rfl]at h;rw[Nat.le_zero.1 h,FE]at h3;omega
   ·rw[Bc,Fp hl]at e0
    have:=Cy (RB^k) h
    omega
theorem nS {a b f:Nat}{v U q:List Nat}{lu lq:Nat}(hf:0<f)(I:Mz (a*f) v U q lu lq 0)(hv:AQ v=b*f):AQ q=a/b/\AQ U=a%b*f:=by
 obtain⟨lU,lQ,wU,wq,val,less⟩:=I;simp only[NF,J4,GH]at val less;obtain⟨h1,h2⟩:=RI val less;rw[hv,QY _ _ hf]at h1;rw[hv,QZ]at h2;exact⟨h1,h2⟩
theorem sQ {P V q N Pn c z W:Nat}(hI:N+q*V=Pn+W*c)(hP:P=Pn+W*z)(hc:c<=z)(hup:P<(q+1)*V):P/V=q/\P%V=N+W*(z-c):=by
 have e:W*z=W*c+W*(z-c):=by rw[<-BQ];congr 1;omega
 exact UU (N:=N+W*(z-c)) (by omega) hup
theorem sS {P V q N Pn N2 c c2 z W:Nat}(hI:N+q*V=Pn+W*c)(hP:P=Pn+W*z)(hz:z<c)(hN:N<W)(hdn:q*V<=P+V)(hN2:N2+W*c2=N+V)(hc2:c2<=1)(hN2l:N2<W)(hVW:V<W):
  0<q/\P/V=q-1/\P%V=N2/\(z:Int)-c+c2=0:=by
 obtain⟨e,rfl⟩:∃e,c=z+1+e:=⟨c-z-1,by omega⟩
 have h1:W*(z+1+e)=W*z+W+W*e:=by rw[BQ,BQ,Ej]
 have he:e=0:=by
  rcases D7 e with h|h
  ·exact h
  ·have:=Cy W h
   omega
 subst he;rw[FE]at h1;obtain⟨a1,a2,a3⟩:=Yk (U:=P) (V:=V) (q:=q) (N:=N) (N3:=N2) (T:=W) (c:=c2) (by omega) hN hdn hN2 hc2 hN2l;refine⟨a1,a2,a3,?_⟩
 have:c2=1:=by
  rcases D7 c2 with h|h
  ·exfalso
   subst h;rcases D7 q with h0|h0
   ·subst h0;omega
   ·obtain⟨k,rfl⟩:∃k,q=k+1:=⟨q-1,by omega⟩
    rw[Bz,J4]at hI hdn;omega
  ·omega
 subst this;omega
def blk (A N:List Nat)(top:Int)(Z:List Nat):List D:=A.map Ag++(N.map Ag++(i64 top::Z.map Ag))
theorem bN {A N Z:List Nat}{top:Int}{i z:Nat}(h:N[i]?=some z):(blk A N top Z)[A.length+i]?=some (Ag z):=by
 have hi:i<N.length:=(BS.1 h).1;unfold blk;rw[FC (by rw[Ab];omega),Ab,L1,GW (by rw[Ab];exact hi)];exact EH h
theorem Z4 {A N Z:List Nat}{top:Int}{i d:Nat}(h:i<N.length):(blk A N top Z).set (A.length+i) (Ag d)=blk A (N.set i d) top Z:=by
 unfold blk;rw[Ob _ _ (by rw[Ab];omega),Ab,L1,List.set_append_left _ _ (by rw[Ab];exact h),Nz]
theorem VI {A N Z:List Nat}{top:Int}{n:Nat}(h:N.length=n):(blk A N top Z)[A.length+n]?=some (i64 top):=by
 unfold blk;rw[FC (by rw[Ab];omega),Ab,L1,FC (by rw[Ab];omega),Ab,h,Nat.sub_self];rfl
theorem ZA {A N Z:List Nat}{top t:Int}{n:Nat}(h:N.length=n):(blk A N top Z).set (A.length+n) (i64 t)=blk A N t Z:=by
 unfold blk;rw[Ob _ _ (by rw[Ab];omega),Ab,L1,Ob _ _ (by rw[Ab];omega),Ab,h,Nat.sub_self];rfl
theorem VH {A N Z:List Nat}{t:Nat}:blk A N (t:Int) Z=(A++((N++[t])++Z)).map Ag:=by
 unfold blk;simp[Cz]
theorem ph {t x c z:Nat}(ht:t<RB)(hx:x<RB)(hc:c<=RB)(hz:z<RB):∃p lo hi x' d c':Nat,IntKind.i64.wrap ((t:Int)*(x:Int))=(p:Int)/\IntKind.i64.wrap ((p:Int)+(c:Int))=(x':Int)/\((x':Int)).tmod 1000000000=(lo:Int) /\
  IntKind.i64.wrap (((x':Int)).tdiv 1000000000)=(hi:Int)/\IntKind.i64.wrap ((z:Int)-(lo:Int))=(z:Int)-lo/\d<RB/\c'<=RB/\d+t*x+c=z+RB*c' /\
  ((c'=hi/\(z:Int)-lo=d)\/(c'=hi+1/\(z:Int)-lo<0/\IntKind.i64.wrap ((z:Int)-lo+1000000000)=d/\IntKind.i64.wrap ((hi:Int)+1)=((hi+1:Nat):Int))):=by
 have h3:t*x<=999999999*999999999:=JU (by unfold RB at ht;omega) (by unfold RB at hx;omega);have e:=FU (t*x+c) 1000000000;have l:=B7 (t*x+c) (show 1000000000>0 by decide);have k0:IntKind.i64.wrap ((t:Int)*(x:Int))=((t*x:Nat):Int):=by rw[<-Gm,wI]
 unfold RB at*;have k1:IntKind.i64.wrap (((t*x:Nat):Int)+(c:Int))=((t*x+c:Nat):Int):=by rw[wI];omega
 have k2:((t*x+c:Nat):Int).tmod 1000000000=(((t*x+c)%1000000000:Nat):Int):=Sw _ 1000000000;have k3:IntKind.i64.wrap (((t*x+c:Nat):Int).tdiv 1000000000)=(((t*x+c)/1000000000:Nat):Int):=P7 _ 1000000000 (by omega);generalize t*x=p at*;generalize(p+c)%1000000000=lo at*;generalize(p+c)/1000000000=hi at*;rcases BE z lo with h|h
 ·exact⟨_,_,_,_,z+1000000000-lo,hi+1,k0,k1,k2,k3,wI,by omega,by omega,by omega,.inr ⟨rfl,by omega,by rw[wI];omega,by rw[wI];omega⟩⟩
 ·exact⟨_,_,_,_,z-lo,hi,k0,k1,k2,k3,wI,by omega,by omega,by omega,.inl ⟨rfl,by omega⟩⟩
theorem pQ {z x c:Nat}(hz:z<RB)(hx:x<RB)(hc:c<=1):∃p s d c':Nat,IntKind.i64.wrap ((z:Int)+(x:Int))=(p:Int)/\IntKind.i64.wrap ((p:Int)+(c:Int))=(s:Int)/\((s:Int)).tmod 1000000000=(d:Int) /\
  IntKind.i64.wrap (((s:Int)).tdiv 1000000000)=(c':Int)/\d<RB/\c'<=1/\d=(z+x+c)%RB/\c'=(z+x+c)/RB:=by
 have e:=FU (z+x+c) 1000000000;have l:=B7 (z+x+c) (show 1000000000>0 by decide);unfold RB at*;have k0:IntKind.i64.wrap ((z:Int)+(x:Int))=((z+x:Nat):Int):=by rw[wI];omega
 have k1:IntKind.i64.wrap (((z+x:Nat):Int)+(c:Int))=((z+x+c:Nat):Int):=by rw[wI];omega
 have k2:((z+x+c:Nat):Int).tmod 1000000000=(((z+x+c)%1000000000:Nat):Int):=Sw _ 1000000000;have k3:IntKind.i64.wrap (((z+x+c:Nat):Int).tdiv 1000000000)=(((z+x+c)/1000000000:Nat):Int):=P7 _ 1000000000 (by omega);exact⟨_,_,_,_,k0,k1,k2,k3,l,by omega,rfl,rfl⟩
set_option maxHeartbeats 2000000
theorem rG:rD 0=.sl false 1 []:=by unfold rD;rw[HP];rfl
theorem U9 {H:Hp}{K g T:Nat}{l:List Nat}{N:Nat}(hl:l.length=N)(he:Hp.get H K=some ⟨K,g,T,1,l.map Ag⟩:=by exact rfl):Fz H [] (.osl K g 1 0 N) (.sl false 1 (l.map Ag)):=by
 subst hl;have key:∀(j:Nat) (d d':D),(l.map Ag)[0+j]?=some d->(l.map Ag)[j]?=some d'->d=d':=λj d d' h1 h2=>by
  rw[BV]at h1;rw[h1]at h2;exact GV h2
 refine .osl (e:=⟨K,g,T,1,l.map Ag⟩) he rfl rfl rfl (by simp) (by simp) (λj d d' h1 h2=>by rw[key j d d' h1 h2]) λj d d' q c c' h1 h2 h3 h4=>?_
 rw[key j d d' h1 h2]at h3;rw[h3]at h4;cases h4;exact Fz.refl _
theorem nT (a b:Nat)(hab:a<b)(ha:(Ae a).length<1000000)(hb:(Ae b).length<1000000):AL C0 228 [rD a,rD b] (.tup [rD (a/b),rD (a%b)]):=by
 rw[IL hab,Ft hab,rG];refine Af.walk w1 Vi rfl λF=>?_
 have cc:=Si a b (by omega) (by omega);have e1:=Z7 hab;refine sR 0 ?_;refine AC.seq ?_;refine sR 100 ?_;refine cI cc ?_;rw[e1];refine AO ?_;refine sR 200 ?_;refine Aj ?_;exact⟨_,fG (.nil 1) (.refl _),ZY (.sl λe he=>by cases he) (PV _),rfl⟩
theorem pZ (a b:Nat)(hab:b<=a)(ha:(Ae a).length<1000000)(hb:(Ae b).length=1)(hb0:b≠0):AL C0 228 [rD a,rD b] (.tup [rD (a/b),rD (a%b)]):=by
 have cc:=Si a b (by omega) (by omega);have e1:=Rk hab;have hbl:b<RB:=by
  have:=Jd b
  rw[hb,Nat.pow_one]at this;exact this
 have hlb:(Ae b)[0]?=some b:=by rw[Qv hb0 hbl];rfl
 have hb':=EH hlb;have cd:=Xv a b (EX hb0) hbl ha;have e3:(((((Ae b).map Ag).length:Nat):Int)==1)=true:=by rw[Ab,hb];rfl
 have hml:a%b<RB:=Gp (B7 _ (EX hb0)) hbl;have hv:AQ [a%b]=a%b:=by simp[AQ]
 refine Af.walk w1 Vi rfl λF=>?_
 generalize a/b=q at*;generalize a%b=r at*;unfold rD rL at cc cd⊢;change AC C0 F none F _ _ (Se X1.tt _ (· = .tup [rD q,rD r]));generalize Ae a=la at*;generalize Ae b=lb at*;refine sR 0 ?_;refine AC.seq ?_;refine sR 100 ?_;refine cI cc ?_;rw[e1];refine AO ?_;refine An ?_;refine AC.seq ?_;refine sZ 300 ?_;refine AX e3 ?_;refine AO ?_;refine sZ 400 ?_;refine AG kN ?_;refine By kT hb' ?_;refine AG kN ?_;refine BF.same _ cd AJ ?_;refine BU ?_;refine sR 500 ?_;have hrl:Rd [r]:=λa ha=>by
  simp only[A8,Dq,or_false]at ha;subst ha;exact hml
 refine BF.pure [rL [r]] _ ⟨.nn true 1 _,trivial⟩ (Ml [r] hrl (by simp)) AJ ?_;refine BU ?_;refine Aj ?_;exact AM (by rw[hv];rfl) AA.out
theorem d9l {H:Hp}{d1 d2 d3 e1 e2 e3:D}(h1:Ds H d1 e1)(h2:Ds H d2 e2)(h3:Ds H d3 e3):∀(i:Nat) (a b:D),[d1,d2,d3][i]?=some a->[e1,e2,e3][i]?=some b->Ds H a b
 | 0,_,_,ha,hb=>by cases ha;cases hb;exact h1
 | 1,_,_,ha,hb=>by cases ha;cases hb;exact h2
 | 2,_,_,ha,hb=>by cases ha;cases hb;exact h3
 |_+3,_,_,ha,_=>by cases ha
theorem kX {P v:List Nat}(d:D)(h:Y7 P v d):Kf d:=by
 obtain⟨q,rfl,_⟩:=h;exact Kf.prim _
theorem sU {v N Pn:List Nat}{t i c z x:Nat}(hz:N[i]?=some z)(hx:v[i]?=some x)(ht:t<RB)(hxl:x<RB)(hc:c<=RB)(hzl:z<RB)(hI:AQ N+t*AQ (v.take i)=AQ Pn+RB^i*c):
  ∃(p x' lo hi d c':Nat) (e:Int),IntKind.i64.wrap ((t:Int)*(x:Int))=(p:Int)/\IntKind.i64.wrap ((p:Int)+(c:Int))=(x':Int)/\((x':Int)).tmod 1000000000=(lo:Int) /\
  IntKind.i64.wrap (((x':Int)).tdiv 1000000000)=(hi:Int)/\IntKind.i64.wrap ((z:Int)-(lo:Int))=e/\d<RB/\c'<=RB/\AQ (N.set i d)+t*AQ (v.take (i+1))=AQ Pn+RB^(i+1)*c' /\
  ((decide (e<0)=false/\e=(d:Int)/\hi=c')\/(decide (e<0)=true/\IntKind.i64.wrap (e+1000000000)=(d:Int)/\IntKind.i64.wrap ((hi:Int)+1)=(c':Int))):=by
 obtain⟨p,lo,hi,x',d,c',k1,k2,k3,k4,k5,k6,k7,k8,k9⟩:=ph ht hxl hc hzl;have J:=j9 (b:=0) (c':=0) (lo:=t*x+c) (b':=c') (d:=d) (A:=N) (P:=Pn) (v:=v) (q:=t) hz hx hI rfl (by rw[<-k8];exact FD d (t*x) c ▸ rfl);refine⟨p,x',lo,hi,d,c',_,k1,k2,k3,k4,k5,k6,k7,by rw[J,BV],?_⟩;rcases k9 with⟨h1,h2⟩|⟨h1,h2,h3,h4⟩
 ·exact .inl ⟨Az (by rw[h2];exact Int.not_lt.2 (Int.natCast_nonneg d)),h2,h1.symm⟩
 ·exact .inr ⟨Aw h2,h3,by rw[h1];exact h4⟩
theorem rJ {v N Nb:List Nat}{i c z x:Nat}(hz:N[i]?=some z)(hx:v[i]?=some x)(hxl:x<RB)(hc:c<=1)(hzl:z<RB)(hI:AQ N+RB^i*c=AQ Nb+AQ (v.take i)):
  ∃(p s d c':Nat),IntKind.i64.wrap ((z:Int)+(x:Int))=(p:Int)/\IntKind.i64.wrap ((p:Int)+(c:Int))=(s:Int)/\((s:Int)).tmod 1000000000=(d:Int) /\
  IntKind.i64.wrap (((s:Int)).tdiv 1000000000)=(c':Int)/\d<RB/\c'<=1/\AQ (N.set i d)+RB^(i+1)*c'=AQ Nb+AQ (v.take (i+1)):=by
 obtain⟨p,s,d,c',k1,k2,k3,k4,k5,k6,rfl,rfl⟩:=pQ hzl hxl hc;exact⟨p,s,_,_,k1,k2,k3,k4,k5,k6,j8 hz hx hI⟩
theorem kt {U:List Nat}{k:Nat}(h:AQ U<RB^k)(hk:k<=U.length):AQ (U.take k)=AQ U:=by
 have e:AQ U=AQ (U.take k)+RB^k*AQ (U.drop k):=by
  conv=>lhs;rw[<-Fq k U]
  rw[J9,Bc,Fp hk]
 rcases D7 (AQ (U.drop k))with h0|h0
 ·rw[h0,FE,Dv]at e;exact e.symm
 ·exfalso
  have:=Cy (RB^k) h0
  omega
theorem kr {P v:List Nat}{m p0 p1 p2 v2 v1:Nat}(S:Ld P v m p0 p1 p2 v2 v1):∃Pn,P=Pn++[p2]/\Pn.length=m+2/\Rd Pn/\AQ P=AQ Pn+RB^(m+2)*p2:=by
 have hl:=S.lP;have e:P=P.take (m+2)++[p2]:=by
  rw[<-Fy S.h2,Gw]
 have hn:(P.take (m+2)).length=m+2:=by rw[Bc];omega
 refine⟨P.take (m+2),e,hn,S.wP.take _,?_⟩
 conv=>lhs;rw[e]
 rw[Hw hn]
theorem dt {P N:List Nat}{m z V:Nat}(hl:N.length=m+2)(hN:Rd N)(hz:z<RB)(hv:AQ N+RB^(m+2)*z=AQ P%V):(N++[z]).length=m+3/\Rd (N++[z])/\AQ (N++[z])=AQ P%V:=by
 refine⟨by rw[Be,hl];rfl,Rd.append hN λa ha=>?_,by rw[Hw hl,hv]⟩;simp only[A8,Dq,or_false]at ha;subst ha;exact hz
set_option maxHeartbeats 4000000
theorem nU (a b m:Nat)(hab:b<=a)(ha:(Ae a).length<1000000)(hb:(Ae b).length=m+2):AL C0 228 [rD a,rD b] (.tup [rD (a/b),rD (a%b)]):=by
 have hlen:=Ja b a hab;have cc:=Si a b (by omega) (by omega);have e1:=Rk hab;obtain⟨y,hy⟩:=Cf (l:=Ae b) (i:=m+1) (by omega);have yl:y<RB:=FK b y (Ax hy);obtain⟨f,ef,f0,fl,hvl⟩:=d9X hb hy;have wf:IntKind.i64.wrap ((1000000000:Int).tdiv ((y+1:Nat):Int))=(f:Int):=by
  rw[ef];exact P7 1000000000 (y+1) (BY (Gn _ _) (by decide))
 have wy:IntKind.i64.wrap ((y:Int)+1)=((y+1:Nat):Int):=wI (by omega) (by unfold RB at yl;omega);have lf:Ae f=[f]:=Qv (Nat.pos_iff_ne_zero.1 f0) fl;have cv:=WS b f (by omega) (by rw[lf];exact(by decide:1<1000000));have cu:=WS a f (by omega) (by rw[lf];exact(by decide:1<1000000));have hu1:=Tr a f;have hu2:=Ja a (a*f) (Nat.le_mul_of_pos_right _ f0);rw[lf]at hu1;change _<=_+1 at hu1;obtain⟨v,hv⟩:∃v,v=Ae (b*f):=⟨_,rfl⟩
 have wv:Rd v:=by rw[hv];exact FK _
 have vv:AQ v=b*f:=by rw[hv];exact Ea _
 rw[<-hv]at hvl;obtain⟨U0,hU0⟩:∃U0,U0=Ae (a*f):=⟨_,rfl⟩
 have wU0:Rd U0:=by rw[hU0];exact FK _
 have vU0:AQ U0=a*f:=by rw[hU0];exact Ea _
 rw[<-hU0]at hu1 hu2;obtain⟨v1,h1⟩:=Cf (l:=v) (i:=m+1) (by omega);obtain⟨v2,h2⟩:=Cf (l:=v) (i:=m) (by omega);have v10:v1≠0:=Qw (b*f) (by rw[<-hv];exact hvl) (by rw[<-hv];exact h1);have b0:0<b:=by
  refine EX λh=>?_
  subst h;rw[HP]at hb;cases hb
 have vpos:0<AQ v:=by rw[vv];exact IK b0 f0
 have hup:=Jd a;have hbge:=Tu hb;unfold rD rL at cc cv cu;rw[lf,<-hv]at cv;rw[lf,<-hU0]at cu;refine Af.walk w1 Vi rfl λF=>?_
 change AC C0 F none F _ ⟨Dj 0 [.sl false 1 ((Ae a).map Ag),.sl false 1 ((Ae b).map Ag)],[],0⟩ _;generalize Ae a=la at*;generalize Ae b=lb at*;obtain⟨lq,hlq⟩:∃lq,la.length=lq+(m+2):=⟨la.length-(m+2),by omega⟩
 have hy':=EH hy;have e3:((((lb.map Ag).length:Nat):Int)==1)=false:=by rw[Ab,hb];exact Bo.2 (by omega)
 have elb:(((lb.map Ag).length:Nat):Int)=((m+2:Nat):Int):=by rw[Ab,hb]
 have wlb0:IntKind.i64.wrap (((m+2:Nat):Int)-1)=((m+1:Nat):Int):=by rw[wI];omega
 have wlb:IntKind.i64.wrap ((((lb.map Ag).length:Nat):Int)-1)=((m+1:Nat):Int):=by rw[elb];exact wlb0
 have ea:(((la.map Ag).length:Nat):Int)=(la.length:Int):=by rw[Ab]
 have ev:(((v.map Ag).length:Nat):Int)=((m+2:Nat):Int):=by rw[Ab,hvl]
 have eu:(((U0.map Ag).length:Nat):Int)=(U0.length:Int):=by rw[Ab]
 have wa1:IntKind.i64.wrap ((la.length:Int)+1)=((la.length+1:Nat):Int):=wI;have wq0:IntKind.i64.wrap (((la.length+1:Nat):Int)-((m+2:Nat):Int))=((lq+1:Nat):Int):=by rw[wI];omega
 have wq1:IntKind.i64.wrap (((lq+1:Nat):Int)-1)=((lq+1:Nat):Int)-1:=wI;have wraw:IntKind.i64.wrap (IntKind.i64.wrap (((la.length+1:Nat):Int)-((m+2:Nat):Int))-1)=((lq+1:Nat):Int)-1:=by rw[wq0,wq1]
 have r3:List.replicate (lq+1) (ofV (.int .i64 0))=(List.replicate (lq+1) 0).map Ag:=by rw[Kw];rfl
 refine sR 0 ?_;refine AC.seq ?_;refine sR 100 ?_;refine cI cc ?_;rw[e1];refine AO ?_;refine An ?_;refine AC.seq ?_;refine sZ 300 ?_;refine AX e3 ?_;refine AO ?_;refine An ?_;refine sZ 600 ?_;refine AG (Bb wlb elb wlb0 kN) ?_;refine By kT hy' ?_;refine AG (Ao wy wf kN) ?_;refine sR 700 ?_;refine BF.pure [rL lb,rL [f]] _ ⟨.refl _,.nn true 1 _,trivial⟩ cv AJ ?_;refine BU ?_;refine sZ 800 ?_;refine AX ev ?_;clear cc e1 e3 elb wlb wlb0 hy' yl hy wy wf hb;refine DJ (α:=Nat×Nat) (λp=>⟨[(0,.sl false 1 (la.map Ag)),(8,.sl true 1 [Ag f]),(9,.sl false 1 (v.map Ag)),(10,i64 ((m+2:Nat):Int)),(11,.osl 904 p.1 1 0 U0.length)],[⟨904,p.1,3,1,U0.map Ag⟩],p.2⟩) (λ_=>True) ?_ ?_
 ·refine rI 900 ?_
  refine BF.pure [rL la,rL [f]] _ ⟨.refl _,.nn true 1 _,trivial⟩ cu AJ ?_;refine BU ?_;exact⟨rfl,⟨_,_⟩,trivial,AK⟩
 rintro⟨g,n2⟩ -;dsimp only;refine DJ (α:=Nat×Nat×List Nat×Nat) (λp=>⟨[(0,.sl false 1 (la.map Ag)),(8,.sl true 1 [Ag f]),(9,.sl false 1 (v.map Ag)),(10,i64 ((m+2:Nat):Int)),(11,.osl p.1 p.2.1 1 0 (la.length+1))],[⟨p.1,p.2.1,3,1,p.2.2.1.map Ag⟩],p.2.2.2⟩) (λp=>p.2.2.1.length=la.length+1/\Rd p.2.2.1/\AQ p.2.2.1=a*f) ?_ ?_
 ·refine AC.block ?_
  rcases Nat.eq_or_lt_of_le hu1 with hl|hl
  ·have eN:decide (((la.length+1:Nat):Int)<((la.length+1:Nat):Int))=false:=Bd
   rw[hl];refine HH (α:=Nat) (λn=>⟨[(0,.sl false 1 (la.map Ag)),(8,.sl true 1 [Ag f]),(9,.sl false 1 (v.map Ag)),(10,i64 ((m+2:Nat):Int)),(11,.osl 904 g 1 0 (la.length+1))],[⟨904,g,3,1,U0.map Ag⟩],n⟩) (λ_=>0) (λ_ F'=>F'=F) n2 rfl AK ?_;rintro n3 F' rfl;refine AC.seq ?_;refine sZ 1000 ?_;refine AX (Ao ea wa1 eN) ?_;refine AO ?_;refine CG ?_;exact⟨rfl,⟨904,g,U0,_⟩,⟨hl,wU0,vU0⟩,AK⟩
  ·have hl2:U0.length=la.length:=by omega
   have eN:decide (((la.length+1:Nat):Int)<((la.length+1:Nat):Int))=false:=Bd;have eY:decide ((la.length:Int)<((la.length+1:Nat):Int))=true:=BR;have hap:List.take la.length (U0.map Ag)++[D.prim (Value.int IntKind.i64 0)]=(U0++[0]).map Ag:=by
    rw[Cn (by rw[Ab];omega),Cz];rfl
   rw[hl2];refine HH (α:=Bool×Nat×Nat) (λp=>match p with
    |(false,_,n)=>⟨[(0,.sl false 1 (la.map Ag)),(8,.sl true 1 [Ag f]),(9,.sl false 1 (v.map Ag)),(10,i64 ((m+2:Nat):Int)),(11,.osl 904 g 1 0 la.length)],[⟨904,g,3,1,U0.map Ag⟩],n⟩
    |(true,g1,n)=>⟨[(0,.sl false 1 (la.map Ag)),(8,.sl true 1 [Ag f]),(9,.sl false 1 (v.map Ag)),(10,i64 ((m+2:Nat):Int)),(11,.osl 1102 g1 1 0 (la.length+1))],[⟨1102,g1,3,1,(U0++[0]).map Ag⟩],n⟩) (λp=>cond p.1 0 1) (λ_ F'=>F'=F) (false,0,n2) rfl AK ?_
   rintro⟨_|_,g1,n3⟩ F' rfl
   ·dsimp only
    refine AC.seq ?_;refine sZ 1000 ?_;refine AX (Ao ea wa1 eY) ?_;refine AO ?_;refine An ?_;refine AC.block ?_;refine rI 1100 ?_;refine⟨(true,n3+8,n3+10),rfl,(by decide:(0:Nat)<1),?_⟩;dsimp only;rw[hap];exact AK
   ·dsimp only
    refine AC.seq ?_;refine sZ 1000 ?_;refine AX (Ao ea wa1 eN) ?_;refine AO ?_;refine CG ?_;refine⟨rfl,⟨1102,g1,U0++[0],_⟩,⟨by rw[Be,hl2];rfl,Rd.append wU0 λa ha=>?_,by rw[VM];exact vU0⟩,AK⟩;simp only[A8,Dq,or_false]at ha;subst ha;decide
 rintro⟨K,gK,U1,n3⟩ ⟨lU1,wU1,vU1⟩;dsimp only at lU1 wU1 vU1⊢;refine e1j [(8,.sl true 1 [Ag f]),(9,.sl false 1 (v.map Ag)),(10,i64 ((m+2:Nat):Int)),(11,.osl 1102 n3 1 0 (la.length+1))] ⟨.inl rfl,.inl rfl,.inl rfl,.inr ⟨_,_,_,rfl,rfl⟩,trivial⟩ ?_;clear cu hU0 vU0 wU0 hu1 hu2 cv;refine DJ (α:=Nat×Nat) (λp=>⟨[(8,.sl true 1 [Ag f]),(9,.sl false 1 (v.map Ag)),(10,i64 ((m+2:Nat):Int)),(11,.osl 1102 n3 1 0 (la.length+1)),(12,.osl 1204 p.1 1 0 (lq+1))],[⟨1204,p.1,3,1,(List.replicate (lq+1) 0).map Ag⟩,⟨1102,n3,3,1,U1.map Ag⟩],p.2⟩) (λ_=>True) ?_ ?_
 ·refine As 1200 ?_
  refine AX (Ao wq0 kN r3) ?_;exact⟨trivial,⟨_,_⟩,trivial,by rw[<-r3];exact AK⟩
 rintro⟨g,n2⟩ -;dsimp only;have I0:Mz (a*f) v U1 (List.replicate (lq+1) 0) (la.length+1) (lq+1) (lq+1):=by
  refine ku f0 vU1 vv wU1 lU1 rfl (Ar _) ?_
  have:RB^(lq+1)*RB^(m+1)<=RB^(lq+1)*b:=Cy _ hbge
  rw[<-Gq,show lq+1+(m+1)=la.length by omega]at this;omega
 clear hup hbge;refine AC.seq ?_;refine sZ 1300 ?_;refine AX wraw ?_;refine AC.block ?_;refine AC.loop (α:=Nat×List Nat×List Nat×Nat) (λp=>⟨[(8,.sl true 1 [Ag f]),(9,.sl false 1 (v.map Ag)),(10,i64 ((m+2:Nat):Int)),(11,.osl 1102 n3 1 0 (la.length+1)),(12,.osl 1204 g 1 0 (lq+1)),(13,i64 ((p.1:Int)-1))],[⟨1204,g,3,1,p.2.2.1.map Ag⟩,⟨1102,n3,3,1,p.2.1.map Ag⟩],p.2.2.2⟩) (λp=>p.1)
  (λp=>p.1<=lq+1/\Mz (a*f) v p.2.1 p.2.2.1 (la.length+1) (lq+1) p.1) (lq+1,U1,List.replicate (lq+1) 0,_) ⟨Ar _,I0⟩ AK ?_
 rintro⟨k,u,q,n4⟩ F ⟨hk,I⟩;dsimp only at hk I⊢;clear I0 wq0 wq1 wraw r3 ea eu wU1 vU1 lU1;refine AC.seq ?_;refine sR 1400 ?_;refine AO ?_
 (refine B1 (λh20=>?_) (λh20=>?_))<;>(try simp only[Bq,B0]at h20)<;>(try simp only[h20])
 ·obtain⟨j,rfl⟩:∃j,k=j+1:=⟨k-1,by
   have:(k:Int)-1>=0:=by simpa using h20
   omega⟩
  have wj:((j+1:Nat):Int)-1=(j:Int):=by omega
  obtain⟨p0,p1,p2,SI,hz,hP⟩:=kq I hvl wv v1 v2 h2 h1 (EX v10) (by omega);have lu:=I.lU;have cg:=rQ u v j m p0 p1 p2 v2 v1 SI (by omega) (by omega);rw[wj];refine An ?_;refine AC.seq ?_;refine AC.block ?_;refine sR 1600 ?_;refine BF.own _ (e1A cg rfl (d9l (Ds.of (U9 lu)) (Ds.of (.refl _)) (Ds.of (.refl _))) AJ kX) ?_;rintro d H' n5 ⟨⟨t,rfl,ht1,ht2,ht3⟩,rfl,rfl⟩;refine BU ?_;obtain⟨Pn,eP,lPn,wPn,vPn⟩:=kr SI;have hA:(u.take j).length=j:=by rw[Bc];omega
  have p2l:=SI.p2l;have hdl:AQ ((u.drop j).take (m+3))/AQ v<RB:=Fr SI.less;have hU:u.map Ag=blk (u.take j) Pn (p2:Int) (u.drop (j+(m+3))):=by rw[VH,<-eP,<-ib]
  have J:=λP' h1 h2 h3=>kp (P':=P') I vpos (by omega) (by omega) hz hP h1 h2 h3 hdl
  obtain⟨zq,hzq⟩:=Cf (l:=q) (i:=j) (by rw[I.lQ];omega);have hzq':=EH hzq;have wi':IntKind.i64.wrap ((j:Int)-1)=(j:Int)-1:=wI;have wjn:IntKind.i64.wrap ((j:Int)+((m+2:Nat):Int))=((j+(m+2):Nat):Int):=by rw[wI];omega
  have hVW:=Gz wv;rw[show v.length=m+2 from hvl]at hVW;rw[hU];clear hU cg hP hz SI eP h20 wj I h1 h2 v10;generalize(u.drop j).take (m+3)=P at*;generalize u.take j=A at*;generalize u.drop (j+(m+3))=Z at*;refine sR 1700 ?_;refine AC.seq ?_;refine sR 1800 ?_;refine AC.block ?_;refine AC.loop (α:=Nat×Nat×List Nat×Nat) (λp=>⟨[(8,.sl true 1 [Ag f]),(9,.sl false 1 (v.map Ag)),(10,i64 ((m+2:Nat):Int)),(11,.osl 1102 n3 1 0 (la.length+1)),(12,.osl 1204 g 1 0 (lq+1)),(13,i64 (j:Int)),(14,Ag t),(15,Ag p.2.1),(16,i64 p.1)],[⟨1204,g,3,1,q.map Ag⟩,⟨1102,n3,3,1,blk A p.2.2.1 (p2:Int) Z⟩],p.2.2.2⟩) (λp=>m+2-p.1)
   (λp=>p.1<=m+2/\p.2.1<=RB/\p.2.2.1.length=m+2/\Rd p.2.2.1/\AQ p.2.2.1+t*AQ (v.take p.1)=AQ Pn+RB^p.1*p.2.1) (0,0,Pn,_) ⟨BW _,BW _,lPn,wPn,by simp[AQ]⟩ AK ?_
  rintro⟨i,c,N,n6⟩ F ⟨hi,hc,hNl,hNw,hI⟩;dsimp only at hi hc hNl hNw hI⊢;refine AC.seq ?_;refine sR 1900 ?_;refine AO ?_
  (refine B1 (λhlt=>?_) (λhlt=>?_))<;>(try simp only[Bq,B0]at hlt)<;>(try simp only[hlt])
  ·have hi2:i<m+2:=by
    have:=DN hlt
    omega
   obtain⟨x,hx⟩:=Cf (l:=v) (i:=i) (by omega);have hx':=EH hx;have hxl:x<RB:=wv x (Ax hx);obtain⟨z,hz⟩:=Cf (l:=N) (i:=i) (by omega);have hzl:=hNw z (Ax hz);have hz':=bN (A:=A) (Z:=Z) (top:=(p2:Int)) hz;rw[hA]at hz';obtain⟨p,x',lo,hi',d,c',e,k1,k2,k3,k4,k5,dl,cl,hI',hb⟩:=sU hz hx ht1 hxl hc hzl hI;have hset:(blk A N (p2:Int) Z).set (j+i) (Ag d)=blk A (N.set i d) (p2:Int) Z:=by
    have:=Z4 (A:=A) (Z:=Z) (top:=(p2:Int)) (i:=i) (d:=d) (N:=N) (by omega)
    rwa [hA]at this
   have wij:IntKind.i64.wrap ((i:Int)+(j:Int))=((j+i:Nat):Int):=by rw[wI];omega
   have wi:IntKind.i64.wrap ((i:Int)+1)=((i+1:Nat):Int):=wI;clear hI J hVW vPn ht2 ht3 hdl;refine An ?_;refine AC.seq ?_;refine AC.block ?_;refine sZ 2100 ?_;refine AG kN ?_;refine By kT hx' ?_;refine AG (Ao kN k1 k2) ?_;refine sZ 2200 ?_;refine AG (D9 wij kN BV hz' k3 k5) ?_;refine sZ 2300 ?_;refine AX k4 ?_;rcases hb with⟨b1,b2,b3⟩|⟨b1,b2,b3⟩
   ·refine AC.seq ?_
    refine sZ 2400 ?_;refine AX b1 ?_;refine AO ?_;refine An ?_;subst b2 b3;refine As 2700 ?_;refine AG (Bb wij kN BV hz') ?_;rw[hset];refine As 2000 ?_;refine AX wi ?_;exact⟨(i+1,hi',N.set i d,_),⟨hi2,cl,by dsimp only;rw[DK];exact hNl,hNw.set dl,hI'⟩,by dsimp only;omega,AK⟩
   ·refine AC.seq ?_
    refine sZ 2400 ?_;refine AX b1 ?_;refine AO ?_;refine sZ 2500 ?_;refine AX b2 ?_;refine As 2600 ?_;refine AX b3 ?_;refine As 2700 ?_;refine AG (Bb wij kN BV hz') ?_;rw[hset];refine As 2000 ?_;refine AX wi ?_;exact⟨(i+1,c',N.set i d,_),⟨hi2,cl,by dsimp only;rw[DK];exact hNl,hNw.set dl,hI'⟩,by dsimp only;omega,AK⟩
  ·have hi2:i=m+2:=by
    have:=Do hlt
    omega
   subst hi2;rw[Gw]at hI;have hNlt:=Gz hNw;rw[hNl]at hNlt;have htop:=VI (A:=A) (Z:=Z) (top:=(p2:Int)) hNl;have hstop:=ZA (A:=A) (Z:=Z) (top:=(p2:Int)) (t:=(p2:Int)-(c:Int)) hNl;have htop2:=VI (A:=A) (Z:=Z) (top:=(p2:Int)-(c:Int)) hNl;rw[hA]at htop hstop htop2;have p2l9:p2<1000000000:=p2l;have hc9:c<=1000000000:=hc;have wzc:IntKind.i64.wrap ((p2:Int)-(c:Int))=(p2:Int)-(c:Int):=wI;refine CG ?_;refine sZ 2800 ?_;refine AG (CS wjn kN BV htop wzc) ?_;rw[hstop];rcases BE p2 c with h|h
   ·have e29:decide ((p2:Int)-(c:Int)<0)=true:=BR
    have ht9:t<1000000000:=ht1;have wt:IntKind.i64.wrap ((t:Int)-1)=(t:Int)-1:=wI;refine AC.seq ?_;refine sZ 2900 ?_;refine AG (CS wjn kN BV htop2 e29) ?_;refine AO ?_;refine sZ 3000 ?_;refine AX wt ?_;refine sR 3100 ?_;refine AC.seq ?_;refine sR 3200 ?_;refine AC.block ?_;refine AC.loop (α:=Nat×Nat×List Nat×Nat) (λp=>⟨[(8,.sl true 1 [Ag f]),(9,.sl false 1 (v.map Ag)),(10,i64 ((m+2:Nat):Int)),(11,.osl 1102 n3 1 0 (la.length+1)),(12,.osl 1204 g 1 0 (lq+1)),(13,i64 (j:Int)),(14,i64 ((t:Int)-1)),(19,Ag p.2.1),(20,i64 p.1)],[⟨1204,g,3,1,q.map Ag⟩,⟨1102,n3,3,1,blk A p.2.2.1 ((p2:Int)-(c:Int)) Z⟩],p.2.2.2⟩) (λp=>m+2-p.1)
     (λp=>p.1<=m+2/\p.2.1<=1/\p.2.2.1.length=m+2/\Rd p.2.2.1/\AQ p.2.2.1+RB^p.1*p.2.1=AQ N+AQ (v.take p.1)) (0,0,N,_) ⟨BW _,BW _,hNl,hNw,by simp[AQ]⟩ AK ?_
    rintro⟨i,c2,N2,n7⟩ F ⟨hi,hc2,hNl2,hNw2,hI2⟩;dsimp only at hi hc2 hNl2 hNw2 hI2⊢;clear htop hstop;refine AC.seq ?_;refine sR 3300 ?_;refine AO ?_
    (refine B1 (λhlt2=>?_) (λhlt2=>?_))<;>(try simp only[Bq,B0]at hlt2)<;>(try simp only[hlt2])
    ·have hi2:i<m+2:=by
      have:=DN hlt2
      omega
     obtain⟨x,hx⟩:=Cf (l:=v) (i:=i) (by omega);have hx':=EH hx;have hxl:x<RB:=wv x (Ax hx);obtain⟨z,hz⟩:=Cf (l:=N2) (i:=i) (by omega);have hzl:=hNw2 z (Ax hz);have hz':=bN (A:=A) (Z:=Z) (top:=(p2:Int)-(c:Int)) hz;rw[hA]at hz';obtain⟨p,s,d,c',k1,k2,k3,k4,dl,cl,hI'⟩:=rJ hz hx hxl hc2 hzl hI2;have hset:(blk A N2 ((p2:Int)-(c:Int)) Z).set (j+i) (Ag d)=blk A (N2.set i d) ((p2:Int)-(c:Int)) Z:=by
      have:=Z4 (A:=A) (Z:=Z) (top:=(p2:Int)-(c:Int)) (i:=i) (d:=d) (N:=N2) (by omega)
      rwa [hA]at this
     have wij:IntKind.i64.wrap ((i:Int)+(j:Int))=((j+i:Nat):Int):=by rw[wI];omega
     have wi:IntKind.i64.wrap ((i:Int)+1)=((i+1:Nat):Int):=wI;clear hI2 hI J hVW vPn ht2 ht3 hdl;refine An ?_;refine AC.seq ?_;refine AC.block ?_;refine AC.seq ?_;refine CN 3500 [0,1,2,3,4,5,6,7,8,9,10,11] [12,13] ?_;refine AG (Bb wij kN BV hz') ?_;refine By kT hx' ?_;refine AG (Ao kN k1 k2) ?_;refine sZ 3600 ?_;refine AG (CS wij kN BV hz' k3) ?_;rw[hset];refine As 3700 ?_;refine AX k4 ?_;refine As 3400 ?_;refine AX wi ?_;exact⟨(i+1,c',N2.set i d,_),⟨hi2,cl,by dsimp only;rw[DK];exact hNl2,hNw2.set dl,hI'⟩,by dsimp only;omega,AK⟩
    ·have hi2:i=m+2:=by
      have:=Do hlt2
      omega
     subst hi2;rw[Gw]at hI2;have hNlt2:=Gz hNw2;rw[hNl2]at hNlt2;obtain⟨t0,g1,g2,g3⟩:=sS hI vPn h hNlt ht3 hI2 hc2 hNlt2 hVW;have htop3:=VI (A:=A) (Z:=Z) (top:=(p2:Int)-(c:Int)) hNl2;have hstop3:=ZA (A:=A) (Z:=Z) (top:=(p2:Int)-(c:Int)) (t:=((0:Nat):Int)) hNl2;rw[hA]at htop3 hstop3;have wfin:IntKind.i64.wrap ((p2:Int)-(c:Int)+(c2:Int))=((0:Nat):Int):=by rw[g3];rfl
     have et:(t:Int)-1=((t-1:Nat):Int):=by omega
     obtain⟨f1,f2,f3⟩:=dt (P:=P) (V:=AQ v) hNl2 hNw2 (z:=0) (by decide) (by rw[FE,Dv];exact g2.symm);have J1:=J _ f1 f2 f3;rw[g1]at J1;refine CG ?_;refine As 3800 ?_;refine AG (CS wjn kN BV htop3 wfin) ?_;rw[hstop3,VH,et];refine As 3900 ?_;refine AG (Ao kN BV hzq') ?_;rw[Nz];refine As 1500 ?_;refine AX wi' ?_;exact⟨(j,A++((N2++[0])++Z),q.set j (t-1),_),⟨by dsimp only;omega,J1⟩,by dsimp only;omega,AK⟩
   ·have e29:decide ((p2:Int)-(c:Int)<0)=false:=Bd
    obtain⟨g1,g2⟩:=sQ hI vPn h ht2;have ezc:(p2:Int)-(c:Int)=((p2-c:Nat):Int):=by omega
    obtain⟨f1,f2,f3⟩:=dt hNl hNw (z:=p2-c) (by omega) g2.symm;have J1:=J _ f1 f2 f3;rw[g1]at J1;refine AC.seq ?_;refine sZ 2900 ?_;refine AG (CS wjn kN BV htop2 e29) ?_;refine AO ?_;refine An ?_;rw[ezc,VH];refine As 3900 ?_;refine AG (Ao kN BV hzq') ?_;rw[Nz];refine As 1500 ?_;refine AX wi' ?_;exact⟨(j,A++((N++[p2-c])++Z),q.set j t,_),⟨by dsimp only;omega,J1⟩,by dsimp only;omega,AK⟩
 ·have hk:k=0:=by
   have:¬((k:Int)-1>=0):=by simpa using h20
   omega
  subst hk;obtain⟨q1,q2⟩:=nS f0 I vv;have wu:=I.wU;have wqq:=I.wq;have lu:=I.lU;have lqq:=I.lQ;have hlt:AQ u<RB^(m+2):=by
   have:=I.less
   rw[GH]at this;have h:=Gz wv;rw[show v.length=m+2 from hvl]at h;omega
  have hta:=kt hlt (by omega);have hll:=MC hlt;rw[q2]at hll hta;have ed:a%b*f/f=a%b:=Nat.mul_div_cancel _ f0;have cd:=Xv (a%b*f) f f0 fl (by omega);rw[ed]at cd;clear I;refine CG ?_;refine AC.weak ⟨[(8,.sl true 1 [Ag f]),(10,i64 ((m+2:Nat):Int)),(11,.sl false 1 (u.map Ag)),(12,.sl false 1 (q.map Ag))],[],_⟩ ⟨.drop (.drop .nil),⟨.refl _,.refl _,U9 lu,U9 lqq,trivial⟩,Ar _⟩ ?_;have e5:List.take (m+2) (u.map Ag)=(u.take (m+2)).map Ag:=by
   rw[Oh]
  have eu2:(u.map Ag).length=la.length+1:=by rw[Ab];omega
  have ct:=Ml (u.take (m+2)) (wu.take _) (by rw[Bc];omega);rw[hta]at ct;refine AC.seq ?_;refine CN 4000 [0,1,2,3,4,5,6,7,8,9,10,11] [12] ?_;refine AG (Bb kN Nat.sub_zero (@GH D) e5) ?_;refine Bf.same _ ct AJ ?_;have hf0:([Ag f]:List D)[0]?=some (Ag f):=rfl;refine AG kN ?_;refine By kT hf0 ?_;refine AG kN ?_;refine Bf.same _ cd AJ ?_;refine AG kN ?_;refine sR 4100 ?_;refine BF.same _ (Ml q wqq (by omega)) AJ ?_;refine BU ?_;refine Aj ?_;exact AM (by rw[q1]) AA.out
theorem Wz (a b:Nat)(hb:b≠0)(ha:(Ae a).length<1000000)(hbl:(Ae b).length<1000000):AL C0 228 [rD a,rD b] (.tup [rD (a/b),rD (a%b)]):=by
 rcases BE a b with h|h
 ·exact nT a b h ha hbl
 ·rcases hl:(Ae b).length with _|m
  ·have:=Jd b
   rw[hl]at this;simp at this;exact Ak this hb
  ·rcases m with _|m
   ·exact pZ a b h ha hl hb
   ·exact nU a b m h ha hl
abbrev rZ (z:Int):D:=.agg [Al (decide (z<0)),rD z.natAbs]
def sg (neg:Bool)(n:Nat):Int:=if neg then -(n:Int)else n
theorem oP {n:Nat}:0<(Ae n).length↔n≠0:=by
 constructor
 ·rintro h rfl
  rw[HP]at h;cases h
 ·intro h
  rw[Jc h,Bu];exact Nat.succ_pos _
theorem Yz (n:Nat):decide (((((Ae n).map Ag).length:Nat):Int)>0)=decide (n≠0):=by
 have:=@oP n
 rw[Ab];exact DO.2 ⟨λh=>this.1 (by omega),λh=>by have:=this.2 h;omega⟩
theorem zz (neg:Bool)(n:Nat):rZ (sg neg n)=.agg [Al (neg&&decide (n≠0)),rD n]:=by
 unfold rZ sg;cases neg
 ·simp only[Fs,if_false,Hk,E5]
  rw[Bd]
 ·simp only[if_true,Gl,ND,E5]
  congr 3
  exact DO.2 (by omega)
theorem SL (z:Int):sg (decide (z<0)) z.natAbs=z:=by
 unfold sg
 by_cases h:z<0
 ·rw[Aw h,AI rfl];omega
 ·rw[Az h,AH (by decide)];omega
theorem V3 (b:Bool)(n:Nat):CE (.agg [Al b,.sl false 1 ((Ae n).map Ag)]):=.agg λd hd=>by
 simp only[A8,Dq,or_false]at hd;rcases hd with rfl|rfl
 ·exact .prim _
 ·exact PV _
def Hg (z:Int):Prop:=(Ae z.natAbs).length<1000000
instance  (b:Bool)(n:Nat):AA (.agg [Al b,rD n]):=⟨V3 b n⟩
theorem ZF (a b:Nat)(fa:(Ae a).length<1000000)(fb:(Ae b).length<1000000):AL C0 182 [rD a,rD b] (rD (Nat.gcd a b)):=by
 refine Af.walk w1 uH rfl λF=>?_
 change AC C0 F none F _ ⟨Dj 0 [.sl false 1 ((Ae a).map Ag),.sl false 1 ((Ae b).map Ag)],[],0⟩ _;refine sR 0 ?_;refine AC.seq ?_;refine AC.block ?_;refine AC.loop (α:=Nat×Nat×Nat) (λp=>⟨[(0,.sl false 1 ((Ae p.1).map Ag)),(1,.sl false 1 ((Ae p.2.1).map Ag))],[],p.2.2⟩) (λp=>p.2.1)
  (λp=>Nat.gcd p.1 p.2.1=Nat.gcd a b/\(Ae p.1).length<1000000/\(Ae p.2.1).length<1000000) (a,b,_) ⟨rfl,fa,fb⟩ AK ?_
 rintro⟨x,y,n⟩ F ⟨h1,h2,h3⟩;dsimp only at h1 h2 h3⊢;have et:=Yz y;refine AC.seq ?_;refine sZ 100 ?_;refine AX et ?_
 by_cases hy:y=0
 ·rw[Az (by simpa using hy)]
  subst hy;refine AO ?_;refine CG ?_;refine sR 400 ?_;refine Aj ?_;refine AM (d0:=rD x) ?_ AA.out;rw[<-h1,Nat.gcd_zero_right]
 ·rw[Aw hy]
  have cd:=Wz x y hy h2 h3;refine AO ?_;refine An ?_;refine AC.block ?_;refine sR 200 ?_;refine cI cd ?_;refine rI 300 ?_;refine⟨(y,x%y,_),⟨?_,h3,?_⟩,B7 x (by omega),AK⟩
  ·dsimp only
   rw[<-h1,Oi x y,Nat.gcd_rec y x,Oi]
  ·exact Dy (Ja _ _ (Nat.mod_le x y)) h2
theorem Zr (neg:Bool)(l:List Nat)(h:Rd l)(hl:l.length<1000000000):AL C0 234 [Al neg,rL l] (rZ (sg neg (AQ l))):=by
 refine Af.walk w1 cJ rfl λF=>?_
 rw[zz];have ct:=Ml l h (by omega);generalize AQ l=n at*;have et:=Yz n;unfold rD at ct⊢;unfold rL at ct⊢;refine sR 0 ?_;refine sR 100 ?_;refine cI ct ?_;refine AC.seq ?_;cases neg
 ·refine As 200 ?_
  refine AG et ?_;refine Aj ?_;exact AM (by simp) (V3 _ n)
 ·refine As 200 ?_
  refine AG et ?_;refine Aj ?_;exact AM (by simp) (V3 _ n)
theorem MR (neg:Bool)(n:Nat)(h:(Ae n).length<1000000000):AL C0 234 [Al neg,rD n] (rZ (sg neg n)):=by
 have:=Zr neg (Ae n) (FK n) h
 rwa [Ea]at this
theorem ah (z:Int)(h:Hg z):AL C0 232 [rZ z] (rZ (-z)):=by
 have cs:=MR (!decide (z<0)) z.natAbs (Gp h (by decide));have e:rZ (sg (!decide (z<0)) z.natAbs)=rZ (-z):=by
  congr 1
  unfold sg
  by_cases hz:z<0
  ·rw[Aw hz];simp;omega
  ·rw[Az hz];simp;omega
 rw[e]at cs;refine Af.walk w1 uo rfl λF=>?_
 refine sR 0 ?_;refine sR 100 ?_;refine cI cs ?_;refine Aj ?_;exact AM rfl AA.out
theorem VV (x y:Int)(hx:Hg x)(hy:Hg y):AL C0 187 [rZ x,rZ y] (rZ (x*y)):=by
 have cm:=WS x.natAbs y.natAbs hx hy;have hl:(Ae (x.natAbs*y.natAbs)).length<1000000000:=Dy (Tr _ _) (by unfold Hg at hx hy;omega);have cs:=λb=>MR b (x.natAbs*y.natAbs) hl
 have e:sg (decide (x<0) != decide (y<0)) (x.natAbs*y.natAbs)=x*y:=by
  conv=>rhs;rw[<-SL x,<-SL y]
  generalize decide (x<0)=a;generalize decide (y<0)=b;unfold sg;cases a<;>cases b<;>simp[Int.neg_mul,Int.mul_neg]
 rw[<-e];refine Af.walk w1 vH rfl λF=>?_
 refine sR 0 ?_;refine AC.seq ?_;refine CN 100 [0,1,2,3,4,5,6,7,8,9] [10,11] ?_;refine AG kN ?_;refine Bf.same _ cm AJ ?_;refine AG kN ?_;refine BF.same _ (cs _) AJ ?_;refine BU ?_;refine Aj ?_;exact AM rfl AA.out
theorem nq {a b:Nat}(h:b<=a):decide (EQ (a:Int) (b:Int)>=0)=true:=Aw (by unfold EQ;split<;>(try split)<;>omega)
theorem nr {a b:Nat}(h:a<b):decide (EQ (a:Int) (b:Int)>=0)=false:=Az (by unfold EQ;split<;>(try split)<;>omega)
theorem xr (x y:Int)(hx:Hg x)(hy:Hg y):AL C0 186 [rZ x,rZ y] (rZ (x+y)):=by
 refine Af.walk w1 uL rfl λF=>?_
 unfold Hg at hx hy;cases hs:(decide (x<0)==decide (y<0))
 ·have hs':decide (x<0)≠decide (y<0):=by simpa using hs
  have hs2:(x<0/\¬y<0)\/(¬x<0/\y<0):=by
   by_cases h1:x<0<;>by_cases h2:y<0<;>simp_all
  have cc:=Si x.natAbs y.natAbs (by omega) (by omega);refine sR 0 ?_;refine AC.seq ?_;refine sZ 100 ?_;refine AX hs ?_;refine AO ?_;refine An ?_;refine AC.seq ?_;refine sR 300 ?_;refine cI cc ?_;rcases BE x.natAbs y.natAbs with h|h
  ·have cb:=iQ y.natAbs x.natAbs (Kt h) hy
   have cs:=MR (decide (y<0)) (y.natAbs-x.natAbs) (Dy (Xh _ _) (by omega));have e:sg (decide (y<0)) (y.natAbs-x.natAbs)=x+y:=by
    unfold sg
    by_cases hy0:y<0
    ·rw[Aw hy0,AI rfl];omega
    ·rw[Az hy0,AH (by decide)];omega
   rw[e]at cs;rw[nr h];refine AO ?_;refine An ?_;refine AC.seq ?_;refine CN 500 [0,1,2,3,4,5,6] [7,8] ?_;refine AG kN ?_;refine Bf.same _ cb AJ ?_;refine AG kN ?_;refine BF.same _ cs AJ ?_;refine BU ?_;refine Aj ?_;exact AM rfl AA.out
  ·have cb:=iQ x.natAbs y.natAbs h hx
   have cs:=MR (decide (x<0)) (x.natAbs-y.natAbs) (Dy (Xh _ _) (by omega));have e:sg (decide (x<0)) (x.natAbs-y.natAbs)=x+y:=by
    unfold sg
    by_cases hx0:x<0
    ·rw[Aw hx0,AI rfl];omega
    ·rw[Az hx0,AH (by decide)];omega
   rw[e]at cs;rw[nq h];refine AO ?_;refine AC.seq ?_;refine CN 400 [0,1,2,3,4,5,6] [7,8] ?_;refine AG kN ?_;refine Bf.same _ cb AJ ?_;refine AG kN ?_;refine BF.same _ cs AJ ?_;refine BU ?_;refine Aj ?_;exact AM rfl AA.out
 ·have hs':decide (x<0)=decide (y<0):=by simpa using hs
  have ca:=yI x.natAbs y.natAbs hx hy;have cs:=MR (decide (x<0)) (x.natAbs+y.natAbs) (Dy (Xg _ _) (by omega));have e:sg (decide (x<0)) (x.natAbs+y.natAbs)=x+y:=by
   unfold sg
   by_cases hx0:x<0
   ·have hy0:y<0:=DN (hs'.symm.trans (Aw hx0))
    rw[Aw hx0,AI rfl];omega
   ·have hy0:¬y<0:=Do (hs'.symm.trans (Az hx0))
    rw[Az hx0,AH (by decide)];omega
  rw[e]at cs;refine sR 0 ?_;refine AC.seq ?_;refine sZ 100 ?_;refine AX hs ?_;refine AO ?_;refine AC.seq ?_;refine CN 200 [0,1,2,3,4,5,6] [7,8] ?_;refine AG kN ?_;refine Bf.same _ ca AJ ?_;refine AG kN ?_;refine BF.same _ cs AJ ?_;refine BU ?_;refine Aj ?_;exact AM rfl AA.out
theorem kM (k m:Nat):FZ (k+1) m []=FZ k (m/10) []++[UInt8.ofNat (48+m%10)]:=by
 rw[<-Xc (k+1) m [] (.inr (Nat.succ_pos k))];unfold FZ M3
 by_cases h:m/10=0
 ·rw[AI h,AI h];simp
 ·rw[AH h,AH h]
  rw[De,Be,HN,Nat.add_sub_add_right,Du]
theorem VJ:∀(k hi d:Nat),hi≠0->d<10^k->Lib.decDigits (hi*10^k+d)=Lib.decDigits hi++FZ k d []
 | 0,hi,d,_,hd=>by
  have h0:d=0:=by simpa using hd
  subst h0;rw[NF,Ej,Dv];simp[FZ,M3]
 |k+1,hi,d,hh,hd=>by
  have e1:hi*10^(k+1)=10*(hi*10^k):=by rw[CZ,<-B4,Ba]
  have h1:1<=10^k:=Nat.pow_pos (by decide);have h2:1<=hi*10^k:=IK (EX hh) h1;have h3:¬hi*10^(k+1)+d<10:=by omega
  have h4:d/10<10^k:=by rw[CZ]at hd;omega
  rw[kM,<-Du,<-VJ k hi (d/10) hh h4];rw[Lib.decDigits,dif_neg h3,e1]
  congr 2
  ·omega
  ·congr 1;omega
theorem tM (hi d:Nat)(h:hi≠0)(hd:d<RB):Lib.decDigits (d+RB*hi)=Lib.decDigits hi++FZ 9 d []:=by
 have:=VJ 9 hi d h (Co hd (by decide))
 rw[<-this]
 congr 1
 rw[Ba,L4]
theorem PY {l:List Nat}(h:Rd l):(Lib.decDigits (AQ l)).length<=9*l.length+1:=by
 have h1:=Gz h;have e:RB^l.length=10^(9*l.length):=by rw[Nat.pow_mul]
 rw[e]at h1;refine NL _ _ (Gp h1 ?_);exact Nat.pow_lt_pow_right (by decide) (IM _)
theorem aZ (neg:Bool)(n:Nat)(h:neg=true->n≠0):Lib.itoa (sg neg n)=if neg then 45::Lib.decDigits n else Lib.decDigits n:=by
 unfold Lib.itoa sg;cases neg
 ·simp only[Fs,if_false]
  rw[CP];rfl
 ·have:=h rfl
  simp only[if_true];rw[DQ,ND];rfl
theorem xf (neg:Bool)(n:Nat)(h:neg=true->n≠0)(hl:(Ae n).length<1000000):AL C0 233 [.agg [Al neg,rD n]] (str (sb (Lib.itoa (sg neg n)))):=by
 refine Af.walk w1 uq rfl λF=>?_
 rw[aZ neg n h];change AC C0 F none F _ ⟨Dj 0 [.agg [Al neg,.sl false 1 ((Ae n).map Ag)]],[],0⟩ _;have vn:=Ea n;have wn:=FK n;have tp:=λk a=>Qw n (k:=k) (a:=a)
 generalize Ae n=l at*;subst vn;rcases hc:l.length with _|m
 ·have e0:l=[]:=FB hc
  subst e0;have hn:neg=false:=by cases neg;rfl;exact Ak rfl (h rfl)
  subst hn;have e1:Lib.decDigits (AQ [])=[48]:=by unfold Lib.decDigits AQ;rw[dif_pos (by decide)];rfl
  rw[AH (by decide),e1];refine sR 0 ?_;refine AC.seq ?_;refine sR 100 ?_;refine AO ?_;refine sR 200 ?_;refine Aj ?_;exact AM rfl AA.out
 ·obtain⟨y,hy⟩:=Cf (l:=l) (i:=m) (by omega)
  have yl:=wn y (Ax hy);have y0:=tp m y hc hy;have hy':=EH hy;have el:(((l.map Ag).length:Nat):Int)=((m+1:Nat):Int):=by rw[Ab,hc]
  have et:(((m+1:Nat):Int)==0)=false:=Bo.2 (by omega);have w0:IntKind.i64.wrap (((m+1:Nat):Int)-1)=(m:Int):=by rw[wI];omega
  have w2:IntKind.i64.wrap (((m+1:Nat):Int)-2)=(m:Int)-1:=by rw[wI];omega
  have cd:=Q7 y 1 (by unfold RB at yl;omega);rw[aJ]at cd;have wr0:IntKind.i64.wrap ((((l.map Ag).length:Nat):Int)-1)=(m:Int):=by rw[el,w0]
  have ed:l.drop m=[y]:=by
   rw[Et (by omega),IJ (by omega)];rw[Ce]at hy;rw[GV hy]
  refine sR 0 ?_;refine AC.seq ?_;refine sZ 100 ?_;refine AX (Aa el et) ?_;refine AO ?_;refine An ?_;refine sZ 300 ?_;refine AG (Bb el w0 wr0 kN) ?_;refine By kT hy' ?_;refine AG kN ?_;refine BF.same _ cd AJ ?_;refine BU ?_;have ev:AQ (l.drop m)=y:=by rw[ed];simp[AQ]
  refine AC.seq ?_;refine sZ 400 ?_;refine AX (Aa el w2) ?_;refine AC.block ?_;refine AC.loop (α:=Nat×Nat) (λp=>⟨[(1,.optr 0 0 2 0 0),(3,str (sb (Lib.decDigits (AQ (l.drop p.1))))),(4,i64 ((p.1:Int)-1))],[⟨0,0,225,2,[.agg [Al neg,.sl false 1 (l.map Ag)]]⟩],p.2⟩) (λp=>p.1)
   (λp=>p.1<=m/\AQ (l.drop p.1)≠0) (m,_) ⟨Ar _,by dsimp only;rw[ev];exact y0⟩ (by dsimp only;rw[ev];exact AK) ?_
  rintro⟨k,n1⟩ F ⟨h1,h2⟩;dsimp only at h1 h2⊢;clear cd;refine AC.seq ?_;refine sR 500 ?_;refine AO ?_
  (refine B1 (λh20=>?_) (λh20=>?_))<;>(try simp only[Bq,B0]at h20)<;>(try simp only[h20])
  ·obtain⟨j,rfl⟩:∃j,k=j+1:=⟨k-1,by
    have:(k:Int)-1>=0:=by simpa using h20
    omega⟩
   have wj:((j+1:Nat):Int)-1=(j:Int):=by omega
   obtain⟨d,hd⟩:=Cf (l:=l) (i:=j) (by omega);have hd':=EH hd;have dl:=wn d (Ax hd);have c9:=Q7 d 9 (by unfold RB at dl;omega);have eD:Lib.decDigits (AQ (l.drop (j+1)))++FZ 9 d []=Lib.decDigits (AQ (l.drop j)):=by rw[Q0 hd,tM _ _ h2 dl]
   have hlen:=PY (l:=l.drop j) λa ha=>wn a (Kv ha)
   rw[<-eD,Be,D8]at hlen;have h3:AQ (l.drop j)≠0:=by
    rw[Q0 hd]
    have:0<RB*AQ (l.drop (j+1)):=IK (by decide) (EX h2)
    omega
   have z1:=C3 (Lib.decDigits (AQ (l.drop (j+1))));have z2:=PS (FZ 9 d []);have wi:IntKind.i64.wrap ((j:Int)-1)=(j:Int)-1:=wI;rw[wj];refine An ?_;refine AC.seq ?_;refine AC.block ?_;refine As 700 ?_;refine AG kN ?_;refine By kT hd' ?_;refine AG kN ?_;refine BF.same _ c9 AJ ?_;refine BU ?_;rw[Jm,eD];refine As 600 ?_;refine AX wi ?_;exact⟨(j,_),⟨by dsimp only;omega,h3⟩,by dsimp only;omega,AK⟩
  ·have hk:k=0:=by
    have:¬((k:Int)-1>=0):=by simpa using h20
    omega
   subst hk;rw[GH]at h2⊢;have hlen:=PY wn;have z1:=C3 (Lib.decDigits (AQ l));have z2:(⟨#[45]⟩:ByteArray).size=1:=rfl;refine CG ?_;refine AC.seq ?_;refine AC.seq ?_;cases neg
   ·refine rI 800 ?_
    refine AO ?_;refine An ?_;rw[AH (by decide)];refine sR 1000 ?_;refine Aj ?_;exact AM rfl AA.out
   ·refine rI 800 ?_
    refine AO ?_;rw[AI rfl];refine sR 900 ?_;refine Aj ?_;refine AM ?_ AA.out;show str ((⟨([45]:List UInt8).toArray⟩:ByteArray)++⟨(Lib.decDigits (AQ l)).toArray⟩)=_;rw[Jm];rfl
theorem eI (z:Int)(h:Hg z):AL C0 233 [rZ z] (str (sb (Lib.itoa z))):=by
 have:=xf (decide (z<0)) z.natAbs (λh=>by have:=DN h;omega) h
 rwa [SL]at this
theorem CX.give {C:BA}{f:Nat}{ds ds':List D}{Φ:D->Prop}{H:Hp}{n:Nat}(Hf:Hp)(hc:Af C f ds' Φ)(hH:Cs H Hf H Hf)(hv:FH H Hf ds ds')
  (hp:Ai ds'):CX C f ds H n (λd' H' n'=>Φ d'/\H'=Hf/\n'=n+1):=by
 refine⟨hc.1,λF ρ w vs m hfr hg hvs hr=>?_⟩;obtain⟨m',hO,hN⟩:=hH.mem m;obtain⟨l1,l2⟩:=hv.spec;refine(hc.2 (AN F.X ρ Hf) w vs m.g (BY m.gn m.size) (λb hb=>m'.own_lt hb) (by omega) λi x hx=>?_).mono ?_
 ·have hi:i<ds'.length:=(BS.1 hx).1
  have hd0:ds[i]?=some ds[i]:=Ce;exact hp.out x (Ax hx) _ _ _ _ _ ((l2 i _ x hd0 hx).rep m hO hN (hr i _ hd0))
 ·rintro e w' ⟨v,d',rfl,hb,hd',rep⟩
  have hb2:∀(b:Nat) (cs:Array Value) (T:Nat) (fz:Nat×Nat),w.heap[b]?=some (.cells cs T fz)->∃(cs':Array Value) (fz':Nat×Nat),w'.heap[b]?=some (.cells cs' T fz')/\cs'.size=cs.size:=λb cs T fz hh=>⟨cs,_,by
   rw[hb.block b (DB.1 hh).1];exact hh,rfl⟩
  have x:BX ρ (AN F.X ρ H) w ρ (AN F.X ρ Hf) w':=⟨hb.size,λ_ _ _ h=>h,λb hb' hO2=>⟨λh=>hO2 (hO b h),hb.block b hb'⟩,hb2⟩
  have x':BX ρ (AN F.X ρ Hf) w ρ (AN F.X ρ Hf) w':=⟨hb.size,λ_ _ _ h=>h,λb hb' hO2=>⟨hO2,hb.block b hb'⟩,hb2⟩
  refine⟨v,_,Hf,n+1,ρ,rfl,⟨hd',rfl,rfl⟩,m'.same x' hb.os hb.tape hb.output hb.block,x,λk g hg'=>hfr k g (by omega),λe he=>?_,rep.mono ⟨Ar _,λ_ _ _ h=>(by cases h),λb _ hO2=>⟨hO2,rfl⟩,λb cs T fz h=>⟨cs,_,h,rfl⟩⟩⟩;obtain⟨e',h1,h2,h3,_⟩:=hH.names e he
  have:=hg e' h1
  omega
theorem lY {l:List UInt8}{i:Nat}{c:UInt8}(hc:l[i]?=some c)(hi:i<=BL l):(((c.toNat:Nat):Int)==47)=decide (i=BL l):=by
 have e1:(((c.toNat:Nat):Int)==47)=(c==47):=by
  rw[GU,ED,ED,<-UInt8.toNat_inj];exact⟨λh=>(show c.toNat=47 by omega),λh=>by rw[h];rfl⟩
 rw[e1];unfold BL at hi⊢;clear e1
 induction l generalizing i with
 |nil=>cases hc
 |cons a l ih=>
  rw[Qd]at hi⊢;cases i with
  |zero=>
   cases hc
   by_cases h:c=47
   ·subst h;rfl
   ·have h1:(c != 47)=true:=by simpa using h
    have h2:(c==47)=false:=by simpa using h
    rw[AI h1,h2,Bu,Bd]
  |succ i=>
   by_cases h:a=47
   ·subst h
    exact Ak hi (by simp)
   ·have h1:(a != 47)=true:=by simpa using h
    rw[AI h1,Bu]at hi⊢;rw[ih hc (by omega)];exact DO.2 (by omega)
theorem Rw (l:List UInt8)(h:l.all Bl=true)(hl:l.length<=18):AL C0 229 [str (sb l)] (i64 (dv l:Int)):=by
 refine Af.walk w1 uk rfl λF=>?_
 have hsz:=C3 l;refine sR 0 ?_;refine sR 100 ?_;refine AC.seq ?_;refine sR 200 ?_;refine AC.block ?_;refine AC.loop (α:=Nat×Nat) (λp=>⟨[(0,str (sb l)),(3,i64 (dv (l.take p.1):Int)),(4,i64 (p.1:Int))],[],p.2⟩) (λp=>l.length-p.1) (λp=>p.1<=l.length) (0,_) (BW _) AK ?_;rintro⟨i,n⟩ F hi;dsimp only at hi⊢;refine AC.seq ?_;refine sZ 300 ?_;refine AX hsz ?_;refine AO ?_
 (refine B1 (λhlt=>?_) (λhlt=>?_))<;>(try simp only[Bq,B0]at hlt)<;>(try simp only[hlt])
 ·have hi2:i<l.length:=by
   have:=DN hlt
   omega
  obtain⟨c,hc⟩:∃c,l[i]?=some c:=⟨l[i],Bs hi2⟩
  have hcd:Bl c=true:=CW.1 h c (Ax hc);obtain⟨c1,c2⟩:=MF hcd;have hg:(sb l).data.toList.getD i 0=c:=by
   show(l.toArray.toList).getD i 0=c;simp[hc]
  have hdl:dv (l.take i)<10^17:=by
   have:=G3 (l.take i) (CW.2 λa ha=>CW.1 h a (GJ ha))
   rw[Bc,Fp hi]at this;exact Co this (GK (by decide) (by omega))
  have hnx:dv (l.take (i+1))=dv (l.take i)*10+(c.toNat-48):=by
   rw[Dp,hc];show dv (l.take i++[c])=_;rw[O8];simp[dv,Hj]
  have k1:IntKind.i64.wrap (10*(dv (l.take i):Int))=((10*dv (l.take i):Nat):Int):=by rw[wI];omega
  have k2:IntKind.i64.wrap ((c.toNat:Nat):Int)=((c.toNat:Nat):Int):=wI;have k3:IntKind.i64.wrap (((10*dv (l.take i):Nat):Int)+((c.toNat:Nat):Int))=((10*dv (l.take i)+c.toNat:Nat):Int):=by rw[wI];omega
  have k4:IntKind.i64.wrap (((10*dv (l.take i)+c.toNat:Nat):Int)-48)=((dv (l.take (i+1)):Nat):Int):=by rw[hnx,wI];omega
  have wi:IntKind.i64.wrap ((i:Int)+1)=((i+1:Nat):Int):=wI;refine An ?_;refine AC.seq ?_;refine AC.block ?_;refine As 500 ?_;refine AX (D9 kN hg k1 k2 k3 k4) ?_;refine As 400 ?_;refine AX wi ?_;exact⟨(i+1,_),hi2,by dsimp only;omega,AK⟩
 ·have hi2:i=l.length:=by
   have:=Do hlt
   omega
  subst hi2;rw[Cn (Ar _)];refine CG ?_;refine sR 600 ?_;refine Aj ?_;exact AM rfl AA.out
theorem VQ (l:List UInt8)(hl:l.length<=1000000000):AL C0 179 [str (sb l)] (i64 (BL l:Int)):=by
 refine Af.walk w1 uE rfl λF=>?_
 have hsz:=C3 l;refine sR 0 ?_;refine AC.seq ?_;refine sR 100 ?_;refine AC.block ?_;refine AC.loop (α:=Nat×Nat) (λp=>⟨[(0,str (sb l)),(3,i64 (p.1:Int))],[],p.2⟩) (λp=>l.length-p.1) (λp=>p.1<=BL l) (0,_) (BW _) AK ?_;rintro⟨i,n⟩ F hi;dsimp only at hi⊢;have hsl:=MI l;refine AC.seq ?_;refine sZ 200 ?_;refine AX hsz ?_;refine AO ?_
 (refine B1 (λhlt=>?_) (λhlt=>?_))<;>(try simp only[Bq,B0]at hlt)<;>(try simp only[hlt])
 ·have hi2:i<l.length:=by
   have:=DN hlt
   omega
  obtain⟨c,hc⟩:∃c,l[i]?=some c:=⟨l[i],Bs hi2⟩
  have hg:(sb l).data.toList.getD i 0=c:=by
   show(l.toArray.toList).getD i 0=c;simp[hc]
  have wi:IntKind.i64.wrap ((i:Int)+1)=((i+1:Nat):Int):=wI;have ht:(((c.toNat:Nat):Int)==47)=decide (i=BL l):=lY hc hi;refine An ?_;refine AC.seq ?_;refine AC.block ?_;refine sZ 400 ?_;refine AX (Ao kN hg ht) ?_
  by_cases he:i=BL l
  ·rw[Aw he]
   refine AO ?_;refine sR 500 ?_;refine Aj ?_;exact AM (by rw[he]) AA.out
  ·rw[Az he]
   refine AO ?_;refine An ?_;refine As 300 ?_;refine AX wi ?_;exact⟨(i+1,_),by dsimp only;omega,by dsimp only;omega,AK⟩
 ·have hi2:i=l.length:=by
   have:=Do hlt
   omega
  refine CG ?_;refine sZ 600 ?_;refine AX hsz ?_;refine Aj ?_;exact AM (by congr 3;omega) AA.out
theorem Zk {H Hf:Hp}{K g T:Nat}{l:List Nat}{N:Nat}(hl:l.length=N)(he:Hp.get H K=some ⟨K,g,T,1,l.map Ag⟩:=by exact rfl)(hn:Hp.get Hf K=none:=by exact rfl):Fz H Hf (.osl K g 1 0 N) (.sl false 1 (l.map Ag)):=by
 subst hl;have key:∀(j:Nat) (d d':D),(l.map Ag)[0+j]?=some d->(l.map Ag)[j]?=some d'->d=d':=λj d d' h1 h2=>by
  rw[BV]at h1;rw[h1]at h2;exact GV h2
 refine .osl (e:=⟨K,g,T,1,l.map Ag⟩) he hn rfl rfl (by simp) (by simp) (λj d d' h1 h2=>by rw[key j d d' h1 h2]) λj d d' q c c' h1 h2 h3 h4=>?_
 rw[key j d d' h1 h2]at h3;rw[h3]at h4;cases h4;exact Fz.refl _
theorem RQ (c:UInt8)(l:List UInt8):(((c.toNat:Nat):Int)==45)=Dk (c::l):=by
 show _=(c==45);rw[GU,ED,ED,<-UInt8.toNat_inj];exact⟨λh=>(show c.toNat=45 by omega),λh=>by rw[h];rfl⟩
abbrev OK:At:=⟨0,0,225,2,[.agg [Al false,CK]]⟩
theorem tQ {x:List UInt8}(h:9<x.length):dv x=dv (x.take (x.length-9))*RB+dv (x.drop (x.length-9)):=by
 conv=>lhs;rw[<-Fq (x.length-9) x,O8,D8,show x.length-(x.length-9)=9 by omega]
theorem xv (A B t n v:Nat):(A*B+t)*B^n+v=A*B^(n+1)+(v+B^n*t):=by
 rw[Bz,B4,CZ,Ba B,Ba t];omega
theorem YN {x x0:List UInt8}{w:List Nat}(h9:9<x.length)(g1:x.all Bl=true)(g2:x.length+w.length*9=x0.length)(g3:Rd w)(g4:dv x0=dv x*RB^w.length+AQ w):
  (x.take (x.length-9)).all Bl=true/\(x.take (x.length-9)).length+(w++[dv (x.drop (x.length-9))]).length*9=x0.length/\Rd (w++[dv (x.drop (x.length-9))]) /\
  dv x0=dv (x.take (x.length-9))*RB^(w++[dv (x.drop (x.length-9))]).length+AQ (w++[dv (x.drop (x.length-9))]):=by
 refine⟨CW.2 λa ha=>CW.1 g1 a (GJ ha),?_,Rd.append g3 λa ha=>?_,?_⟩
 ·rw[Bc,Be,HN];omega
 ·simp only[A8,Dq,or_false]at ha
  subst ha
  have:=G3 (x.drop (x.length-9)) (CW.2 λa ha=>CW.1 g1 a (Kv ha))
  rwa [D8,show x.length-(x.length-9)=9 by omega]at this
 ·rw[g4,tQ h9,Hw rfl,Be,HN]
  exact xv _ _ _ _ _
theorem m9 {x x0:List UInt8}{w:List Nat}(h9:x.length<=9)(g1:x.all Bl=true)(g3:Rd w)(g4:dv x0=dv x*RB^w.length+AQ w):Rd (w++[dv x])/\AQ (w++[dv x])=dv x0:=by
 refine⟨Rd.append g3 λa ha=>?_,?_⟩
 ·simp only[A8,Dq,or_false]at ha
  subst ha;exact Co (G3 x g1) (GK (by decide) h9)
 ·rw[g4,Hw rfl,Ba,L4]
theorem Z0 {w:List Nat}{a:Nat}:List.take w.length (w.map Ag)++[i64 (a:Int)]=(w++[a]).map Ag:=by
 rw[Cn (by rw[Ab];exact Ar _),Cz];rfl
theorem aV (l:List UInt8)(hd:(Bv l).all Bl=true)(hl:l.length<=1000000):AL C0 226 [str (sb l)] (rZ (rv l)):=by
 have er:rv l=sg (Dk l) (dv (Bv l)):=rfl;rw[er];refine Af.walk w1 ui rfl λF=>?_
 have hsz:=C3 l;have hdl:(Bv l).length<=l.length:=by
  unfold Bv;split
  ·rw[D8];omega
  ·exact Ar _
 refine sR 0 ?_;refine DJ (α:=Nat) (λn=>⟨[(0,str (sb l)),(2,.optr 0 0 2 0 0),(3,Al (Dk l))],[OK],n⟩) (λ_=>True) ?_ ?_
 ·cases l with
  |nil=>
   have e0:(sb []).size=0:=rfl;have e1:decide (((0:Nat):Int)>0)=false:=rfl;refine As 100 ?_;refine AG (Aa e0 e1) ?_;refine AG (Aa kF e1) ?_;exact⟨trivial,_,trivial,AK⟩
  |cons c l=>
   have hpos:(sb (c::l)).size=l.length+1:=hsz;have e0:decide (((sb (c::l)).size:Int)>0)=true:=BR;have e1:((((c::l).getD (Int.toNat 0) 0).toNat:Int)==45)=Dk (c::l):=RQ c l;refine As 100 ?_;refine AG e0 ?_;refine AG (Ao kT e0 e1) ?_;exact⟨trivial,_,trivial,AK⟩
 rintro n0 -;refine DJ (α:=Nat) (λn=>⟨[(0,str (sb (Bv l))),(2,.optr 0 0 2 0 0),(3,Al (Dk l))],[OK],n⟩) (λ_=>True) ?_ ?_
 ·refine sR 200 ?_
  cases hb:Dk l
  ·have ed:Bv l=l:=by unfold Bv;rw[hb];rfl
   rw[ed];refine AO ?_;refine An ?_;exact⟨rfl,_,trivial,AK⟩
  ·have ed:Bv l=l.drop 1:=by unfold Bv;rw[hb];rfl
   have hl0:1<=l.length:=by
    cases l with
    |nil=>cases hb
    |cons c l=>rw[Bu];omega
   have ee:(sb l).extract (Int.toNat 1) l.length=sb (Bv l):=by
    rw[Fc,Cn (Ar _),ed];rfl
   refine AO ?_;refine As 300 ?_;refine AG (Aa hsz kN) ?_;rw[ee];exact⟨trivial,_,trivial,AK⟩
 rintro n1 -;generalize Dk l=neg at*;generalize Bv l=x0 at*;clear er hsz;have hx0:x0.length<=1000000:=BY hdl hl;clear hdl hl l;refine sR 400 ?_;refine AC.seq ?_;refine AC.block ?_;refine AC.loop (α:=Bool×List UInt8×List Nat×Nat×Nat) (λp=>match p with
  |(false,x,_,_,n)=>⟨[(0,str (sb x)),(2,.optr 0 0 2 0 0),(3,Al neg),(4,CK)],[OK],n⟩
  |(true,x,w,g,n)=>⟨[(0,str (sb x)),(2,.optr 0 0 2 0 0),(3,Al neg),(4,.osl 608 g 1 0 w.length)],[⟨608,g,3,1,w.map Ag⟩,OK],n⟩) (λp=>p.2.1.length)
  (λp=>p.2.1.all Bl=true/\p.2.1.length+p.2.2.1.length*9=x0.length/\Rd p.2.2.1/\dv x0=dv p.2.1*RB^p.2.2.1.length+AQ p.2.2.1/\(p.1=false->p.2.2.1=[]))
  (false,x0,[],0,_) ⟨hd,rfl,(λa ha=>by cases ha),by simp[AQ],λ_=>rfl⟩ AK ?_
 rintro⟨t,x,w,g,n2⟩ F ⟨g1,g2,g3,g4,g5⟩;dsimp only at g1 g2 g3 g4 g5;have hsz:=C3 x
 by_cases h9:9<x.length
 ·have ht:decide ((x.length:Int)>9)=true:=BR
  have cv:=Rw (x.drop (x.length-9)) (CW.2 λa ha=>CW.1 g1 a (Kv ha)) (by rw[D8];omega);have wk:IntKind.i64.wrap ((x.length:Int)-9)=((x.length-9:Nat):Int):=by rw[wI];omega
  have wr:IntKind.i64.wrap (((sb x).size:Int)-9)=((x.length-9:Nat):Int):=by rw[hsz,wk]
  have e1:(sb x).extract (x.length-9) x.length=sb (x.drop (x.length-9)):=by rw[Fc,Cn (Ar _)]
  have e2:(sb x).extract 0 (x.length-9)=sb (x.take (x.length-9)):=by rw[Fc,GH]
  cases t
  ·dsimp only
   obtain rfl:=g5 rfl;refine AC.seq ?_;refine sZ 500 ?_;refine AX (Aa hsz ht) ?_;refine AO ?_;refine An ?_;refine AC.block ?_;refine sZ 600 ?_;refine AG (CS hsz wk wr kN e1) ?_;refine BF.same _ cv AJ ?_;refine BU ?_;have J:=YN h9 g1 g2 g3 g4;rw[Ei]at J;refine As 700 ?_;refine AG (Bb hsz wk wr kN) ?_;refine AG e2 ?_;exact⟨(true,x.take (x.length-9),[dv (x.drop (x.length-9))],n2+11,_),⟨J.1,J.2.1,J.2.2.1,J.2.2.2,λh=>by cases h⟩,by dsimp only;rw[Bc];omega,AK⟩
  ·dsimp only
   clear g5;have J:=YN h9 g1 g2 g3 g4;have ew:(w.map Ag).length=w.length:=Ab _;have el:w.length+1=(w++[dv (x.drop (x.length-9))]).length:=by rw[Be];rfl
   refine AC.seq ?_;refine sZ 500 ?_;refine AX (Aa hsz ht) ?_;refine AO ?_;refine An ?_;refine AC.block ?_;refine sZ 600 ?_;refine AG (CS hsz wk wr kN e1) ?_;refine BF.same _ cv AJ ?_;refine BU ?_;rw[Z0,el];refine As 700 ?_;refine AG (Bb hsz wk wr kN) ?_;refine AG e2 ?_;exact⟨(true,x.take (x.length-9),w++[dv (x.drop (x.length-9))],n2+11,_),⟨J.1,J.2.1,J.2.2.1,J.2.2.2,λh=>by cases h⟩,by dsimp only;rw[Bc];omega,AK⟩
 ·have ht:decide ((x.length:Int)>9)=false:=Bd
  have cv:=Rw x g1 (by omega);obtain⟨r1,r2⟩:=m9 (by omega) g1 g3 g4;have cs:=Zr neg (w++[dv x]) r1 (by rw[Be,HN];omega);rw[r2]at cs;cases t
  ·dsimp only
   obtain rfl:=g5 rfl;refine AC.seq ?_;refine sZ 500 ?_;refine AX (Aa hsz ht) ?_;refine AO ?_;refine CG ?_;refine sR 800 ?_;refine BF.same _ cv AJ ?_;refine BU ?_;refine BF.own _ (CX.give [OK] cs (.drop (.keep .nil)) ⟨.refl _,Zk rfl,trivial⟩ AJ) ?_;rintro d H' n' ⟨rfl,rfl,rfl⟩;refine BU ?_;refine Aj ?_;exact AM rfl AA.out
  ·dsimp only
   clear g5;have ew:(w.map Ag).length=w.length:=Ab _;have el:w.length+1=(w++[dv x]).length:=by rw[Be];rfl
   refine AC.seq ?_;refine sZ 500 ?_;refine AX (Aa hsz ht) ?_;refine AO ?_;refine CG ?_;refine sR 800 ?_;refine BF.same _ cv AJ ?_;refine BU ?_;rw[Z0,el];refine BF.own _ (CX.give [OK] cs (.drop (.keep .nil)) ⟨.refl _,Zk rfl,trivial⟩ AJ) ?_;rintro d H' n' ⟨rfl,rfl,rfl⟩;refine BU ?_;refine Aj ?_;exact AM rfl AA.out
def W9 (o:Option D):Bool:=match o with
 |some (.agg [.prim (.bool false),.sl false 1 [.prim (.int .i64 1)]])=>true
 |_=>false
theorem oJ {o:Option D}(h:W9 o=true):o=some (rZ 1):=by
 have h1:Ae 1=[1]:=Qv (by decide) (by decide);unfold W9 at h;split at h
 ·show _=some (D.agg [Al (decide ((1:Int)<0)),rL (Ae 1)])
  rw[h1];rfl
 ·cases h
theorem l9:W9 ((Gr X1 1000 60).1 227 [i64 1])=true:=by kernel_rfl
theorem oD:AL C0 227 [i64 1] (rZ 1):=QP Dx 1000 60 (oJ l9)
def QM (l:List UInt8):Int:=rv (B6 l)
def P9 (l:List UInt8):Int:=if DE l then rv (Bg l)else 1
instance  (x y:Int):AA (.tup [rZ x,rZ y]):=⟨.tup λd hd=>by
 simp only[A8,Dq,or_false]at hd;rcases hd with rfl|rfl
 ·exact AA.out
 ·exact AA.out⟩
theorem VL (l:List UInt8)(hn:(Bv (B6 l)).all Bl=true)(hd:(Bv (Bg l)).all Bl=true)(hl:l.length<=1000000):AL C0 181 [str (sb l)] (.tup [rZ (QM l),rZ (P9 l)]):=by
 refine Af.walk w1 uG rfl λF=>?_
 have hsz:=C3 l;have cs:=VQ l (by omega);have hsl:=MI l;have c1:=aV (B6 l) hn (by unfold B6;rw[Bc];omega);have c2:=aV (Bg l) hd (by unfold Bg;rw[D8];omega);have cw:=oD;unfold QM P9;refine sR 0 ?_;refine sR 100 ?_;refine sR 200 ?_;refine cI cs ?_;cases hh:DE l
 ·have he:BL l=l.length:=by
   unfold DE at hh
   have:=Do hh
   omega
  have e0:(((BL l:Nat):Int)==(l.length:Int))=true:=ED.2 (by omega);have en:B6 l=l:=by unfold B6;rw[he,Cn (Ar _)]
  rw[en]at c1⊢;refine AC.seq ?_;refine sZ 300 ?_;refine AX (Aa hsz e0) ?_;refine AO ?_;refine sR 400 ?_;refine cI c1 ?_;refine BF.same _ cw AJ ?_;refine BU ?_;refine Aj ?_;exact AM rfl AA.out
 ·have he:BL l<l.length:=DN hh
  have e0:(((BL l:Nat):Int)==(l.length:Int))=false:=Bo.2 (by omega);have x1:(sb l).extract 0 (BL l)=sb (B6 l):=by rw[Fc,GH];rfl
  have x2:(sb l).extract (BL l+1) l.length=sb (Bg l):=by rw[Fc,Cn (Ar _)];rfl
  have wk:IntKind.i64.wrap (((BL l:Nat):Int)+1)=((BL l+1:Nat):Int):=wI;refine AC.seq ?_;refine sZ 300 ?_;refine AX (Aa hsz e0) ?_;refine AO ?_;refine An ?_;refine AC.seq ?_;refine CN 500 [0,1,2,3,4,5,6,7] [8,9,10] ?_;refine AG (CS hsz wk kN x1 x2) ?_;refine Bf.same _ c1 AJ ?_;refine AG (CS hsz wk kN x1 x2) ?_;refine BF.same _ c2 AJ ?_;refine BU ?_;refine Aj ?_;exact AM rfl AA.out
def BT (r:Rat):List UInt8:=if r.den=1 then Lib.itoa r.num else Lib.itoa r.num++47::Lib.decDigits r.den
def qZ (x y:Int):Rat:=mkRat (if y<0 then -x else x) y.natAbs
theorem Uq {x:Int}{d:Nat}(hd:d≠0):(mkRat x d).num=sg (decide (x<0)) (x.natAbs/Nat.gcd x.natAbs d)/\(mkRat x d).den=d/Nat.gcd x.natAbs d:=by
 rw[mkRat,dif_neg hd,Rat.normalize_eq];refine⟨?_,rfl⟩;dsimp only;have hg:0<Nat.gcd x.natAbs d:=QU _ (EX hd);obtain⟨p,hp⟩:=Nat.gcd_dvd_left x.natAbs d;have e1:x.natAbs/Nat.gcd x.natAbs d=p:=by
  refine Nat.div_eq_of_eq_mul_right hg hp
 have e2:x=(Nat.gcd x.natAbs d:Int)*sg (decide (x<0)) p:=by
  have h0:(x.natAbs:Int)=(Nat.gcd x.natAbs d:Int)*(p:Int):=by rw[<-Gm,<-hp]
  unfold sg
  by_cases hx:x<0
  ·rw[Aw hx,AI rfl,Int.mul_neg,<-h0];omega
  ·rw[Az hx,AH (by decide),<-h0];omega
 rw[e1]
 conv=>lhs;arg 1;rw[e2]
 rw[Int.mul_ediv_cancel_left _ (by omega)]
theorem ZT (q:Nat):((((((Ae q).map Ag).length:Nat):Int)==1)=true/\∃a,(Ae q)[0]?=some a/\(((a:Nat):Int)==1)=decide (q=1))\/((((((Ae q).map Ag).length:Nat):Int)==1)=false/\q≠1):=by
 rw[Ab]
 by_cases h:(Ae q).length=1
 ·refine .inl ⟨ED.2 (by omega),?_⟩
  obtain⟨a,ha⟩:=Cf (l:=Ae q) (i:=0) (by omega);refine⟨a,ha,?_⟩;have e:Ae q=[a]:=by
   obtain⟨b,hb⟩:=List.length_eq_one_iff.1 h;rw[hb]at ha⊢;cases ha;rfl
  have e2:q=a:=by rw[<-Ea q,e];simp[AQ]
  rw[e2];rw[GU,ED,decide_eq_true_iff];omega
 ·refine .inr ⟨Bo.2 (by omega),λhq=>h ?_⟩
  rw[hq,Qv (by decide) (by decide)];rfl
theorem kW (x y:Int)(hy0:y≠0)(hx:Hg x)(hy:Hg y):AL C0 185 [rZ x,rZ y] (str (sb (BT (qZ x y)))):=by
 refine Af.walk w1 uK rfl λF=>?_
 unfold qZ;refine sR 0 ?_;refine DJ (α:=Nat) (λn=>⟨[(2,.optr 0 0 2 0 0),(3,.optr 1 1 2 0 0)],[⟨1,1,225,2,[.agg [Al false,rD y.natAbs]]⟩,⟨0,0,225,2,[rZ (if y<0 then -x else x)]⟩],n⟩) (λ_=>True) ?_ ?_
 ·by_cases h:y<0
  ·have cx:=ah x hx
   have cy:=ah y hy;have e1:rZ (-y)=.agg [Al false,rD y.natAbs]:=by
    show D.agg [Al (decide (-y<0)),rD (-y).natAbs]=_;rw[Bd,ND]
   rw[e1]at cy;rw[AI h];refine sZ 100 ?_;refine AX (Aw h) ?_;refine AO ?_;refine CN 200 [0,1,2] [3,4,5] ?_;refine AG kN ?_;refine Bf.same _ cx AJ ?_;refine AG kN ?_;refine BF.same _ cy AJ ?_;refine BU ?_;exact⟨trivial,_,trivial,AK⟩
  ·have e1:rZ y=.agg [Al false,rD y.natAbs]:=by
    show D.agg [Al (decide (y<0)),rD y.natAbs]=_;rw[Az h]
   rw[AH h];refine sZ 100 ?_;refine AX (Az h) ?_;refine AO ?_;refine An ?_;refine⟨rfl,5,trivial,?_⟩;rw[<-e1];exact AK
 rintro n0 -;obtain⟨z,hz⟩:∃z,z=(if y<0 then -x else x):=⟨_,rfl⟩
 have hza:z.natAbs=x.natAbs:=by rw[hz];split<;>omega
 obtain⟨d,hd⟩:∃d,d=y.natAbs:=⟨_,rfl⟩
 have hd0:d≠0:=by omega
 unfold Hg at hx hy;rw[<-hza]at hx;rw[<-hd]at hy;rw[<-hz,<-hd];clear hz hza hd hy0;clear x y;have cg:=ZF z.natAbs d hx hy;obtain⟨qn,qd⟩:=Uq (x:=z) hd0;have hg:0<Nat.gcd z.natAbs d:=QU _ (EX hd0);have hgl:(Ae (Nat.gcd z.natAbs d)).length<1000000:=Dy (Ja _ _ (Nat.gcd_le_right _ (EX hd0))) hy;have c4:=Wz z.natAbs (Nat.gcd z.natAbs d) (by omega) hx hgl;have c5:AL C0 228 [rD d,rD (Nat.gcd z.natAbs d)] (.tup [.sl false 1 ((Ae (d/Nat.gcd z.natAbs d)).map Ag),rD (d%Nat.gcd z.natAbs d)]):=Wz d (Nat.gcd z.natAbs d) (by omega) hy hgl;have hpl:(Ae (z.natAbs/Nat.gcd z.natAbs d)).length<1000000:=Dy (Ja _ _ (Gn _ _)) hx;have hql:(Ae (d/Nat.gcd z.natAbs d)).length<1000000:=Dy (Ja _ _ (Gn _ _)) hy;have etx:BT (mkRat z d)=if d/Nat.gcd z.natAbs d=1 then Lib.itoa (sg (decide (z<0)) (z.natAbs/Nat.gcd z.natAbs d))else Lib.itoa (sg (decide (z<0)) (z.natAbs/Nat.gcd z.natAbs d))++47::Lib.decDigits (d/Nat.gcd z.natAbs d):=by
  unfold BT;rw[qn,qd]
 rw[etx];clear etx qn qd hg hgl;generalize z.natAbs/Nat.gcd z.natAbs d=p at*;generalize d/Nat.gcd z.natAbs d=q at*;generalize z.natAbs%Nat.gcd z.natAbs d=r1 at*;generalize d%Nat.gcd z.natAbs d=r2 at*;generalize Nat.gcd z.natAbs d=gg at*;have c6:=MR (decide (z<0)) p (by omega);have hab:(sg (decide (z<0)) p).natAbs=p:=by unfold sg;split<;>omega
 have c7:=eI (sg (decide (z<0)) p) (by unfold Hg;rw[hab];exact hpl);have c8:=MR false q (by omega);have c9:=eI (sg false q) (by unfold Hg;show(Ae q).length<1000000;exact hql);have e9:Lib.itoa (sg false q)=Lib.decDigits q:=by rw[aZ false q (by simp)];rfl
 rw[e9]at c9;have l1:=PY (FK p);rw[Ea]at l1;have l2:=PY (FK q);rw[Ea]at l2;have l3:(Lib.itoa (sg (decide (z<0)) p)).length<=(Lib.decDigits p).length+1:=by
  unfold Lib.itoa;split
  ·rw[hab,Bu];exact Ar _
  ·rw[show(sg (decide (z<0)) p).toNat=p by omega];omega
 generalize sg (decide (z<0)) p=pz at*;have s1:=C3 (Lib.itoa pz);have s2:=C3 (Lib.decDigits q);have s3:(⟨#[47]⟩:ByteArray).size=1:=rfl;have s4:(sb (Lib.itoa pz)++(⟨#[47]⟩:ByteArray)).size=(sb (Lib.itoa pz)).size+(⟨#[47]⟩:ByteArray).size:=ByteArray.size_append;generalize Lib.itoa pz=t1 at*;generalize Lib.decDigits q=t2 at*;refine sR 300 ?_;refine cI cg ?_;refine sR 400 ?_;refine cI c4 ?_;refine sR 500 ?_;refine cI c5 ?_;refine sR 600 ?_;refine cI c6 ?_;refine cI c7 ?_;have ht:=ZT q;rcases ht with⟨h1,a,ha,h2⟩|⟨h1,h2⟩
 ·have ha':=EH ha
  refine AC.seq ?_;refine sZ 700 ?_;refine AG h1 ?_;refine By kT ha' ?_;refine AG (Aa h1 h2) ?_
  by_cases hq:q=1
  ·rw[Aw hq,AI hq]
   refine AO ?_;refine sR 800 ?_;refine Aj ?_;exact AM rfl AA.out
  ·rw[Az hq,AH hq]
   refine AO ?_;refine An ?_;refine sR 900 ?_;refine BF.same _ c8 AJ ?_;refine BU ?_;refine BF.same _ c9 AJ ?_;refine BU ?_;refine Aj ?_;refine AM ?_ AA.out;show str ((⟨t1.toArray⟩++⟨([47]:List UInt8).toArray⟩:ByteArray)++⟨t2.toArray⟩)=_;rw[Jm,Jm,Du];rfl
 ·rw[AH h2]
  refine AC.seq ?_;refine sZ 700 ?_;refine AX h1 ?_;refine AG kF ?_;refine AO ?_;refine An ?_;refine sR 900 ?_;refine BF.same _ c8 AJ ?_;refine BU ?_;refine BF.same _ c9 AJ ?_;refine BU ?_;refine Aj ?_;refine AM ?_ AA.out;show str ((⟨t1.toArray⟩++⟨([47]:List UInt8).toArray⟩:ByteArray)++⟨t2.toArray⟩)=_;rw[Jm,Jm,Du];rfl
set_option maxHeartbeats 2000000
theorem Re (k:Nat)(h:k<10):(UInt8.ofNat (48+k)).toNat=48+k:=by
 rw[UInt8.toNat_ofNat'];omega
theorem E7:∀n:Nat,(Lib.decDigits n).all Bl=true/\dv (Lib.decDigits n)=n/\(Lib.decDigits n)≠[]:=λn=>by
 induction n using Nat.strongRecOn with
 |_ n ih=>
  have one:∀k,k<10->Bl (UInt8.ofNat (48+k))=true:=λk hk=>by
   unfold Bl;rw[Re k hk,BZ];exact⟨Nat.ble_eq_true_of_le (by omega),Nat.ble_eq_true_of_le (by omega)⟩
  have vone:∀k,k<10->dv [UInt8.ofNat (48+k)]=k:=λk hk=>by
   show 0*10+((UInt8.ofNat (48+k)).toNat-48)=k;rw[Re k hk];omega
  rw[Lib.decDigits];split
  ·rename_i h
   exact⟨by rw[GX,one n h];rfl,vone n h,by simp⟩
  ·rename_i h
   obtain⟨h1,h2,h3⟩:=ih (n/10) (by omega);refine⟨by rw[Ks,h1,GX,one _ (B7 _ (by decide))];rfl,?_,by simp⟩;rw[O8,h2,vone _ (B7 _ (by decide)),HN];omega
theorem nz {n:Nat}(h:n≠0):∃c l,Lib.decDigits n=c::l/\c≠48:=by
 induction n using Nat.strongRecOn with
 |_ n ih=>
  rw[Lib.decDigits];split
  ·rename_i h1
   refine⟨_,_,rfl,λhh=>?_⟩
   have:=congrArg UInt8.toNat hh
   rw[Re n h1]at this
   have:48+n=48:=this
   omega
  ·rename_i h1
   obtain⟨c,l,e,hc⟩:=ih (n/10) (by omega) (by omega);rw[e];exact⟨c,l++_,rfl,hc⟩
theorem tO {c:UInt8}(h:Bl c=true):c≠47/\c≠45:=by
 obtain⟨h1,h2⟩:=MF h;exact⟨λhh=>by subst hh;simp at h1,λhh=>by subst hh;simp at h1⟩
theorem NS (z:Int):Dk (Lib.itoa z)=decide (z<0)/\Bv (Lib.itoa z)=Lib.decDigits z.natAbs:=by
 unfold Lib.itoa
 by_cases h:z<0
 ·rw[AI h,Aw h]
  exact⟨rfl,rfl⟩
 ·rw[AH h,Az h,show z.toNat=z.natAbs by omega]
  have h1:=T4 (E7 z.natAbs).1;exact⟨h1,K7 (E7 z.natAbs).1⟩
theorem aw (z:Int):rv (Lib.itoa z)=z:=by
 unfold rv;rw[(NS z).1,(NS z).2,(E7 z.natAbs).2.1]
 by_cases h:z<0
 ·rw[Aw h,AI rfl];omega
 ·rw[Az h,AH (by decide)];omega
theorem XS (z:Int):∀c∈Lib.itoa z,(c != 47)=true:=λc hc=>by
 have hd:∀n,∀c∈Lib.decDigits n,(c != 47)=true:=λn c h=>by
  have:=(tO (CW.1 (E7 n).1 c h)).1
  simpa using this
 unfold Lib.itoa at hc;split at hc
 ·rcases A8.1 hc with rfl|h
  ·rfl
  ·exact hd _ c h
 ·exact hd _ c hc
theorem Tk {p:UInt8->Bool}:∀ {l:List UInt8} (m:List UInt8),(∀c∈l,p c=true)->(l++m).takeWhile p=l++m.takeWhile p
 | [],_,_=>rfl
 |a::l,m,h=>by
  rw[EU,Qd,AI (h a CF),Tk m λc hc=>h c (CL _ hc)];rfl
theorem PD (r:Rat):BL (BT r)=(Lib.itoa r.num).length:=by
 unfold BL BT;split
 ·have:=Tk (p:=(· != 47)) [] (XS r.num)
  rw[De]at this;rw[this];simp
 ·rw[Tk (p:=(· != 47)) _ (XS r.num)]
  simp
theorem Pe (r:Rat):B6 (BT r)=Lib.itoa r.num:=by
 unfold B6;rw[PD];unfold BT;split
 ·exact Cn (Ar _)
 ·exact List.take_left' rfl
theorem Ng (r:Rat):Bg (BT r)=if r.den=1 then[]else Lib.decDigits r.den:=by
 unfold Bg;rw[PD];unfold BT;split
 ·exact IJ (Nat.le_succ _)
 ·rw[List.drop_append]
  rw[IJ (Nat.le_succ _),L1];rfl
theorem Rv (r:Rat):DE (BT r) = !decide (r.den=1):=by
 unfold DE;rw[PD];unfold BT
 by_cases h:r.den=1
 ·rw[AI h,Aw h,Bd];rfl
 ·rw[AH h,Az h,Be,Bu,BR];rfl
theorem Zx (r:Rat):QM (BT r)=r.num:=by unfold QM;rw[Pe,aw]
theorem py (r:Rat):P9 (BT r)=r.den:=by
 unfold P9;rw[Rv,Ng]
 by_cases h:r.den=1
 ·rw[Aw h,h];rfl
 ·rw[Az h,AH h,AI (show(!false)=true from rfl),N4 (E7 _).1,(E7 _).2.1]
theorem Zw (r:Rat):(Bv (B6 (BT r))).all Bl=true:=by rw[Pe,(NS _).2];exact(E7 _).1
theorem Zv (r:Rat):(Bv (Bg (BT r))).all Bl=true:=by
 rw[Ng];split
 ·rfl
 ·rw[K7 (E7 _).1];exact(E7 _).1
theorem aY (z:Int):Lib.itoa z≠[]:=by
 unfold Lib.itoa;split
 ·simp
 ·exact(E7 _).2.2
theorem eK (r:Rat):BT r≠[]:=by
 unfold BT;split
 ·exact aY _
 ·simp
theorem VX (r:Rat):Dk (BT r)=decide (r.num<0):=by
 rw[<-(NS r.num).1];unfold BT;split
 ·rfl
 ·have:=aY r.num
  cases h:Lib.itoa r.num with
  |nil=>exact Ak h this
  |cons c l=>rfl
theorem Zy (r:Rat):decide (BT r=[48])=decide (r.num=0):=by
 refine DO.2 ⟨λh=>?_,λh=>?_⟩
 ·have h1:=Zx r
  rw[h]at h1;rw[<-h1];decide
 ·have:r.den=1:=by
   have:=r.reduced
   rw[h]at this;simpa using this
  unfold BT;rw[AI this,h];show Lib.decDigits 0=[48];rw[Lib.decDigits,dif_pos (by decide)];rfl
abbrev rR (r:Rat):D:=str (sb (BT r))
def M6 (r:Rat):Prop:=(BT r).length<=1000000
theorem dx (r:Rat)(hl:M6 r):AL C0 137 [rR r] (i64 (Hh r)):=by
 refine Af.walk w1 ue rfl λF=>?_
 have hsz:=C3 (BT r);unfold M6 at hl;have ez:=Ff (BT r) [48];rw[Zy]at ez;have en:=VX r;refine sR 0 ?_;refine AC.seq ?_;refine AC.seq ?_;have ez2:BJ (sb (BT r)) ⟨#[48]⟩=decide (r.num=0):=ez;have hne:=eK r;refine As 100 ?_;refine AX ez2 ?_
 by_cases h0:r.num=0
 ·rw[Aw h0]
  refine AO ?_;refine sR 200 ?_;refine Aj ?_;exact AM (by unfold Hh;rw[h0];rfl) AA.out
 ·rw[Az h0]
  have hpos:0<(BT r).length:=List.length_pos_iff.2 hne;have e0:decide (((sb (BT r)).size:Int)>0)=true:=BR;have e1:((((BT r).getD (Int.toNat 0) 0).toNat:Int)==45)=decide (r.num<0):=by
   rw[<-en];cases ht:BT r with
   |nil=>exact Ak ht hne
   |cons c l=>exact RQ c l
  refine AO ?_;refine An ?_;refine AC.seq ?_;refine sZ 300 ?_;refine AG e0 ?_;refine AG (Ao kT e0 e1) ?_
  by_cases hn:r.num<0
  ·rw[Aw hn]
   refine AO ?_;refine sR 400 ?_;refine Aj ?_;exact AM (by unfold Hh;congr 3;omega) AA.out
  ·rw[Az hn]
   refine AO ?_;refine An ?_;refine sR 500 ?_;refine Aj ?_;exact AM (by unfold Hh;congr 3;omega) AA.out
theorem az {r:Rat}(h:r.num<0):(BT r).drop 1=BT (-r)/\(BT (-r)).length+1=(BT r).length:=by
 have e:Lib.itoa r.num=45::Lib.itoa (-r.num):=by
  unfold Lib.itoa;rw[AI h,CP,show(-r.num).toNat=r.num.natAbs by omega]
 have e2:BT r=45::BT (-r):=by
  unfold BT;rw[Rat.neg_den,Rat.neg_num,e];split<;>rfl
 rw[e2];exact⟨rfl,rfl⟩
def DZ (r:Rat):Rat:=if r.num<0 then -r else r
theorem RZ (r:Rat):(DZ r).num=r.num.natAbs/\(DZ r).den=r.den:=by
 unfold DZ;split
 ·rw[Rat.neg_num,Rat.neg_den];exact⟨by omega,rfl⟩
 ·exact⟨by omega,rfl⟩
def qk (r:Rat):Bool:=!decide (20<(BT r).length) && !(decide (9<BL (BT (DZ r)))||decide (10<(BT (DZ r)).length-BL (BT (DZ r))))
theorem na (r:Rat):(BT (DZ r)).length<=(BT r).length:=by
 unfold DZ;split
 ·rename_i h
  have:=(az h).2
  omega
 ·exact Ar _
theorem T8 (r:Rat):Lib.itoa (DZ r).num=Lib.decDigits r.num.natAbs:=by
 rw[(RZ r).1];unfold Lib.itoa;rw[CP];rfl
theorem Ur {r:Rat}(h:qk r=true):r.num.natAbs<10^9/\r.den<10^9:=by
 unfold qk at h;simp only[BZ,Bq,Jw,JN]at h;obtain⟨h1,h2,h3⟩:=h;have hs:=PD (DZ r);rw[T8]at hs;have hd:=Ng (DZ r);rw[(RZ r).2]at hd;have hdl:(Bg (BT (DZ r))).length=(BT (DZ r)).length-(BL (BT (DZ r))+1):=by unfold Bg;rw[D8]
 have d1:=G3 _ (E7 r.num.natAbs).1;have d2:=G3 _ (E7 r.den).1;rw[(E7 _).2.1]at d1 d2;refine⟨Co d1 (GK (by decide) (by omega)),?_⟩
 by_cases h1:r.den=1
 ·rw[h1];decide
 ·rw[AH h1]at hd
  rw[hd]at hdl;exact Co d2 (GK (by decide) (by omega))
theorem ar (r:Rat)(hl:M6 r):AL C0 183 [rR r] (.tup [i64 (if qk r then r.num else 0),i64 (if qk r then(r.den:Int)else 0),Al (qk r)]):=by
 refine Af.walk w1 uI rfl λF=>?_
 have hsz:=C3 (BT r);unfold M6 at hl;have hne:=eK r;have hpos:0<(BT r).length:=List.length_pos_iff.2 hne;refine sR 0 ?_;refine sR 100 ?_;refine AC.seq ?_;refine AC.seq ?_
 by_cases h20:20<(BT r).length
 ·have e2:decide (((BT r).length:Int)>20)=true:=BR
  have eq:qk r=false:=by unfold qk;rw[Aw h20];rfl
  rw[eq];refine As 200 ?_;refine AX (Aa hsz e2) ?_;refine AO ?_;refine sR 300 ?_;refine Aj ?_;exact AM rfl AA.out
 ·have e2:decide (((BT r).length:Int)>20)=false:=Bd
  have eq:qk r = !(decide (9<BL (BT (DZ r)))||decide (10<(BT (DZ r)).length-BL (BT (DZ r)))):=by unfold qk;rw[Az h20];rfl
  have en:=VX r;refine As 200 ?_;refine AX (Aa hsz e2) ?_;refine AO ?_;refine An ?_;refine DJ (α:=Nat) (λn=>⟨[(5,rR r),(6,Al (decide (r.num<0)))],[],n⟩) (λ_=>True) ?_ ?_
  ·have e0:decide (((sb (BT r)).size:Int)>0)=true:=BR
   have e1:((((BT r).getD (Int.toNat 0) 0).toNat:Int)==45)=decide (r.num<0):=by
    rw[<-en];cases ht:BT r with
    |nil=>exact Ak ht hne
    |cons c l=>exact RQ c l
   refine As 400 ?_;refine AG e0 ?_;refine AG (Ao kT e0 e1) ?_;exact⟨trivial,_,trivial,AK⟩
  rintro n0 -;refine DJ (α:=Nat) (λn=>⟨[(5,rR (DZ r)),(6,Al (decide (r.num<0)))],[],n⟩) (λ_=>True) ?_ ?_
  ·refine sR 500 ?_
   by_cases h:r.num<0
   ·obtain⟨t1,t2⟩:=az h
    have ea:DZ r = -r:=by unfold DZ;rw[AI h]
    have ee:(sb (BT r)).extract (Int.toNat 1) (BT r).length=sb (BT (DZ r)):=by
     rw[ea,Fc,Cn (Ar _),<-t1];rfl
    rw[Aw h];refine AO ?_;refine As 600 ?_;refine AG (Aa hsz kN) ?_;rw[ee];exact⟨trivial,_,trivial,AK⟩
   ·have ea:DZ r=r:=by unfold DZ;rw[AH h]
    rw[Az h,ea];refine AO ?_;refine An ?_;exact⟨rfl,_,trivial,AK⟩
  rintro n1 -;have hal:=na r;have hsa:=PD (DZ r);rw[T8]at hsa;have hn:=Pe (DZ r);rw[T8]at hn;have hd:=Ng (DZ r);rw[(RZ r).2]at hd;have hh:=Rv (DZ r);rw[(RZ r).2]at hh;unfold DE at hh;have hle:=MI (BT (DZ r));have cs:=VQ (BT (DZ r)) (by omega);have hszA:=C3 (BT (DZ r));clear hsz hne hpos e2 en;generalize hT:BT (DZ r)=T at*;have eR:rR (DZ r)=str (sb T):=by rw[<-hT]
  rw[eR];clear hT eR;refine sR 700 ?_;refine cI cs ?_;have w8:IntKind.i64.wrap ((T.length:Int)-(BL T:Int))=((T.length-BL T:Nat):Int):=by rw[wI];omega
  have eb:decide (((T.length-BL T:Nat):Int)>10)=decide (10<T.length-BL T):=DO.2 (by omega)
  by_cases h9:9<BL T
  ·have e8:decide ((BL T:Int)>9)=true:=BR
   rw[Aw h9]at eq;have eq2:qk r=false:=eq;rw[eq2];refine AC.seq ?_;refine sZ 800 ?_;refine AX e8 ?_;refine AG kT ?_;refine AO ?_;refine sR 900 ?_;refine Aj ?_;exact AM rfl AA.out
  have e8:decide ((BL T:Int)>9)=false:=Bd;rw[Az h9]at eq
  by_cases h10:10<T.length-BL T
  ·rw[Aw h10]at eq eb
   have eq2:qk r=false:=eq;rw[eq2];refine AC.seq ?_;refine sZ 800 ?_;refine AX e8 ?_;refine AG (Bb kF hszA w8 eb) ?_;refine AO ?_;refine sR 900 ?_;refine Aj ?_;exact AM rfl AA.out
  rw[Az h10]at eq eb;have eq2:qk r=true:=eq;rw[eq2];refine AC.seq ?_;refine sZ 800 ?_;refine AX e8 ?_;refine AG (Bb kF hszA w8 eb) ?_;refine AO ?_;refine An ?_;have hd1:=E7 r.num.natAbs;have hd2:=E7 r.den;have c1:=Rw (Lib.decDigits r.num.natAbs) hd1.1 (by omega);rw[hd1.2.1]at c1;have e10:(sb T).extract 0 (BL T)=sb (Lib.decDigits r.num.natAbs):=by
   rw[Fc,GH,<-hn];rfl
  refine sZ 1000 ?_;refine AG (Aa hszA kN) ?_;refine AG e10 ?_;refine BF.same _ c1 AJ ?_;refine BU ?_;refine DJ (α:=Nat) (λn=>⟨[(6,Al (decide (r.num<0))),(8,i64 (r.num.natAbs:Int)),(9,i64 (r.den:Int))],[],n⟩) (λ_=>True) ?_ ?_
  ·by_cases hden:r.den=1
   ·rw[Aw hden]at hh
    have e11:decide ((BL T:Int)<(T.length:Int))=false:=Az (by have:=Do (p:=BL T<T.length) hh;omega);rw[hden];refine sZ 1100 ?_;refine AX (Aa hszA e11) ?_;refine AO ?_;refine An ?_;exact⟨rfl,_,trivial,AK⟩
   ·rw[Az hden]at hh
    rw[AH hden]at hd;have hlt:=DN (p:=BL T<T.length) hh;have e11:decide ((BL T:Int)<(T.length:Int))=true:=BR;have wk:IntKind.i64.wrap (((BL T:Nat):Int)+1)=((BL T+1:Nat):Int):=wI;have e12:(sb T).extract (BL T+1) T.length=sb (Lib.decDigits r.den):=by
     rw[Fc,Cn (Ar _),<-hd];rfl
    have hdl:(Lib.decDigits r.den).length<=18:=by
     rw[<-hd];unfold Bg;rw[D8];omega
    have c2:=Rw (Lib.decDigits r.den) hd2.1 hdl;rw[hd2.2.1]at c2;refine sZ 1100 ?_;refine AX (Aa hszA e11) ?_;refine AO ?_;refine As 1200 ?_;refine AG (Ao hszA wk kN) ?_;refine AG e12 ?_;refine BF.same _ c2 AJ ?_;refine BU ?_;exact⟨trivial,_,trivial,AK⟩
  rintro n2 -;obtain⟨b1,b2⟩:=Ur eq2;refine DJ (α:=Nat) (λn=>⟨[(8,i64 r.num),(9,i64 (r.den:Int))],[],n⟩) (λ_=>True) ?_ ?_
  ·refine sR 1300 ?_
   by_cases h:r.num<0
   ·have wn:IntKind.i64.wrap (0-(r.num.natAbs:Int))=r.num:=by rw[wI];omega
    rw[Aw h];refine AO ?_;refine As 1400 ?_;refine AX wn ?_;exact⟨trivial,_,trivial,AK⟩
   ·have en:(r.num.natAbs:Int)=r.num:=by omega
    rw[Az h,en];refine AO ?_;refine An ?_;exact⟨rfl,_,trivial,AK⟩
  rintro n3 -;refine sR 1500 ?_;refine Aj ?_;exact AM rfl AA.out
theorem mu (b:Bool)(n:Nat):(sg b n).natAbs=n:=by unfold sg;split<;>omega
theorem d8y (z:Int)(d:Nat)(hz:z.natAbs<=4000000000000000000)(hd0:0<d)(hd:d<=4000000000000000000):AL C0 184 [i64 z,i64 (d:Int)] (rR (mkRat z d)):=by
 refine Af.walk w1 uJ rfl λF=>?_
 have hg:0<Nat.gcd z.natAbs d:=QU _ hd0;have hgl:Nat.gcd z.natAbs d<=d:=Nat.gcd_le_right _ hd0;obtain⟨qn,qd⟩:=Uq (x:=z) (d:=d) (by omega);have etx:BT (mkRat z d)=if d/Nat.gcd z.natAbs d=1 then Lib.itoa (mkRat z d).num else Lib.itoa (mkRat z d).num++47::Lib.decDigits (d/Nat.gcd z.natAbs d):=by
  unfold BT;rw[qd]
 have q1:z.tdiv (Nat.gcd z.natAbs d:Nat)=(mkRat z d).num:=by
  rw[qn];obtain⟨p,hp⟩:=Nat.gcd_dvd_left z.natAbs d;have e1:z.natAbs/Nat.gcd z.natAbs d=p:=Nat.div_eq_of_eq_mul_right hg hp;have e2:z=(Nat.gcd z.natAbs d:Int)*sg (decide (z<0)) p:=by
   have h0:(z.natAbs:Int)=(Nat.gcd z.natAbs d:Int)*(p:Int):=by rw[<-Gm,<-hp]
   unfold sg
   by_cases hx:z<0
   ·rw[Aw hx,AI rfl,Int.mul_neg,<-h0];omega
   ·rw[Az hx,AH (by decide),<-h0];omega
  rw[e1]
  conv=>lhs;arg 1;rw[e2]
  rw[Int.mul_tdiv_cancel_left _ (by omega)]
 have q2:(d:Int).tdiv (Nat.gcd z.natAbs d:Nat)=((d/Nat.gcd z.natAbs d:Nat):Int):=rfl;have q5:(mkRat z d).num.natAbs<=4000000000000000000:=by
  rw[qn];rw[mu];exact BY (Gn _ _) hz
 have q4:d/Nat.gcd z.natAbs d<=4000000000000000000:=BY (Gn _ _) hd;have hx:0<d/Nat.gcd z.natAbs d:=Nat.div_pos hgl hg;have ert:rR (mkRat z d)=str (sb (if d/Nat.gcd z.natAbs d=1 then Lib.itoa (mkRat z d).num else Lib.itoa (mkRat z d).num++47::Lib.decDigits (d/Nat.gcd z.natAbs d))):=by rw[<-etx]
 rw[ert];clear etx ert qn qd;generalize(mkRat z d).num=pz at*;refine fR 0 ?_;refine DA ⟨[(0,i64 z),(1,i64 d),(4,str ⟨#[]⟩)],[],50⟩ ?_ ?_
 ·refine AC.seq ?_
  have l1:(decide (z < -4000000000000000000))=false:=by apply Az;omega
  have l2:(decide (z>4000000000000000000))=false:=by apply Az;omega
  have l3:(decide ((d:Int) < -4000000000000000000))=false:=by apply Az;omega
  have l4:(decide ((d:Int)>4000000000000000000))=false:=by apply Az;omega
  refine As 100 ?_
  repeat'(first|(refine BM (by exact CD) ?_;(refine BO ?_);(try simp only[OJ,Sg,l1,l2,l3,l4]))|((refine B1 (λhb=>?_) (λhb=>?_))<;>(try simp only[Bq,B0]at hb)<;>(try simp only[hb])<;>(refine BO ?_)))
  refine AO ?_;refine An ?_;exact BM (by trivial) (AK)
 refine DA ⟨[(0,i64 z),(1,i64 d),(4,str ⟨#[]⟩)],[],100⟩ ?_ ?_
 ·refine fR 300 ?_
  refine AO ?_;have e27:(decide ((d:Int)<0))=false:=by simp
  rw[e27];refine An ?_;exact BM (by trivial) (AK)
 refine AC.seq ?_;have m1:max z (IntKind.i64.wrap (0-z))=(z.natAbs:Int):=by rw[wI];omega
 refine As 500 ?_;refine K0 m1 ?_;refine dI (sP z.natAbs d (by omega) (by omega)) ?_;refine AC.seq ?_;refine CN 600 [0,1,2,3,4,5,6] [7] ?_;refine CH ?_;have w1p:IntKind.i64.wrap pz=pz:=wI;rw[q1,q2,w1p,wN (BY q4 (by decide))];clear q1 q2 hg hgl;generalize d/Nat.gcd z.natAbs d=y at*;refine fR 700 ?_;have c1:=Q7 pz.natAbs 1 (by omega);have c2:=Q7 y 1 (by omega);rw[aJ]at c1 c2;have s1:=NL 18 pz.natAbs (Dy q5 (by decide));have s2:=NL 18 y (Dy q4 (by decide));have z1:=PS (Lib.decDigits pz.natAbs);have z2:=PS (Lib.decDigits y);have m1:max pz (IntKind.i64.wrap (0-pz))=(pz.natAbs:Int):=by rw[wI];omega
 refine DJ (α:=Nat) (λn=>⟨[(0,i64 pz),(1,i64 (y:Int)),(4,str ⟨#[]⟩),(6,str (sb (if pz<0 then[45]else[])))],[],n⟩) (λ_=>True) ?_ ?_
 ·refine fR 800 ?_
  by_cases h:pz<0
  ·rw[Aw h,AI h]
   refine AO ?_;refine fI 900 ?_;exact⟨rfl,_,trivial,AK⟩
  ·rw[Az h,AH h]
   refine AO ?_;refine An ?_;exact⟨rfl,_,trivial,AK⟩
 rintro n0 -;have ei:(if pz<0 then[45]else[])++Lib.decDigits pz.natAbs=Lib.itoa pz:=by
  unfold Lib.itoa;split
  ·rfl
  ·rw[show pz.toNat=pz.natAbs by omega];rfl
 have z3:=C3 (if pz<0 then[45]else[]);have z4:(if pz<0 then[45]else[]:List UInt8).length<=1:=by split<;>simp
 have z5:(Lib.itoa pz).length<=20:=by rw[<-ei,Be];omega
 refine sZ 1000 ?_;refine K0 m1 ?_;refine dI c1 ?_;rw[Jm,ei];have z6:=PS (Lib.itoa pz);generalize Lib.itoa pz=t1 at*;clear ei z3 z4;refine DJ (α:=Nat) (λn=>⟨[(6,str (sb (if y=1 then t1 else t1++47::Lib.decDigits y)))],[],n⟩) (λ_=>True) ?_ ?_
 ·refine fR 1100 ?_
  by_cases hy:y=1
  ·rw[AI hy]
   have e54:(decide ((y:Int)>1))=false:=by apply Az;omega
   rw[e54];refine AO ?_;refine An ?_;exact⟨rfl,_,trivial,AK⟩
  ·rw[AH hy]
   have e54:(decide ((y:Int)>1))=true:=by apply Aw;omega
   have s3:(⟨#[47]⟩:ByteArray).size=1:=rfl;have sc:((⟨t1.toArray⟩:ByteArray)++(⟨#[47]⟩:ByteArray)).size=(⟨t1.toArray⟩:ByteArray).size+(⟨#[47]⟩:ByteArray).size:=ByteArray.size_append;rw[e54];refine AO ?_;refine fI 1200 ?_;refine dI c2 ?_;have e47:(⟨#[47]⟩:ByteArray)=⟨([47]:List UInt8).toArray⟩:=rfl;rw[e47,Jm,Jm,Du,EU,Ei];exact⟨rfl,_,trivial,AK⟩
 rintro n1 -;refine fR 1300 ?_;refine Aj ?_;exact AM rfl AA.out
theorem VB {n k:Nat}(h:(Ah n).length<=k):(Ae n).length<=3*k:=by
 refine MC (Co (KF n) ?_);rw[Nat.pow_mul];exact BY (GK (by decide) h) (Oe (by decide) k)
theorem Np {n k:Nat}(h:(Ah n).length<=k):(Lib.decDigits n).length<=27*k+1:=by
 have h1:=PY (FK n);rw[Ea]at h1
 have:=VB h
 omega
theorem rW {z:Int}{k:Nat}(h:(Ah z.natAbs).length<=k):(Lib.itoa z).length<=27*k+2:=by
 have:=Np h
 unfold Lib.itoa;split
 ·rw[Bu];omega
 ·rw[show z.toNat=z.natAbs by omega];omega
theorem VU {r:Rat}{k:Nat}(h:rk r k)(hk:k<=10000):M6 r:=by
 have h1:=rW h.1;have h2:=Np h.2;unfold M6 BT;split
 ·omega
 ·rw[Be,Bu];omega
def LZ (x:Int)(p:Nat):Prop:=(Ae x.natAbs).length<=p
theorem LZ.mul {x y:Int}{p q:Nat}(hx:LZ x p)(hy:LZ y q):LZ (x*y) (p+q):=by
 unfold LZ at*;rw[Og]
 have:=Tr x.natAbs y.natAbs
 omega
theorem LZ.add {x y:Int}{p q:Nat}(hx:LZ x p)(hy:LZ y q):LZ (x+y) (p+q+1):=by
 unfold LZ at*;have h1:=Ja (x+y).natAbs (x.natAbs+y.natAbs) (Int.natAbs_add_le x y);have h2:=Xg x.natAbs y.natAbs;omega
theorem LZ.few {x:Int}{p:Nat}(h:LZ x p)(hp:p<1000000):Hg x:=Dy h hp
theorem LZ.num {r:Rat}{k:Nat}(h:rk r k):LZ r.num (3*k):=VB h.1
theorem LZ.den {r:Rat}{k:Nat}(h:rk r k):LZ (r.den:Int) (3*k):=VB h.2
theorem xy (a b:Rat):qZ (a.num*b.den+b.num*a.den) ((a.den:Int)*b.den)=a+b:=by
 unfold qZ;have h:¬((a.den:Int)*b.den<0):=by
  rw[<-Gm];omega
 rw[AH h,<-Gm,E5,Rat.add_def',]
theorem UK {x y:Int}(hx:x.natAbs<10^9)(hy:y.natAbs<10^9):(x*y).natAbs<10^18:=by
 rw[Og];exact Co (Nat.mul_lt_mul'' hx hy) (by decide)
theorem iq (a b:Rat)(i j:Nat)(ha:rk a i)(hb:rk b j)(hij:i+j<=10000):AL C0 138 [rR a,rR b] (rR (a+b)):=by
 refine Af.walk w1 uf rfl λF=>?_
 have ta:=VU ha (by omega);have tb:=VU hb (by omega);have qa:=ar a ta;have qb:=ar b tb
 by_cases hq:qk a=true/\qk b=true
 ·obtain⟨h1,h2⟩:=hq
  obtain⟨n1,d1⟩:=Ur h1;obtain⟨n2,d2⟩:=Ur h2;rw[h1,AI rfl,AI rfl]at qa;rw[h2,AI rfl,AI rfl]at qb;have p1:=UK n1 (y:=(b.den:Int)) (by omega);have p2:=UK n2 (y:=(a.den:Int)) (by omega);have p3:=UK (x:=(a.den:Int)) (y:=(b.den:Int)) (by omega) (by omega);have m1:IntKind.i64.wrap (a.num*(b.den:Int))=a.num*b.den:=wI;have m2:IntKind.i64.wrap (b.num*(a.den:Int))=b.num*a.den:=wI;have m3:IntKind.i64.wrap (a.num*(b.den:Int)+b.num*(a.den:Int))=a.num*b.den+b.num*a.den:=wI;have m4:IntKind.i64.wrap ((a.den:Int)*(b.den:Int))=((a.den*b.den:Nat):Int):=by rw[wI,Gm]
  have p4:a.den*b.den<10^18:=by rw[<-Gm,E5]at p3;exact p3
  have cf:=d8y (a.num*b.den+b.num*a.den) (a.den*b.den) (by omega) (IK a.den_pos b.den_pos) (by omega);rw[<-Rat.add_def']at cf;refine sR 0 ?_;refine sR 100 ?_;refine cI qa ?_;refine sR 200 ?_;refine cI qb ?_;refine AC.seq ?_;refine sZ 300 ?_;refine AG kT ?_;refine AO ?_;refine sZ 400 ?_;refine AX (Bb m1 m2 m3 m4) ?_;refine cI cf ?_;refine Aj ?_;exact AM rfl AA.out
 ·refine sR 0 ?_
  refine sR 100 ?_;refine cI qa ?_;refine sR 200 ?_;refine cI qb ?_;refine DJ (α:=Nat) (λn=>⟨[(0,rR a),(1,rR b)],[],n⟩) (λ_=>True) ?_ ?_
  ·cases h1:qk a
   ·refine sZ 300 ?_
    refine AG h1 ?_;refine AG kF ?_;refine AO ?_;refine An ?_;exact⟨rfl,_,trivial,AK⟩
   ·have h2:qk b=false:=by
     cases h2:qk b
     ·rfl
     ·exact Ak ⟨h1,h2⟩ hq
    rw[h2];refine sZ 300 ?_;refine AG h1 ?_;refine AG kT ?_;refine AO ?_;refine An ?_;exact⟨rfl,_,trivial,AK⟩
  rintro n0 -;clear qa qb hq;have pa:=VL (BT a) (Zw a) (Zv a) ta;have pb:=VL (BT b) (Zw b) (Zv b) tb;rw[Zx,py]at pa pb;have lan:=LZ.num ha;have lad:=LZ.den ha;have lbn:=LZ.num hb;have lbd:=LZ.den hb;have da:=a.den_pos;have db:=b.den_pos;have c1:=VV a.num b.den (lan.few (by omega)) (lbd.few (by omega));have c2:=VV b.num a.den (lbn.few (by omega)) (lad.few (by omega));have c3:=xr (a.num*b.den) (b.num*a.den) ((lan.mul lbd).few (by omega)) ((lbn.mul lad).few (by omega));have c4:=VV (a.den:Int) b.den (lad.few (by omega)) (lbd.few (by omega));have c5:=kW (a.num*b.den+b.num*a.den) ((a.den:Int)*b.den) (by rw[<-Gm];have:=IK da db;omega) (((lan.mul lbd).add (lbn.mul lad)).few (by omega)) ((lad.mul lbd).few (by omega));rw[xy]at c5;refine sR 500 ?_;refine cI pa ?_;refine sR 600 ?_;refine cI pb ?_;refine AC.seq ?_;refine CN 700 [0,1,2,3,4,5,6,7,8] [9,10,11] ?_;refine AG kN ?_
  first|refine Bf.same _ c1 AJ ?_|refine BF.same _ c1 AJ ?_
  refine AG kN ?_
  first|refine Bf.same _ c2 AJ ?_|refine BF.same _ c2 AJ ?_
  refine AG kN ?_
  first|refine Bf.same _ c3 AJ ?_|refine BF.same _ c3 AJ ?_
  refine AG kN ?_
  first|refine Bf.same _ c4 AJ ?_|refine BF.same _ c4 AJ ?_
  refine AG kN ?_
  first|refine Bf.same _ c5 AJ ?_|refine BF.same _ c5 AJ ?_
  refine AG kN ?_;refine Aj ?_;exact AM rfl AA.out
theorem oI (c:UInt8):Bl c=(!decide ((c.toNat:Int)<48) && !decide ((c.toNat:Int)>57)):=by
 unfold Bl;rw[GU,BZ,BZ];simp only[Bq,JN,Nat.ble_eq];omega
theorem jg {l:List UInt8}{i:Nat}{c:UInt8}(hc:l[i]?=some c)(h:(l.take i).all Bl=true):(l.take (i+1)).all Bl=Bl c:=by
 rw[Dp,hc,Ks,h];simp
theorem tZ {l:List UInt8}{i:Nat}{c:UInt8}(hc:l[i]?=some c)(h:Bl c=false):l.all Bl=false:=by
 cases ha:l.all Bl
 ·rfl
 ·have:=CW.1 ha c (Ax hc)
  rw[h]at this;cases this
theorem og (l:List UInt8)(hl:l.length<=1000000000):AL C0 225 [str (sb l)] (Al (l.all Bl)):=by
 refine Af.walk w1 uh rfl λF=>?_
 have hsz:=C3 l;refine sR 0 ?_;refine AC.seq ?_;refine sR 100 ?_;refine AC.block ?_;refine AC.loop (α:=Nat×Nat) (λp=>⟨[(0,str (sb l)),(3,i64 (p.1:Int))],[],p.2⟩) (λp=>l.length-p.1) (λp=>p.1<=l.length/\(l.take p.1).all Bl=true) (0,_) ⟨BW _,rfl⟩ AK ?_;rintro⟨i,n⟩ F ⟨hi,ha⟩;dsimp only at hi ha⊢;refine AC.seq ?_;refine sZ 200 ?_;refine AX hsz ?_;refine AO ?_
 (refine B1 (λhlt=>?_) (λhlt=>?_))<;>(try simp only[Bq,B0]at hlt)<;>(try simp only[hlt])
 ·have hi2:i<l.length:=by
   have:=DN hlt
   omega
  obtain⟨c,hc⟩:∃c,l[i]?=some c:=⟨l[i],Bs hi2⟩
  have hg:l.getD i 0=c:=by simp[hc]
  have wi:IntKind.i64.wrap ((i:Int)+1)=((i+1:Nat):Int):=wI;have hid:=oI c;have hat:=jg hc ha;have hno:=tZ hc;refine An ?_;refine AC.seq ?_;refine AC.block ?_;refine sZ 400 ?_;refine AX (Aa kN hg) ?_
  by_cases c1:(c.toNat:Int)<48
  ·rw[Aw c1]at hid
   have e4:=Aw c1;simp only[e4];refine AG kT ?_;refine AO ?_;refine sR 500 ?_;refine Aj ?_;exact AM (by rw[hno hid]) AA.out
  ·rw[Az c1]at hid
   have e4:=Az c1;simp only[e4];refine AG (Ao kF kN hg) ?_
   by_cases c2:(c.toNat:Int)>57
   ·rw[Aw c2]at hid⊢
    refine AO ?_;refine sR 500 ?_;refine Aj ?_;exact AM (by rw[hno hid]) AA.out
   ·rw[Az c2]at hid⊢
    refine AO ?_;refine An ?_;refine As 300 ?_;refine AX wi ?_;exact⟨(i+1,_),⟨hi2,hat.trans hid⟩,by dsimp only;omega,AK⟩
 ·have hi2:i=l.length:=by
   have:=Do hlt
   omega
  subst hi2;rw[Cn (Ar _)]at ha;refine CG ?_;refine sR 600 ?_;refine Aj ?_;exact AM (by rw[ha]) AA.out
theorem mA (c:UInt8):(((c.toNat:Nat):Int)==48)=decide (c=48):=by
 rw[GU,ED,decide_eq_true_iff,<-UInt8.toNat_inj];exact⟨λh=>(show c.toNat=48 by omega),λh=>by rw[h];rfl⟩
theorem eZ (l:List UInt8)(hl:l.length<=1000000000):AL C0 180 [str (sb l)] (Al (DR l)):=by
 refine Af.walk w1 uF rfl λF=>?_
 have hsz:=C3 l;have cd:=og l hl;refine sR 0 ?_;refine AC.seq ?_;refine AC.seq ?_
 match l,hl,hsz,cd with
 | [],_,hsz,_=>
  have e1:((((sb []).size:Nat):Int)==0)=true:=rfl;refine As 100 ?_;refine AX e1 ?_;refine AG kT ?_;refine AO ?_;refine sR 200 ?_;refine Aj ?_;exact AM rfl AA.out
 | [c],hl,hsz,cd=>
  have e1:((((sb [c]).size:Nat):Int)==0)=false:=rfl;have e2:decide ((((sb [c]).size:Nat):Int)>1)=false:=rfl;have ep:DR [c]=[c].all Bl:=by
   unfold DR Ll
   by_cases h:c=48
   ·subst h;rfl
   ·simp[h]
  rw[ep];refine As 100 ?_;refine AX e1 ?_;refine AG kF ?_;simp only[e2];refine AG kF ?_;refine AO ?_;refine An ?_;refine sR 300 ?_;refine cI cd ?_;refine Aj ?_;exact AM rfl AA.out
 |c::d::l,hl,hsz,cd=>
  have hs2:(sb (c::d::l)).size=l.length+2:=hsz;have e1:((((sb (c::d::l)).size:Nat):Int)==0)=false:=Bo.2 (by omega);have e2:decide ((((sb (c::d::l)).size:Nat):Int)>1)=true:=BR;have e3:((((c::d::l).getD (Int.toNat 0) 0).toNat:Int)==48)=decide (c=48):=mA c;have ep:DR (c::d::l)=if c=48 then false else(c::d::l).all Bl:=by
   unfold DR Ll
   by_cases h:c=48
   ·subst h;simp
   ·simp[h]
  rw[ep];refine As 100 ?_;refine AX e1 ?_;refine AG (Aa kF e2) ?_;refine AG (Bb kT e2 e3 kF) ?_
  by_cases h:c=48
  ·rw[Aw h,AI h]
   refine AO ?_;refine sR 200 ?_;refine Aj ?_;exact AM rfl AA.out
  ·rw[Az h,AH h]
   refine AO ?_;refine An ?_;refine sR 300 ?_;refine cI cd ?_;refine Aj ?_;exact AM rfl AA.out
def EG (r:Rat):Bool:=decide (600<(Lib.decDigits r.num.natAbs).length)||decide (600<(Lib.decDigits r.den).length)
theorem mz (l:List UInt8):BL l=(B6 l).length:=by
 have:=MI l
 unfold B6;rw[Bc];omega
theorem T5 (l:List UInt8):B6 (Bv l)=CA l/\Bg (Bv l)=Bg l/\DE (Bv l)=DE l/\decide (B6 l=[45,48])=(Dk l&&decide (CA l=[48])):=by
 cases hb:Dk l
 ·have ed:Bv l=l:=by unfold Bv;rw[hb];rfl
  have en:Dk (B6 l)=false:=by
   unfold B6;cases l with
   |nil=>rfl
   |cons c l=>
    cases hk:BL (c::l)with
    |zero=>rfl
    |succ k=>exact hb
  have es:CA l=B6 l:=by unfold CA Bv;rw[en];rfl
  rw[ed,es];refine⟨rfl,rfl,rfl,?_⟩;rw[Hk];refine Az λh=>?_
  rw[h]at en;cases en
 ·cases l with
  |nil=>cases hb
  |cons c m=>
   have hc:c=45:=by simpa[Dk]using hb
   subst hc;have ed:Bv (45::m)=m:=rfl;have e1:BL (45::m)=BL m+1:=by
    unfold BL;rw[Qd,AI (by decide),Bu]
   have e2:B6 (45::m)=45::B6 m:=by unfold B6;rw[e1,List.take_succ_cons]
   have e3:Bg (45::m)=Bg m:=by unfold Bg;rw[e1,TX]
   have e4:DE (45::m)=DE m:=by unfold DE;rw[e1,Bu];exact DO.2 (by omega)
   have e5:CA (45::m)=B6 m:=by unfold CA;rw[e2];rfl
   rw[ed,e2,e3,e4,e5];refine⟨rfl,rfl,rfl,?_⟩;rw[Gl];exact DO.2 (by simp)
theorem Q6 (l:List UInt8):KJ l=((!DR (CA l)||(Dk l&&decide (CA l=[48])))||(DE l&&(!DR (Bg l)||decide (Bg l=[48])||decide (Bg l=[49])))):=by
 unfold KJ;rw[(T5 l).2.2.2]
theorem o9 {l:List UInt8}(h:DR l=true):l≠[]:=(K8 h).1
theorem fS {l:List UInt8}(h:0<l.length):(((l.getD (Int.toNat 0) 0).toNat:Int)==45)=Dk l:=by
 cases l with
 |nil=>cases h
 |cons c l=>exact RQ c l
theorem xT (l:List UInt8)(hl:l.length<=100000):AL C0 136 [str (sb l)] (i64 (Cr l)):=by
 refine Af.walk w1 ud rfl λF=>?_
 have hsz:=C3 l;obtain⟨p1,p2,p3,-⟩:=T5 l;have hdl:(Bv l).length<=l.length:=by
  unfold Bv;split
  ·rw[D8];omega
  ·exact Ar _
 have hbf:=Q6 l;have hchk1:(!DR (CA l)||(Dk l&&decide (CA l=[48])))=true->Cr l=1:=λh=>by
  unfold Cr;rw[hbf,h,Bool.true_or,AI rfl]
 have hchk2:(DE l&&(!DR (Bg l)||decide (Bg l=[48])||decide (Bg l=[49])))=true->Cr l=1:=λh=>by
  unfold Cr;rw[hbf,h,Bool.or_true,AI rfl]
 have hne:DR (CA l)=true->0<l.length:=λh=>by
  cases l with
  |nil=>exact Ak rfl (o9 h)
  |cons c l=>rw[Bu];omega
 refine sR 0 ?_;refine sR 100 ?_;refine DJ (α:=Nat) (λn=>⟨[(0,str (sb l)),(3,str (sb (Bv l)))],[],n⟩) (λ_=>True) ?_ ?_
 ·rcases D7 l.length with h0|h0
  ·have e0:l=[]:=FB h0
   have e1:decide (((sb []).size:Int)>0)=false:=rfl;have ed:Bv l=l:=by rw[e0];rfl
   rw[ed,e0];refine sZ 200 ?_;refine AX e1 ?_;refine AG kF ?_;refine AO ?_;refine An ?_;exact⟨rfl,_,trivial,AK⟩
  ·have e0:decide (((sb l).size:Int)>0)=true:=BR
   have e1:=fS h0;refine sZ 200 ?_;refine AG e0 ?_;refine AG (Ao kT e0 e1) ?_;cases hb:Dk l
   ·have ed:Bv l=l:=by unfold Bv;rw[hb];rfl
    rw[ed];refine AO ?_;refine An ?_;exact⟨rfl,_,trivial,AK⟩
   ·have ed:Bv l=l.drop 1:=by unfold Bv;rw[hb];rfl
    have ee:(sb l).extract (Int.toNat 1) l.length=sb (Bv l):=by
     rw[Fc,Cn (Ar _),ed];rfl
    refine AO ?_;refine As 300 ?_;refine AG (Aa hsz kN) ?_;rw[ee];exact⟨trivial,_,trivial,AK⟩
 rintro n0 -;have cs:=VQ (Bv l) (by omega);have hle:=MI (Bv l);have hszS:=C3 (Bv l);have hhs:DE l=decide (BL (Bv l)<(Bv l).length):=p3.symm;have e10:(sb (Bv l)).extract 0 (BL (Bv l))=sb (CA l):=by rw[<-p1,Fc,GH];rfl
 have e11:(sb (Bv l)).extract (BL (Bv l)+1) (Bv l).length=sb (Bg l):=by rw[<-p2,Fc,Cn (Ar _)];rfl
 have hNl:BL (Bv l)=(CA l).length:=by rw[<-p1];exact mz _
 have hDl:(Bg l).length=(Bv l).length-(BL (Bv l)+1):=by rw[<-p2];unfold Bg;rw[D8]
 have pp:=λh1 h2=>VL (Bv l) h1 h2 (by omega)
 unfold QM P9 at pp;rw[p1,p2,p3]at pp;have edef:Cr l=if KJ l then 1 else if 600<(CA l).length\/600<(Bg l).length then 4 else if DE l=true/\Nat.gcd (dv (CA l)) (dv (Bg l))≠1 then 1 else 0:=rfl
 rw[hbf]at edef;generalize hN:CA l=Nn at*;generalize hD:Bg l=Dn at*;generalize hH:DE l=hv at*;generalize hK:Cr l=KnV at*;generalize Bv l=Sn at*;generalize BL Sn=k at*;clear p1 p2 p3 hbf hN hD hH hK;have cf:=eZ Nn (by omega);have cf2:=eZ Dn (by omega);have q0:=Ff Nn [48];have q1:=Ff Dn [48];have q2:=Ff Dn [49];refine sR 400 ?_;refine cI cs ?_;refine DJ (α:=Nat) (λn=>⟨[(0,str (sb l)),(3,str (sb Sn)),(4,i64 (k:Int))],[],n⟩) (λ_=>(!DR Nn||(Dk l&&decide (Nn=[48])))=false) ?_ ?_
 ·refine sZ 500 ?_
  refine AG (Aa hszS kN) ?_;refine AG e10 ?_;cases hp:DR Nn
  ·rw[hp]at cf
   refine BF.same _ cf AJ ?_;refine BU ?_;simp only[TN];refine AG kT ?_;refine AO ?_;refine sR 600 ?_;refine Aj ?_;exact AM (by rw[hchk1 (by rw[hp];rfl)];rfl) AA.out
  ·rw[hp]at cf
   have hl0:=hne hp;have e1:=fS hl0;refine BF.same _ cf AJ ?_;refine BU ?_;simp only[QX];refine AG (Ao kF hsz e1) ?_;have q0':BJ (sb Nn) ⟨#[48]⟩=decide (Nn=[48]):=q0;cases hb:Dk l
   ·refine AG kF ?_
    refine AO ?_;refine An ?_;exact⟨rfl,_,rfl,AK⟩
   ·refine AG (Bb kT kF hszS kN) ?_
    refine AG (Bb kT kF e10 q0') ?_
    by_cases h0:Nn=[48]
    ·rw[Aw h0]
     refine AO ?_;refine sR 600 ?_;refine Aj ?_;exact AM (by rw[hchk1 (by simp[hp,hb,h0])];rfl) AA.out
    ·rw[Az h0]
     refine AO ?_;refine An ?_;exact⟨rfl,_,by simp,AK⟩
 rintro n1 hb1;clear hchk1 hne cf q0;refine DJ (α:=Nat) (λn=>⟨[(0,str (sb l)),(3,str (sb Sn)),(4,i64 (k:Int))],[],n⟩) (λ_=>(hv&&(!DR Dn||decide (Dn=[48])||decide (Dn=[49])))=false) ?_ ?_
 ·cases hv
  ·have e40:decide ((k:Int)<(Sn.length:Int))=false:=Az (by have:=Do hhs.symm;omega)
   refine sZ 700 ?_;refine AX (Aa hszS e40) ?_;refine AG kF ?_;refine AO ?_;refine An ?_;exact⟨rfl,_,rfl,AK⟩
  ·have hkl:=DN hhs.symm
   have e40:decide ((k:Int)<(Sn.length:Int))=true:=BR;have wk:IntKind.i64.wrap ((k:Int)+1)=((k+1:Nat):Int):=wI;have q1':BJ (sb Dn) ⟨#[48]⟩=decide (Dn=[48]):=q1;have q2':BJ (sb Dn) ⟨#[49]⟩=decide (Dn=[49]):=q2;refine sZ 700 ?_;refine AX (Aa hszS e40) ?_;refine AG (Bb kT wk hszS kN) ?_;simp only[e11];refine Oq kT ?_;cases hp:DR Dn
   ·rw[hp]at cf2
    refine BF.same _ cf2 AJ ?_;refine AG kB ?_;refine AG kT ?_;refine AO ?_;refine sR 800 ?_;refine Aj ?_;exact AM (by rw[hchk2 (by simp[hp])];rfl) AA.out
   ·rw[hp]at cf2
    have e12:(sb Sn).extract (IntKind.i64.wrap ((k:Int)+1)).toNat (sb Sn).size=sb Dn:=by rw[wk,hszS,JQ];exact e11
    refine BF.same _ cf2 AJ ?_;refine AG kB ?_;simp only[e12,q1']
    by_cases h48:Dn=[48]
    ·rw[Aw h48]
     refine AG kT ?_;refine AO ?_;refine sR 800 ?_;refine Aj ?_;exact AM (by rw[hchk2 (by simp[h48])];rfl) AA.out
    ·rw[Az h48]
     refine AG kB ?_;simp only[e12,q2']
     by_cases h49:Dn=[49]
     ·rw[Aw h49]
      refine AO ?_;refine sR 800 ?_;refine Aj ?_;exact AM (by rw[hchk2 (by simp[h49])];rfl) AA.out
     ·rw[Az h49]
      refine AO ?_;refine An ?_;exact⟨rfl,_,by simp,AK⟩
 rintro n2 hb2;clear hchk2 cf2 q1 q2 e10 e11 hsz;have hpN:DR Nn=true:=by
  cases h:DR Nn
  ·rw[h]at hb1;simp at hb1
  ·rfl
 have hpD:hv=true->DR Dn=true:=λh0=>by
  cases h:DR Dn
  ·rw[h,h0]at hb2;simp at hb2
  ·rfl
 rw[hb1,hb2]at edef;rw[AH (by decide)]at edef;have wl1:IntKind.i64.wrap ((Sn.length:Int)-(k:Int))=(Sn.length:Int)-(k:Int):=wI;have wl2:IntKind.i64.wrap ((Sn.length:Int)-(k:Int)-1)=(Sn.length:Int)-(k:Int)-1:=wI;have e91:decide ((Sn.length:Int)-(k:Int)-1>600)=decide (600<Dn.length):=DO.2 (by omega);refine DJ (α:=Nat) (λn=>⟨[(3,str (sb Sn)),(4,i64 (k:Int))],[],n⟩) (λ_=>Nn.length<=600/\Dn.length<=600) ?_ ?_
 ·by_cases g1:600<k
  ·have e9:decide ((k:Int)>600)=true:=BR
   rw[AI (.inl (by omega))]at edef;refine sZ 900 ?_;refine AX e9 ?_;refine AG kT ?_;refine AO ?_;refine sR 1000 ?_;refine Aj ?_;exact AM (by rw[edef];rfl) AA.out
  ·have e9:decide ((k:Int)>600)=false:=Bd
   refine sZ 900 ?_;refine AX e9 ?_;refine AG (CS kF hszS wl1 wl2 e91) ?_
   by_cases g2:600<Dn.length
   ·rw[AI (.inr g2)]at edef
    rw[Aw g2];refine AO ?_;refine sR 1000 ?_;refine Aj ?_;exact AM (by rw[edef];rfl) AA.out
   ·rw[Az g2]
    refine AO ?_;refine An ?_;exact⟨rfl,_,⟨by omega,by omega⟩,AK⟩
 rintro n3 ⟨g1,g2⟩;rw[CP]at edef;clear e91 wl1 wl2 hb1 hb2;obtain⟨-,dN⟩:=K8 hpN;refine DJ (α:=Nat) (λn=>⟨[],[],n⟩) (λ_=>KnV=0) ?_ ?_
 ·cases hv
  ·have e40:decide ((k:Int)<(Sn.length:Int))=false:=Az (by have:=Do hhs.symm;omega)
   rw[AH (by simp)]at edef;refine sZ 1100 ?_;refine AX (Aa hszS e40) ?_;refine AO ?_;refine An ?_;exact⟨rfl,_,edef,AK⟩
  ·have hkl:=DN hhs.symm
   have e40:decide ((k:Int)<(Sn.length:Int))=true:=BR;obtain⟨-,dD⟩:=K8 (hpD rfl);have pa:=pp (by rw[K7 dN];exact dN) (by rw[K7 dD];exact dD);rw[AI rfl,N4 dN,N4 dD]at pa;have lN:(Ae (dv Nn)).length<1000000:=Dy (MC (Co (G3 Nn dN) (Oe (by decide) Nn.length))) (by omega);have lD:(Ae (dv Dn)).length<1000000:=Dy (MC (Co (G3 Dn dD) (Oe (by decide) Dn.length))) (by omega);have cg:AL C0 182 [rD ((dv Nn:Int)).natAbs,rD ((dv Dn:Int)).natAbs] (.sl false 1 ((Ae (Nat.gcd (dv Nn) (dv Dn))).map Ag)):=ZF (dv Nn) (dv Dn) lN lD;have ht:=ZT (Nat.gcd (dv Nn) (dv Dn));have ed1:Nat.gcd (dv Nn) (dv Dn)≠1->KnV=1:=λh=>by rw[AI ⟨rfl,h⟩]at edef;exact edef
   have ed0:Nat.gcd (dv Nn) (dv Dn)=1->KnV=0:=λh=>by rw[AH (λhh=>hh.2 h)]at edef;exact edef
   clear edef;generalize Nat.gcd (dv Nn) (dv Dn)=gg at*;refine sZ 1100 ?_;refine AX (Aa hszS e40) ?_;refine AO ?_;refine sR 1200 ?_;refine cI pa ?_;refine sR 1300 ?_;refine cI cg ?_;rcases ht with⟨t1,a,ha,t2⟩|⟨t1,t2⟩
   ·have ha':=EH ha
    have t1n:((((Ae gg).map Ag).length:Int) != 1)=false:=by unfold bne;rw[t1];rfl
    have t2n:((a:Int) != 1) = !decide (gg=1):=by unfold bne;rw[t2]
    refine sZ 1400 ?_;refine AX t1n ?_;refine AG kF ?_;refine By kF ha' ?_;refine AG (Aa kF t2n) ?_
    by_cases hg1:gg=1
    ·rw[Aw hg1]
     refine AO ?_;refine An ?_;exact⟨rfl,_,ed0 hg1,AK⟩
    ·rw[Az hg1]
     refine AO ?_;refine sR 1500 ?_;refine Aj ?_;exact AM (by rw[ed1 hg1];rfl) AA.out
   ·have edf:=ed1 t2
    have t1n:((((Ae gg).map Ag).length:Int) != 1)=true:=by unfold bne;rw[t1];rfl
    refine sZ 1400 ?_;refine AX t1n ?_;refine AG kT ?_;refine AO ?_;refine sR 1500 ?_;refine Aj ?_;exact AM (by rw[edf];rfl) AA.out
 rintro n4 h0;refine sR 1600 ?_;refine Aj ?_;exact AM (by rw[h0];rfl) AA.out
theorem oc {n k:Nat}(hn:n≠0)(hk:k<10):Lib.decDigits (n*10+k)=Lib.decDigits n++[UInt8.ofNat (48+k)]:=by
 rw[Lib.decDigits,dif_neg (by omega)]
 congr 2
 ·omega
 ·congr 2;omega
theorem ZJ {c:UInt8}(h:Bl c=true):UInt8.ofNat (48+(c.toNat-48))=c:=by
 obtain⟨h1,h2⟩:=MF h;rw[<-UInt8.toNat_inj,Re _ (by omega)];omega
theorem qL (l:List UInt8)(c:UInt8):dv (l++[c])=dv l*10+(c.toNat-48):=by
 rw[O8];simp[dv,Hj]
theorem tN:∀(n:Nat) (l:List UInt8),l.length=n->l≠[]->l.all Bl=true->l.head? ≠ some 48->dv l≠0/\Lib.decDigits (dv l)=l:=λn=>by
 induction n with
 |zero=>intro l h0 h1;exact Ak (FB h0) h1
 |succ n ih=>
  intro l h0 h1 h2 h3;rcases TT l with rfl|⟨m,c,rfl⟩
  ·exact Ak rfl h1
  ·rw[TS]at h0 h1 h2 h3⊢
   rw[Ks,BZ]at h2;have hc:Bl c=true:=by simpa using h2.2
   obtain⟨c1,c2⟩:=MF hc;rw[qL]
   by_cases hm:m=[]
   ·subst hm
    have hc48:c≠48:=λh=>h3 (by rw[h];rfl)
    have hcn:c.toNat≠48:=λh=>hc48 (UInt8.toNat_inj.1 h)
    have e0:dv []*10+(c.toNat-48)=c.toNat-48:=by simp[dv,Hj]
    rw[e0];refine⟨by omega,?_⟩;rw[Lib.decDigits,dif_pos (by omega),ZJ hc];rfl
   ·have hh:m.head? ≠ some 48:=by
     cases m with
     |nil=>exact Ak rfl hm
     |cons a m=>exact h3
    obtain⟨i1,i2⟩:=ih m (by rw[Be,HN]at h0;omega) hm h2.1 hh;refine⟨by omega,?_⟩;rw[oc i1 (by omega),i2,ZJ hc]
theorem UE {l:List UInt8}(h:DR l=true):Lib.decDigits (dv l)=l/\(l≠[48]->dv l≠0):=by
 obtain⟨h1,h2⟩:=K8 h
 by_cases h0:l=[48]
 ·subst h0
  refine⟨?_,λhh=>Ak rfl hh⟩;show Lib.decDigits 0=[48];rw[Lib.decDigits,dif_pos (by decide)];rfl
 ·have h3:l.head? ≠ some 48:=by
   unfold DR at h;rw[BZ,Az h0,Bool.false_or]at h
   have:=h.2
   simpa using this
  obtain⟨a,b⟩:=tN _ l rfl h1 h2 h3;exact⟨b,λ_=>a⟩
theorem Zs:∀ {l:List UInt8},BL l<l.length->l.drop (BL l)=47::l.drop (BL l+1)
 | [],h=>by cases h
 |c::l,h=>by
  by_cases hc:c=47
  ·subst hc;rfl
  ·have e1:BL (c::l)=BL l+1:=by
    unfold BL;rw[Qd,AI (by simpa using hc),Bu]
   rw[e1,Bu]at h;rw[e1,TX,TX];exact Zs (by omega)
def Hd (l:List UInt8):Nat:=if DE l then dv (Bg l)else 1
def Cd (l:List UInt8):Rat:=mkRat (rv (B6 l)) (Hd l)
theorem mV {n:Int}{d:Nat}(hd:d≠0)(h:Nat.gcd n.natAbs d=1):(mkRat n d).num=n/\(mkRat n d).den=d:=by
 obtain⟨q1,q2⟩:=Uq (x:=n) hd;rw[h,Nat.div_one]at q1 q2;rw[SL]at q1;exact⟨q1,q2⟩
theorem Rc {l:List UInt8}(h:Cr l=0):KJ l=false/\(CA l).length<=600/\(Bg l).length<=600/\(DE l=true->Nat.gcd (dv (CA l)) (dv (Bg l))=1):=by
 unfold Cr at h;cases hb:KJ l
 ·rw[hb,AH (by decide)]at h
  split at h
  ·cases h
  ·rename_i h1
   split at h
   ·cases h
   ·rename_i h2
    refine⟨rfl,by omega,by omega,λh3=>?_⟩;rcases Nat.decEq (Nat.gcd (dv (CA l)) (dv (Bg l))) 1 with h4|h4
    ·exact Ak ⟨h3,h4⟩ h2
    ·exact h4
 ·rw[hb,AI rfl]at h;cases h
theorem O7 {l:List UInt8}(h:Cr l=0):(Cd l).num=rv (B6 l)/\(Cd l).den=Hd l/\BT (Cd l)=l/\(rv (B6 l)).natAbs=dv (CA l):=by
 obtain⟨h1,h2,h3,h4⟩:=Rc h;rw[Q6]at h1;simp only[Jw]at h1;obtain⟨⟨b1,b2⟩,b3⟩:=h1;have p1:DR (CA l)=true:=by simpa using b1
 obtain⟨d1,d2⟩:=UE p1;have hab:(rv (B6 l)).natAbs=dv (CA l):=by
  show(rv (B6 l)).natAbs=dv (Bv (B6 l));unfold rv;split<;>omega
 have hdd:DE l=true->DR (Bg l)=true/\Bg l≠[48]/\Bg l≠[49]:=λhs=>by
  rw[hs,Gl]at b3;simp only[Jw]at b3;exact⟨by simpa using b3.1.1,Do b3.1.2,Do b3.2⟩
 have hd0:Hd l≠0:=by
  unfold Hd;cases hs:DE l
  ·simp
  ·obtain⟨e1,e2,e3⟩:=hdd hs
   simpa using(UE e1).2 e2
 have hg:Nat.gcd (rv (B6 l)).natAbs (Hd l)=1:=by
  rw[hab];unfold Hd;cases hs:DE l
  ·simp
  ·simpa using h4 hs
 obtain⟨m1,m2⟩:=mV hd0 hg;refine⟨m1,m2,?_,hab⟩;have hi:Lib.itoa (rv (B6 l))=B6 l:=by
  cases hb:Dk (B6 l)
  ·have e1:CA l=B6 l:=by unfold CA Bv;rw[hb];rfl
   rw[e1]at d1;have e2:rv (B6 l)=(dv (B6 l):Int):=by unfold rv Bv;rw[hb];rfl
   rw[e2];unfold Lib.itoa;rw[CP];exact d1
  ·obtain⟨m,hm⟩:∃m,B6 l=45::m:=by
    cases hn:B6 l with
    |nil=>rw[hn]at hb;cases hb
    |cons c m=>
     rw[hn]at hb;exact⟨m,by rw[show c=45 by simpa[Dk]using hb]⟩
   have e1:CA l=m:=by unfold CA;rw[hm];rfl
   have hne:CA l≠[48]:=λh=>by
    have:=(T5 l).2.2.2
    rw[b2,hm]at this;have h2:=Do this;rw[e1]at h;exact h2 (by rw[h])
   have hpos:=d2 hne;rw[e1]at d1 hpos;have e2:rv (B6 l) = -(dv m:Int):=by rw[hm];rfl
   rw[e2];unfold Lib.itoa;rw[DQ,ND,E5,d1,hm]
 unfold BT;rw[show(Cd l).num=rv (B6 l)from m1,show(Cd l).den=Hd l from m2,hi];have hle:=MI l;cases hs:DE l
 ·have e1:Hd l=1:=by unfold Hd;rw[hs];rfl
  have e2:=Do (p:=BL l<l.length) hs;rw[AI e1];unfold B6;exact Gw
 ·obtain⟨e1,e2,e3⟩:=hdd hs
  have e4:Hd l=dv (Bg l):=by unfold Hd;rw[hs];rfl
  have e5:=(UE e1).1;have e6:dv (Bg l)≠1:=λh=>by
   rw[h,Lib.decDigits,dif_pos (by decide)]at e5;exact e3 e5.symm
  rw[e4,AH e6,e5];unfold B6 Bg;rw[<-Zs (DN hs),Fq]
theorem Qu {l:List UInt8}(h:Cr l=0):(CA l).all Bl=true/\(DE l=true->(Bg l).all Bl=true):=by
 obtain⟨h1,-,-,-⟩:=Rc h;rw[Q6]at h1;simp only[Jw]at h1;obtain⟨⟨b1,-⟩,b3⟩:=h1;refine⟨(K8 (by simpa using b1)).2,λhs=>?_⟩;rw[hs,Gl]at b3;simp only[Jw]at b3;exact(K8 (by simpa using b3.1.1)).2
theorem No {l:List UInt8}(h:Cr l=0):rk (Cd l) 600:=by
 obtain⟨m1,m2,-,m4⟩:=O7 h;obtain⟨-,h2,h3,-⟩:=Rc h;obtain⟨p1,p2⟩:=Qu h;have hb:∀k,(10:Nat)^k<=BB^k:=λk=>Oe (by decide) k
 refine⟨?_,?_⟩
 ·rw[m1,m4]
  exact BY (Hu (Co (G3 _ p1) (hb _))) h2
 ·rw[m2]
  unfold Hd;cases hs:DE l
  ·exact BY (Hu (n:=1) (k:=1) (by decide)) (by decide)
  ·exact BY (Hu (Co (G3 _ (p2 hs)) (hb _))) h3
theorem SB {l:List UInt8}(h:Cr l=0):FR (Cd l) (G4 l) 600:=by
 obtain⟨m1,m2,-,-⟩:=O7 h;refine⟨⟨C4 _,?_,?_⟩,No h⟩
 ·show(Ac (rv (B6 l))).z=_
  rw[EE,m1]
 ·show(if DE l then dv (Bg l)else 1)=_
  rw[m2];rfl
theorem SR {l:List UInt8}(hl:l.length<=100000)(h:Cr l=0):AL C0 91 [str (sb l)] (G4 l).D:=rK l hl (Qu h).1 (Qu h).2
structure Au where
 lot:List UInt8
 part:List UInt8
def Au.D (s:Au):D:=.agg [str (sb s.lot),str (sb s.part)]
instance e0i (s:Au):AS s.D:=by unfold Au.D;exact AJ
instance e0j (s:Au):AA s.D:=by unfold Au.D;exact AJ
abbrev CY (b:Bool)(l:List Au):D:=.sl b 2 (l.map Au.D)
def Au.few (s:Au):Prop:=s.lot.length<=100000/\s.part.length<=100000
def Ga (l:List Au)(k:Nat):Au:=l.getD k ⟨[],[]⟩
theorem KU {l:List Au}{k:Nat}{s:Au}(h:l[k]?=some s):Ga l k=s:=by unfold Ga;rw[EK,h];rfl
structure AE where
 grain:List UInt8
 mass:Int
 shs:List Au
def AE.D (x:AE):D:=.agg [str (sb x.grain),i64 x.mass,CY false x.shs]
instance d9a (x:AE):AS x.D:=by unfold AE.D;exact AJ
instance d9b (x:AE):AA x.D:=by unfold AE.D;exact AJ
abbrev AV (b:Bool)(l:List AE):D:=.sl b 3 (l.map AE.D)
theorem QG (z:Int)(h:Sm z):AL C0 93 [i64 z] (⟨Ac z,1⟩:GF).D:=by
 have e:(⟨Ac z,1⟩:GF).D=NJ z 1:=by
  unfold GF.D;rw[Vr,KO h];rfl
 rw[e];exact d9y z
theorem rU {n:GI}{k:Nat}(h:n.wf)(hk:1<=k)(hl:(Ah n.z.natAbs).length<=k):FR (n.z:Rat) ⟨n,1⟩ k:=by
 refine⟨⟨h,(Rat.num_intCast _).symm,(Rat.den_intCast _).symm⟩,?_⟩;unfold rk;rw[Rat.num_intCast,Rat.den_intCast];exact⟨hl,BY (Hu (n:=1) (k:=1) (by decide)) hk⟩
theorem Rs {z:Int}(h:z.natAbs<18446744073709551616):FR (z:Rat) ⟨Ac z,1⟩ 1:=by
 have:=rU (n:=Ac z) (k:=1) (C4 _) (Ar _) (by rw[EE];exact Hu (k:=1) (by unfold BB;omega))
 rwa [EE]at this
open Go.ChangeShapes Go.WideShapes
def Ot (P:Program)(t:Nat):Option (List (Nat×Nat×Nat)):=match P.underlying t with
 |some (.struct fs)=>some (fs.toList.map λf=>(f.type,f.offset,P.cellsOf f.type))
 |_=>none
section
variable {H:Type} {enc:TypeId×Value->H} {W:World} {fuel:Nat} {cs:List Value} {x:DataW H×List MemPlace} {t:TypeId}
theorem Sr {l:List (Nat×Nat×Nat)}{m:Nat}(hs:Ot Tryz.prog t=some l)(hm:Tryz.prog.cellsOf t=m)(h:DataW.trod enc Tryz.prog W 0 (λ_=>true) true fuel t cs=some x):
  cs.length=m/\∃n,∀(i u off k:Nat),l[i]?=some (u,off,k)->∃y,DataW.trod enc Tryz.prog W 0 (λ_=>true) true n u ((cs.drop off).take k)=some y:=by
 unfold Ot at hs;split at hs
 ·rename_i fs hu
  obtain⟨h1,n,h2⟩:=nO hu h;refine⟨h1.trans hm,n,λi u off k hl=>?_⟩;obtain rfl:=GV hs;rw[Ay]at hl;obtain⟨f,hf,he⟩:=E4.1 hl;cases he;exact h2 i f (by rw[<-Jv];exact hf)
 ·cases hs
theorem KQ {a b c:Nat}{p q:List D}(h:D5 W ((cs.drop a).take b) p)(k:D5 W ((cs.drop (a+b)).take c) q):D5 W ((cs.drop a).take (b+c)) (p++q):=by
 rw[List.take_add,List.drop_drop];exact h.append k
theorem SJ {n:Nat}{p:List D}(hn:cs.length=n)(h:D5 W ((cs.drop 0).take n) p):D5 W cs p:=by
 rw[GH,<-hn,Cw]at h;exact h
theorem xW (h:DataW.trod enc Tryz.prog W 0 (λ_=>true) true fuel 66 cs=some x):∃l:List UInt8,D5 W cs (str (sb l)).cells/\l.length<=maxLen:=dj (by kernel_rfl) h
theorem UG (h:DataW.trod enc Tryz.prog W 0 (λ_=>true) true fuel 9 cs=some x):∃l:List UInt8,D5 W cs [str (sb l)]/\l.length<=maxLen:=dj (by kernel_rfl) h
theorem Mg (h:DataW.trod enc Tryz.prog W 0 (λ_=>true) true fuel 3 cs=some x):∃z:Int,D5 W cs [i64 z]:=by
 obtain⟨z,_,_,h⟩:=xV (by kernel_rfl) h;exact⟨z,h⟩
theorem pY (h:DataW.trod enc Tryz.prog W 0 (λ_=>true) true fuel 68 cs=some x):∃s:Au,D5 W cs s.D.cells/\True:=by
 obtain⟨h1,n,h2⟩:=Sr (l:=[(9,0,1),(66,1,1)]) (m:=2) (by kernel_rfl) (by kernel_rfl) h;obtain⟨y0,k0⟩:=h2 0 _ _ _ rfl;obtain⟨y1,k1⟩:=h2 1 _ _ _ rfl;obtain⟨a0,r0,_⟩:=UG k0;obtain⟨a1,r1,_⟩:=xW k1;exact⟨⟨a0,a1⟩,SJ h1 (KQ (b:=1) (c:=1) r0 r1),trivial⟩
theorem nQ (h:DataW.trod enc Tryz.prog W 0 (λ_=>true) true fuel 51 cs=some x):∃l:List Au,D5 W cs [CY false l]/\(∀a∈l,True)/\l.length<=maxLen:=
 Wf (g:=Au.D) (ok:=λ_=>True) (e:=68) (sz:=2) (by kernel_rfl) (by kernel_rfl) (by decide) (λ_ _ _ h=>pY h) h
theorem pW (h:DataW.trod enc Tryz.prog W 0 (λ_=>true) true fuel 53 cs=some x):∃s:AE,D5 W cs s.D.cells/\s.shs.length<=maxLen:=by
 obtain⟨h1,n,h2⟩:=Sr (l:=[(9,0,1),(3,1,1),(51,2,1)]) (m:=3) (by kernel_rfl) (by kernel_rfl) h;obtain⟨y0,k0⟩:=h2 0 _ _ _ rfl;obtain⟨y1,k1⟩:=h2 1 _ _ _ rfl;obtain⟨y2,k2⟩:=h2 2 _ _ _ rfl;obtain⟨a0,r0,_⟩:=UG k0;obtain⟨a1,r1⟩:=Mg k1;obtain⟨a2,r2,_,hl⟩:=nQ k2;exact⟨⟨a0,a1,a2⟩,SJ h1 (KQ (b:=1) (c:=2) r0 (KQ (b:=1) (c:=1) r1 r2)),hl⟩
theorem nP (h:DataW.trod enc Tryz.prog W 0 (λ_=>true) true fuel 29 cs=some x):∃l:List AE,D5 W cs [AV false l]/\(∀a∈l,a.shs.length<=maxLen)/\l.length<=maxLen:=
 Wf (g:=AE.D) (ok:=λs=>s.shs.length<=maxLen) (e:=53) (sz:=3) (by kernel_rfl) (by kernel_rfl) (by decide) (λ_ _ _ h=>pW h) h
end
end Go.Ide
