/- The layer of own lemmas and contracts, part 12. -/
import Derived.Test.YtmpdcldckjeklacGreatDoorAE11
import Derived.Lib.Join
import Derived.Test.YtmpdcldckjeklacGreatDoorAE7
set_option linter.unusedVariables false
set_option linter.unusedSimpArgs false
namespace Go.Ide
open Go.Proofs Go.RowKit
set_option maxRecDepth 20000
def CV (e:BV):List (List UInt8):=Lib.itoa e.num::Lib.itoa e.day::e.kind::(e.names++e.masses.map Lib.itoa)
def Be (e:BV):List UInt8:=Lib.join (CV e) [32]
def Bn (e:BV):List UInt8:=Be e++32::Lib.itoa (Bs (Be e):Nat)
theorem QL {c:UInt8}(l:List UInt8):∀ {x:List UInt8},x.count c=0->A8 c (x++c::l)=x::A8 c l
 | [],_=>by rw[GP,JH,AM rfl]
 |b::x,h=>by
  have hb:b≠c:=λe=>by subst e;simp at h
  rw[List.count_cons_of_ne hb]at h;rw[Fv,JH,AN hb,QL l h]
theorem QV {c:UInt8}:∀ {r:List (List UInt8)} {x:List UInt8},x.count c=0->(∀y∈r,y.count c=0)->A8 c (x++Lib.joinTail [c] r)=x::r
 | [],x,h,_=>by
  show A8 c (x++[])=_;rw[Dd,Lj c x h]
 |y::r,x,h,hr=>by
  have e:Lib.joinTail [c] (y::r)=c::(y++Lib.joinTail [c] r):=by simp[Lib.joinTail]
  rw[e,QL _ h,QV (hr y (by simp)) λz hz=>hr z (by simp[hz])]
theorem Pz:∀(k u:Nat),u<10^(k+1)->(Lib.decDigits u).length<=k+1
 | 0,u,h=>by
  unfold Lib.decDigits;rw[dif_pos (by simpa using h)];simp
 |k+1,u,h=>by
  unfold Lib.decDigits;split
  ·simp
  ·rw[B9]
   have:=Pz k (u/10) (by
    rw[Nat.pow_succ]at h;omega)
   simp only[CD,Gl];omega
theorem WJ:∀n:Nat,n≠0->(Lib.decDigits n).head? ≠ some 48:=λn=>by
 induction n using Nat.strongRecOn with
 |_ n ih=>
  intro h0;rw[Lib.decDigits];split
  ·rename_i h
   intro he
   have:UInt8.ofNat (48+n)=48:=by simpa using he
   have:=congrArg UInt8.toNat this
   rw[L6 n h]at this;have e48:(48:UInt8).toNat=48:=rfl;omega
  ·rename_i h
   have h1:=ih (n/10) (by omega) (by omega);have hne:=(OY (n/10)).2.2;rw[List.head?_append];cases hd:(Lib.decDigits (n/10)).head? with
   |none=>exact AW (List.head?_eq_none_iff.1 hd) hne
   |some b=>rw[hd]at h1;simpa using h1
theorem Wy (n:Nat):Lib.itoa ((n:Nat):Int)=Lib.decDigits n:=by
 unfold Lib.itoa;rw[BU,H6]
theorem IS {n:Nat}(h:n<1000000000):BH (Lib.itoa ((n:Nat):Int))=true/\Bg (Lib.itoa ((n:Nat):Int))=n/\(Lib.itoa ((n:Nat):Int)).length<=9/\(Lib.itoa ((n:Nat):Int))≠[]/\(Lib.itoa ((n:Nat):Int)).count 32=0:=by
 rw[Wy];obtain⟨h1,h2,h3⟩:=OY n;have hl:=Pz 8 n h;have hl1:1<=(Lib.decDigits n).length:=by
  cases hd:Lib.decDigits n with
  |nil=>exact AW hd h3
  |cons a t=>simp
 have hz:(decide (2<=(Lib.decDigits n).length)&&((Lib.decDigits n).headD 0==48))=false:=by
  by_cases h0:n=0
  ·subst h0
   have:Lib.decDigits 0=[48]:=by unfold Lib.decDigits;rw[dif_pos (by decide)];rfl
   rw[this];rfl
  ·have:=WJ n h0
   cases hd:Lib.decDigits n with
   |nil=>exact AW hd h3
   |cons a t=>
    rw[hd]at this;have ha:a≠48:=by simpa using this
    simp[ha]
 have hI:BH (Lib.decDigits n)=true:=by
  unfold BH;rw[h1,hz,BW hl1,BW (show(Lib.decDigits n).length<=9 by omega)];rfl
 refine⟨hI,by unfold Bg;rw[AM hI,h2],by omega,h3,List.count_eq_zero.2 λhm=>?_⟩
 have:=(IL (CF.1 h1 32 hm)).1
 simp at this
theorem Xm {s:List UInt8}(h:Cp s=false):s≠[]/\s.length<=24/\s.count 32=0:=by
 unfold Cp at h;have h:Dm s=true:=by simpa using h
 unfold Dm at h;simp only[Ag,FE]at h;refine⟨λe=>by rw[e]at h;simp at h,h.2.2,List.count_eq_zero.2 λhm=>?_⟩
 have:=CF.1 h.1 32 hm
 exact AW this (by decide)
theorem V4 (k:List UInt8):match En k with
  |some _=>k≠[]/\k.length<=6/\k.count 32=0
  |none=>True:=by
 refine Ly (P:=λk o=>match o with
  |some _=>k≠[]/\k.length<=6/\k.count 32=0
  |none=>True) k (by decide) (by decide) (by decide) (by decide) (by decide) (by decide) (by decide) (by decide) (by decide) (by decide) (by decide) ?_
 intros;trivial
structure Ev (e:BV) where
 n:Nat
 d:Nat
 a:Nat
 b:Nat
 hn:e.num=(n:Int)
 hd:e.day=(d:Int)
 hn1:1<=n/\n<=1000
 hd1:d<=100000
 hk:En e.kind=some (a,b)
 ha:e.names.length=a
 hb:e.masses.length=b
 hN:∀s∈e.names,Cp s=false
 hM:∀z∈e.masses,0<=z/\z<=999999999
theorem PD {e:BV}(h:Cq e=0):Nonempty (Ev e):=by
 unfold Cq at h;split at h
 ·cases h
 rename_i h1;split at h
 ·cases h
 rename_i h2;split at h
 ·cases h
 rename_i a b hk;split at h
 ·cases h
 rename_i h3;split at h
 ·cases h
 rename_i h4;split at h
 ·cases h
 rename_i h5;exact⟨⟨e.num.toNat,e.day.toNat,a,b,by omega,by omega,by omega,by omega,hk,by omega,by omega,
  λs hs=>by
   cases hb:Cp s with
   |false=>rfl
   |true=>exact AW (List.any_eq_true.2 ⟨s,hs,hb⟩) h4,
  λz hz=>by
   cases hb:Co z with
   |false=>
    unfold Co at hb;simp only[LY,Pl]at hb;omega
   |true=>exact AW (List.any_eq_true.2 ⟨z,hz,hb⟩) h5⟩⟩
theorem V7 {z:Int}(h:0<=z/\z<=999999999):BH (Lib.itoa z)=true/\((Bg (Lib.itoa z):Nat):Int)=z/\(Lib.itoa z).length<=9/\Lib.itoa z≠[]/\(Lib.itoa z).count 32=0:=by
 obtain⟨n,rfl⟩:∃n:Nat,z=(n:Int):=⟨z.toNat,by omega⟩
 obtain⟨h1,h2,h3,h4,h5⟩:=IS (n:=n) (by omega);exact⟨h1,by rw[h2],h3,h4,h5⟩
theorem Ev.words {e:BV}(v:Ev e):∀w∈CV e,w≠[]/\w.length<=24/\w.count 32=0:=λw hw=>by
 unfold CV at hw;have kw:=V4 e.kind;rw[v.hk]at kw;rcases Ah.1 hw with rfl|hw
 ·rw[v.hn]
  obtain⟨h1,h2,h3,h4,h5⟩:=IS (n:=v.n) (by have:=v.hn1;omega);exact⟨h4,by omega,h5⟩
 rcases Ah.1 hw with rfl|hw
 ·rw[v.hd]
  obtain⟨h1,h2,h3,h4,h5⟩:=IS (n:=v.d) (by have:=v.hd1;omega);exact⟨h4,by omega,h5⟩
 rcases Ah.1 hw with rfl|hw
 ·exact⟨kw.1,by omega,kw.2.2⟩
 rcases BR.1 hw with hw|hw
 ·exact Xm (v.hN w hw)
 ·obtain⟨z,hz,rfl⟩:=Bw.1 hw
  obtain⟨h1,h2,h3,h4,h5⟩:=V7 (v.hM z hz);exact⟨h4,by omega,h5⟩
theorem Ev.split {e:BV}(v:Ev e):A8 32 (Bn e)=Lib.itoa e.num::Lib.itoa e.day::e.kind::((e.names++e.masses.map Lib.itoa)++[Lib.itoa (Bs (Be e):Nat)]):=by
 have hw:=v.words;have hz:=(IS (n:=Bs (Be e)) (by have:=Ib (Be e);omega)).2.2.2.2;have he:Bn e=Lib.itoa e.num++Lib.joinTail [32] (Lib.itoa e.day::e.kind::((e.names++e.masses.map Lib.itoa)++[Lib.itoa (Bs (Be e):Nat)])):=by
  generalize hq:Lib.itoa (Bs (Be e):Nat)=z;unfold Bn;rw[hq];unfold Be CV;rw[Lib.join_cons];simp[Lib.joinTail]
 rw[he];refine QV (hw _ (by unfold CV;simp)).2.2 λy hy=>?_
 rcases Ah.1 hy with rfl|hy
 ·exact(hw _ (by unfold CV;simp)).2.2
 rcases Ah.1 hy with rfl|hy
 ·exact(hw _ (by unfold CV;simp)).2.2
 rcases BR.1 hy with hy|hy
 ·exact(hw y (by unfold CV;simp only[Ah];exact .inr (.inr (.inr hy)))).2.2
 ·rw[Eb]at hy;rw[hy];exact hz
theorem Ev.len {e:BV}(v:Ev e):(Bn e).length<=400:=by
 have h:=KZ 32 (Bn e);have hl:=GW 32 (Bn e);have hw:=v.words;have hz:=(IS (n:=Bs (Be e)) (by have:=Ib (Be e);omega)).2.2.1;have ks:=JB e.kind;rw[v.hk]at ks;have hall:∀w∈A8 32 (Bn e),w.length<=24:=by
  rw[v.split];intro w hy;rcases Ah.1 hy with rfl|hy
  ·exact(hw _ (by unfold CV;simp)).2.1
  rcases Ah.1 hy with rfl|hy
  ·exact(hw _ (by unfold CV;simp)).2.1
  rcases Ah.1 hy with rfl|hy
  ·exact(hw _ (by unfold CV;simp)).2.1
  rcases BR.1 hy with hy|hy
  ·exact(hw w (by unfold CV;simp only[Ah];exact .inr (.inr (.inr hy)))).2.1
  ·rw[Eb]at hy;rw[hy];omega
 have hs:∀l:List (List UInt8),(∀w∈l,w.length<=24)->(l.map List.length).sum<=24*l.length:=λl=>by
  induction l with
  |nil=>intro _;simp
  |cons a l ih=>
   intro hh;have h1:=hh a (by simp);have h2:=ih λw hw=>hh w (by simp[hw])
   rw[BY,List.sum_cons,CD];omega
 have h3:=hs _ hall;have h4:(A8 32 (Bn e)).length<=10:=by
  rw[v.split];have e1:=v.ha;have e2:=v.hb;simp only[CD,B9,BP,Gl];omega
 omega
abbrev Rf:Dr:=[(3,[0,1,2,3,4,5,6,7,8,9],[10,11])]
open Go.Proofs Go.RowKit
set_option maxRecDepth 20000
set_option maxHeartbeats 2000000
theorem XR {O:Nat->Prop}{w:World}{d1 d2:D}{vs:Array Value}(hn:vs.size=2)(h:∀(i:Nat) (x:D),[d1,d2][i]?=some x->AG nol O w x (vs.getD i undef)):∃u v,vs = #[u,v]/\AG nol O w d1 u/\AG nol O w d2 v:=by
 match vs,hn with
 |⟨[u,v]⟩,_=>exact⟨u,v,rfl,h 0 _ rfl,h 1 _ rfl⟩
theorem XB {O:Nat->Prop}{w:World}{nn:Bool}{es:List D}{l:List (List UInt8)}{v:Value}(he:l.map AH=es)(h0:l≠[])(h:AG nol O w (.sl nn 1 es) v):
  ∃b off cap,v=.slice (some ⟨b,off,none⟩) l.length cap/\l.length<=cap/\b<w.heap.size/\∀(j:Nat) (x:List UInt8),l[j]?=some x->w.cell? ⟨b,off+j,none⟩=some (.string (sb x)):=by
 cases h with
 |nil=>exact AW (List.map_eq_nil_iff.1 he) h0
 |emp a=>exact AW (List.map_eq_nil_iff.1 he) h0
 |sl f hl hc hO hb hz hcell ho h=>
  subst he;rw[BP]at hl;subst hl;refine⟨_,_,_,rfl,hc,hb,λj x hj=>?_⟩;have hjl:=(Ay.1 hj).1;rw[hcell j (by omega)];have hr:=h j (AH x) 0 (AH x) (by rw[Bf,hj];rfl) rfl;rw[show j*1+0=j by omega]at hr;generalize f j=y at hr;cases hr;rfl
theorem Xi (l:List (List UInt8))(sep:List UInt8)(nn:Bool)(h0:l≠[])(hl:l.length<=100000)(hj:(Lib.join l sep).length<=100000000):Aa C0 107 [.sl nn 1 (l.map AH),AH sep] (AH (Lib.join l sep)):=by
 refine⟨⟨_,_,Tryz.func107,rfl,by kernel_rfl⟩,λY w vs hG hnG hX hvs hr=>?_⟩;obtain⟨u,v,rfl,r1,r2⟩:=XR hvs hr;obtain⟨b,off,cap,rfl,h1,h2,h3⟩:=XB rfl h0 r1;cases r2;have hm:(l.map sb).map (λx=>x.data.toList)=l:=by
  rw[List.map_map];exact(LQ λa _=>rfl).trans (List.map_id' _)
 have key:=Tryz.strings_Join b off cap (l.map sb) (sb sep) w (λj x hx=>by
  rw[Bf]at hx;cases hx':l[j]? with
  |none=>rw[hx']at hx;cases hx
  |some y=>rw[hx']at hx;cases hx;exact h3 j y hx') h2 (by rw[BP];omega) (by rw[BP];exact h1)
  (by rw[hm];show(Lib.join l sep).length<=_;omega)
 rw[hm,BP]at key;refine key.mono ?_;rintro e w' ⟨rfl,hb⟩;exact⟨_,_,rfl,hb,rfl,.prim _⟩
theorem dZ (c:UInt8)(l:List UInt8)(hl:l.length<=1000000000):Aa C0 51 [str (sb l),str (sb [c])] (.tup [str (sb (l.take (Ar c l))),str (sb (l.drop (Ar c l+1))),Ai (decide (Ar c l<l.length))]):=by
 refine Ax.walk w1 TP rfl λF=>?_
 have c1:=Sp c l;unfold E8 at c1;have hsz:=Bl l;have hle:=cu c l;have hs1:((sb [c]).size:Int)=1:=rfl
 by_cases h:Ar c l<l.length
 ·rw[AM h]at c1
  have e1:decide (((Ar c l:Nat):Int)>=0)=true:=Av;have e2:(sb l).extract 0 (Ar c l)=sb (l.take (Ar c l)):=by rw[GD];rfl
  have w3:IntKind.i64.wrap (((Ar c l:Nat):Int)+((sb [c]).size:Int))=((Ar c l+1:Nat):Int):=by
   show IntKind.i64.wrap (((Ar c l:Nat):Int)+1)=_;rw[wI];omega
  have e3:(sb l).extract (Ar c l+1) (sb l).size=sb (l.drop (Ar c l+1)):=by
   rw[GD,hsz,C3 (Ad _)]
  have i1:((Ar c l:Nat):Int)<=((sb l).size:Int):=by rw[hsz];omega
  have i2:((Ar c l+1:Nat):Int)<=((sb l).size:Int):=by rw[hsz];omega
  rw[BW h];refine AJ Rf (CW e1 w3 kN e2 e3) c1 AA AA AA AA AA ?_;exact Ac rfl AB.out
 ·rw[AN h]at c1
  have hk:Ar c l=l.length:=by omega
  have e1:decide (((-1:Int))>=0)=false:=rfl;rw[B4 h,hk,C3 (Ad _),Pm (by omega)];refine AJ Rf e1 c1 AA AA AA AA AA ?_;exact Ac rfl AB.out
theorem gG (c:UInt8)(l:List UInt8)(hl:l.length<=1000000000):Aa C0 24 [str (sb l),str (sb [c])] (.tup [str (sb (l.take (Ar c l))),str (sb (l.drop (Ar c l+1))),Ai (decide (Ar c l<l.length))]):=by
 refine Ax.walk w1 S9 rfl λF=>?_
 have c1:=dZ c l hl;generalize sb l=s at*;generalize sb (l.take (Ar c l))=t at*;generalize sb (l.drop (Ar c l+1))=u at*;generalize decide (Ar c l<l.length)=b at*;refine AJ AU kB c1 AA AA AA AA AA ?_;exact Ac rfl AB.out
section
variable {C:AZ} {X:EV} {F B:AI} {rd:Option Nat} {ops:Array Oper} {s:St} {Q:Exit->AI->St->Prop}
theorem A0.lit {tt:Nat->Option AL}(htt:A7 C.P tt){H:Hp}{g:Nat}{env:Ab}{o:Oper}{t len e esz eby:Nat}{ez:Value}{ps:Array (Nat×Operand)}{i ie:AL}{es:List D}(k:Nat)(hw:Am ops env o=some true)
  (ho:o.op=.buildSlice t (len+1) ps) (hi:tt t=some i) (hk:i.ti=.slice e esz eby ez) (hie:tt e=some ie) (hes:EO (AV env) 0 ps.toList=some es) (p1:Hb ie.ag esz es) (p2:es.length=len+1) (p3:(len+1)*esz<=16777216) (p4:1<=esz) (b:Bool):
  A0 C F ops H g env o (Js b k g esz len) (some ⟨k,g,e,esz,es⟩):=by
 refine⟨λe h=>by cases h;rfl,λHe ρ a w m hsub fr hne hr=>.inr ⟨Dx hr hw,.inl ?_⟩⟩;obtain⟨g',h1,h2⟩:=EA hr;have hes':EO g' 0 ps.toList=some es:=by
  rw[<-Nv 0 ps.toList λx hx=>h1 x (by rw[ho];simpa[Op.operands]using hx)];exact hes
 obtain⟨v,ρ',w',r1,r2⟩:=Sw (k:=k) htt m fr hne h2 ho hi hk hie hes' p1 p2 p3 p4;exact⟨v,ρ',w',r1,r2.mem,r2.ext,r2.far,RD r2.rep⟩
theorem Eg.app {H:Hp}{n:Nat}{l1 l2:List Nat}{e1 e2 e3:Ab}{N1 N2 N3:Hp}(h:Eg C F ops H n l1 e1 N1 e2 N2)(k:Eg C F ops H n l2 e2 N2 e3 N3):Eg C F ops H n (l1++l2) e1 N1 e3 N3:=by
 induction h with
 |nil=>exact k
 |cons ho hs _ ih=>exact .cons ho hs (ih k)
structure Tb (X:EV)(env:Ab)(ie:AL)(esz len:Nat)(ps:Array (Nat×Operand))(es:List D):Prop where
 hes:EO (AV env) 0 ps.toList=some es
 p1:Hb ie.ag esz es
 p2:es.length=len+1
 p3:(len+1)*esz<=16777216
 p4:1<=esz
theorem iC {i:Nat}(hX:Cb C X)(kb:Nat)(pre suf l1 l2:List Nat)(il:Nat)(b:Bool){o:Oper}{t len e esz eby:Nat}{ez:Value}{ps:Array (Nat×Operand)}{it ie:AL}
  (hc:(FX ops pre suf&&DM ops.toList)=true) (hpre:pre=l1++il::l2) (ho:CS ops.toList il=some o) (hg:o.guard=none) (hop:o.op=.buildSlice t (len+1) ps) (hi:X.tt t=some it) (hk:it.ti=.slice e esz eby ez) (hie:X.tt e=some ie)
  (h:C2 C X kb ops s.H s.n l1 s.env [] True λacc env N=>acc/\∃es,Tb X env ie esz len ps es /\
   C2 C X kb ops s.H s.n l2 (Ak env o.dst (Js b (kb+il) (s.n+il) esz len)) (Bk (some ⟨kb+il,s.n+il,e,esz,es⟩) N) True λacc env N=>
    CJ C X kb ops suf ⟨env,N++s.H,s.n+Bc ops.toList⟩ acc λacc s=>acc/\Q .normal F s):AO C B rd F (.region i ops true) s Q:=by
 have hsz:ops.size=Bc ops.toList:=by rw[Kq,GO]
 rw[<-hsz]at h;simp only[Ag]at hc;obtain⟨_,_,env1,N1,h1,_,es,hl,h2⟩:=IK (F:=F) hX (λacc env N h=>h.1) h;obtain⟨_,_,env,N,h3,h4⟩:=IK (F:=F) hX (λacc env N h=>(Em (F:=F) (K':=Q .normal F) hX (λacc s h=>h) h).1) h2;have hd:Eg C F ops s.H s.n pre s.env [] env N:=by
  rw[hpre];exact h1.app (.cons (IT ho) (A0.lit hX.tt (kb+il) (by unfold Am;rw[hg]) hop hi hk hie hl.hes hl.p1 hl.p2 hl.p3 hl.p4 b) h3)
 refine⟨λhB hd' ρ a w hs=>?_⟩;have hd':=G3 hB hd';refine PM hX.mixed hc.1 hd (λhlt ρ a w hs=>?_) hd' ρ a w hs;have h5:=(Em (F:=F) (K':=Q .normal F) hX (λacc s h=>h) h4).2.run hlt hd' hs
 have:=EP (rd:=rd) (Q:=DA C B Q) (l2:=[]) (λ_ _ _ h=>IQ hB (λ_ h=>h) h) (F8 hc.2) _ a w h5
 rwa [Dd]at this
theorem iD {i:Nat}(hX:Cb C X)(kb:Nat)(pre l2:List Nat)(il:Nat)(b:Bool){o:Oper}{t len e esz eby:Nat}{ez:Value}{ps:Array (Nat×Operand)}{it ie:AL}
  (hc:(FX ops pre (il::l2)&&DM ops.toList)=true) (ho:CS ops.toList il=some o) (hg:o.guard=none) (hop:o.op=.buildSlice t (len+1) ps) (hi:X.tt t=some it) (hk:it.ti=.slice e esz eby ez) (hie:X.tt e=some ie)
  (h:C2 C X kb ops s.H s.n pre s.env [] True λacc env N=>acc/\∃es,Tb X env ie esz len ps es /\
   CJ C X kb ops l2 ⟨Ak env o.dst (Js b (kb+il) (s.n+Bc ops.toList) esz len),⟨kb+il,s.n+Bc ops.toList,e,esz,es⟩::(N++s.H),s.n+Bc ops.toList+1⟩ True λacc s=>acc/\Q .normal F s):AO C B rd F (.region i ops true) s Q:=by
 have hsz:ops.size=Bc ops.toList:=by rw[Kq,GO]
 rw[<-hsz]at h;simp only[Ag]at hc;obtain⟨_,_,env,N,h1,_,es,hl,h2⟩:=IK (F:=F) hX (λacc env N h=>h.1) h;have h3:=AR.lit (ops:=ops) (o:=o) (s:=⟨env,N++s.H,s.n+ops.size⟩) hX.tt (kb+il) (by unfold Am;rw[hg]) hop hi hk hie hl.hes hl.p1 hl.p2 hl.p3 hl.p4 b (Em (F:=F) (K':=Q .normal F) hX (λacc s h=>h) h2).2;refine⟨λhB hd' ρ a w hs=>?_⟩;have hd':=G3 hB hd';refine PM hX.mixed hc.1 h1 (λhlt ρ a w hs=>?_) hd' ρ a w hs;have h4:AR C F ops ((il::l2).map λj=>ops.getD j default) ⟨env,N++s.H,s.n+ops.size⟩ (Q .normal F):=by
  rw[BY,R3 ho];exact h3
 have h5:=h4.run hlt hd' hs
 have:=EP (rd:=rd) (Q:=DA C B Q) (l2:=[]) (λ_ _ _ h=>IQ hB (λ_ h=>h) h) (F8 hc.2) _ a w h5
 rwa [Dd]at this
end
end Go.Ide
