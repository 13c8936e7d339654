/- The layer of own lemmas and contracts, part 12. -/
import Derived.Test.YtmpdcldckjeklabGreatDoorAD11
import Derived.Lib.Join
import Derived.Test.YtmpdcldckjeklabGreatDoorAD7
set_option linter.unusedVariables false
set_option linter.unusedSimpArgs false
namespace Go.Ide
open Go.Proofs Go.RowKit
set_option maxRecDepth 20000
def B4 (e:Bs):List (List UInt8):=Lib.itoa e.num::Lib.itoa e.day::e.kind::(e.names++e.masses.map Lib.itoa)
def BI (e:Bs):List UInt8:=Lib.join (B4 e) [32]
def CE (e:Bs):List UInt8:=BI e++32::Lib.itoa (Bb (BI e):Nat)
theorem Pw {c:UInt8}(l:List UInt8):∀ {x:List UInt8},x.count c=0->BO c (x++c::l)=x::BO c l
 | [],_=>by rw[GN,LV,AQ rfl]
 |b::x,h=>by
  have hb:b≠c:=λe=>by subst e;simp at h
  rw[List.count_cons_of_ne hb]at h;rw[Ft,LV,AP hb,Pw l h]
theorem Pq {c:UInt8}:∀ {r:List (List UInt8)} {x:List UInt8},x.count c=0->(∀y∈r,y.count c=0)->BO c (x++Lib.joinTail [c] r)=x::r
 | [],x,h,_=>by
  show BO c (x++[])=_;rw[Ds,NU c x h]
 |y::r,x,h,hr=>by
  have e:Lib.joinTail [c] (y::r)=c::(y++Lib.joinTail [c] r):=by simp[Lib.joinTail]
  rw[e,Pw _ h,Pq (hr y (by simp)) λz hz=>hr z (by simp[hz])]
theorem PS:∀(k u:Nat),u<10^(k+1)->(Lib.decDigits u).length<=k+1
 | 0,u,h=>by
  unfold Lib.decDigits;rw[dif_pos (by simpa using h)];simp
 |k+1,u,h=>by
  unfold Lib.decDigits;split
  ·simp
  ·rw[Co]
   have:=PS k (u/10) (by
    rw[Nat.pow_succ]at h;omega)
   simp only[CP,GJ];omega
theorem VW:∀n:Nat,n≠0->(Lib.decDigits n).head? ≠ some 48:=λn=>by
 induction n using Nat.strongRecOn with
 |_ n ih=>
  intro h0;rw[Lib.decDigits];split
  ·rename_i h
   intro he
   have:UInt8.ofNat (48+n)=48:=by simpa using he
   have:=congrArg UInt8.toNat this
   rw[Nu n h]at this;have e48:(48:UInt8).toNat=48:=rfl;omega
  ·rename_i h
   have h1:=ih (n/10) (by omega) (by omega);have hne:=(Q1 (n/10)).2.2;rw[List.head?_append];cases hd:(Lib.decDigits (n/10)).head? with
   |none=>exact AY (List.head?_eq_none_iff.1 hd) hne
   |some b=>rw[hd]at h1;simpa using h1
theorem WA (n:Nat):Lib.itoa ((n:Nat):Int)=Lib.decDigits n:=by
 unfold Lib.itoa;rw[Ba,IW]
theorem F6 {n:Nat}(h:n<1000000000):B2 (Lib.itoa ((n:Nat):Int))=true/\Cg (Lib.itoa ((n:Nat):Int))=n/\(Lib.itoa ((n:Nat):Int)).length<=9/\(Lib.itoa ((n:Nat):Int))≠[]/\(Lib.itoa ((n:Nat):Int)).count 32=0:=by
 rw[WA];obtain⟨h1,h2,h3⟩:=Q1 n;have hl:=PS 8 n h;have hl1:1<=(Lib.decDigits n).length:=by
  cases hd:Lib.decDigits n with
  |nil=>exact AY hd h3
  |cons a t=>simp
 have hz:(decide (2<=(Lib.decDigits n).length)&&((Lib.decDigits n).headD 0==48))=false:=by
  by_cases h0:n=0
  ·subst h0
   have:Lib.decDigits 0=[48]:=by unfold Lib.decDigits;rw[dif_pos (by decide)];rfl
   rw[this];rfl
  ·have:=VW n h0
   cases hd:Lib.decDigits n with
   |nil=>exact AY hd h3
   |cons a t=>
    rw[hd]at this;have ha:a≠48:=by simpa using this
    simp[ha]
 have hI:B2 (Lib.decDigits n)=true:=by
  unfold B2;rw[h1,hz,BX hl1,BX (show(Lib.decDigits n).length<=9 by omega)];rfl
 refine⟨hI,by unfold Cg;rw[AQ hI,h2],by omega,h3,List.count_eq_zero.2 λhm=>?_⟩
 have:=(Pi (CG.1 h1 32 hm)).1
 simp at this
theorem Wv {s:List UInt8}(h:Cf s=false):s≠[]/\s.length<=24/\s.count 32=0:=by
 unfold Cf at h;have h:DY s=true:=by simpa using h
 unfold DY at h;simp only[Aj,FQ]at h;refine⟨λe=>by rw[e]at h;simp at h,h.2.2,List.count_eq_zero.2 λhm=>?_⟩
 have:=CG.1 h.1 32 hm
 exact AY this (by decide)
theorem VK (k:List UInt8):match FM k with
  |some _=>k≠[]/\k.length<=6/\k.count 32=0
  |none=>True:=by
 refine LK (P:=λk o=>match o with
  |some _=>k≠[]/\k.length<=6/\k.count 32=0
  |none=>True) k (by decide) (by decide) (by decide) (by decide) (by decide) (by decide) (by decide) (by decide) (by decide) (by decide) (by decide) ?_
 intros;trivial
structure D7 (e:Bs) where
 n:Nat
 d:Nat
 a:Nat
 b:Nat
 hn:e.num=(n:Int)
 hd:e.day=(d:Int)
 hn1:1<=n/\n<=1000
 hd1:d<=100000
 hk:FM e.kind=some (a,b)
 ha:e.names.length=a
 hb:e.masses.length=b
 hN:∀s∈e.names,Cf s=false
 hM:∀z∈e.masses,0<=z/\z<=999999999
theorem Ri {e:Bs}(h:Df e=0):Nonempty (D7 e):=by
 unfold Df at h;split at h
 ·cases h
 rename_i h1;split at h
 ·cases h
 rename_i h2;split at h
 ·cases h
 rename_i a b hk;split at h
 ·cases h
 rename_i h3;split at h
 ·cases h
 rename_i h4;split at h
 ·cases h
 rename_i h5;exact⟨⟨e.num.toNat,e.day.toNat,a,b,by omega,by omega,by omega,by omega,hk,by omega,by omega,
  λs hs=>by
   cases hb:Cf s with
   |false=>rfl
   |true=>exact AY (List.any_eq_true.2 ⟨s,hs,hb⟩) h4,
  λz hz=>by
   cases hb:Ce z with
   |false=>
    unfold Ce at hb;simp only[K8,PE]at hb;omega
   |true=>exact AY (List.any_eq_true.2 ⟨z,hz,hb⟩) h5⟩⟩
theorem Nl {z:Int}(h:0<=z/\z<=999999999):B2 (Lib.itoa z)=true/\((Cg (Lib.itoa z):Nat):Int)=z/\(Lib.itoa z).length<=9/\Lib.itoa z≠[]/\(Lib.itoa z).count 32=0:=by
 obtain⟨n,rfl⟩:∃n:Nat,z=(n:Int):=⟨z.toNat,by omega⟩
 obtain⟨h1,h2,h3,h4,h5⟩:=F6 (n:=n) (by omega);exact⟨h1,by rw[h2],h3,h4,h5⟩
theorem D7.words {e:Bs}(v:D7 e):∀w∈B4 e,w≠[]/\w.length<=24/\w.count 32=0:=λw hw=>by
 unfold B4 at hw;have kw:=VK e.kind;rw[v.hk]at kw;rcases Ae.1 hw with rfl|hw
 ·rw[v.hn]
  obtain⟨h1,h2,h3,h4,h5⟩:=F6 (n:=v.n) (by have:=v.hn1;omega);exact⟨h4,by omega,h5⟩
 rcases Ae.1 hw with rfl|hw
 ·rw[v.hd]
  obtain⟨h1,h2,h3,h4,h5⟩:=F6 (n:=v.d) (by have:=v.hd1;omega);exact⟨h4,by omega,h5⟩
 rcases Ae.1 hw with rfl|hw
 ·exact⟨kw.1,by omega,kw.2.2⟩
 rcases BL.1 hw with hw|hw
 ·exact Wv (v.hN w hw)
 ·obtain⟨z,hz,rfl⟩:=Bj.1 hw
  obtain⟨h1,h2,h3,h4,h5⟩:=Nl (v.hM z hz);exact⟨h4,by omega,h5⟩
theorem D7.split {e:Bs}(v:D7 e):BO 32 (CE e)=Lib.itoa e.num::Lib.itoa e.day::e.kind::((e.names++e.masses.map Lib.itoa)++[Lib.itoa (Bb (BI e):Nat)]):=by
 have hw:=v.words;have hz:=(F6 (n:=Bb (BI e)) (by have:=HD (BI e);omega)).2.2.2.2;have he:CE e=Lib.itoa e.num++Lib.joinTail [32] (Lib.itoa e.day::e.kind::((e.names++e.masses.map Lib.itoa)++[Lib.itoa (Bb (BI e):Nat)])):=by
  generalize hq:Lib.itoa (Bb (BI e):Nat)=z;unfold CE;rw[hq];unfold BI B4;rw[Lib.join_cons];simp[Lib.joinTail]
 rw[he];refine Pq (hw _ (by unfold B4;simp)).2.2 λy hy=>?_
 rcases Ae.1 hy with rfl|hy
 ·exact(hw _ (by unfold B4;simp)).2.2
 rcases Ae.1 hy with rfl|hy
 ·exact(hw _ (by unfold B4;simp)).2.2
 rcases BL.1 hy with hy|hy
 ·exact(hw y (by unfold B4;simp only[Ae];exact .inr (.inr (.inr hy)))).2.2
 ·rw[EK]at hy;rw[hy];exact hz
theorem D7.len {e:Bs}(v:D7 e):(CE e).length<=400:=by
 have h:=LO 32 (CE e);have hl:=LN 32 (CE e);have hw:=v.words;have hz:=(F6 (n:=Bb (BI e)) (by have:=HD (BI e);omega)).2.2.1;have ks:=Ih e.kind;rw[v.hk]at ks;have hall:∀w∈BO 32 (CE e),w.length<=24:=by
  rw[v.split];intro w hy;rcases Ae.1 hy with rfl|hy
  ·exact(hw _ (by unfold B4;simp)).2.1
  rcases Ae.1 hy with rfl|hy
  ·exact(hw _ (by unfold B4;simp)).2.1
  rcases Ae.1 hy with rfl|hy
  ·exact(hw _ (by unfold B4;simp)).2.1
  rcases BL.1 hy with hy|hy
  ·exact(hw w (by unfold B4;simp only[Ae];exact .inr (.inr (.inr hy)))).2.1
  ·rw[EK]at hy;rw[hy];omega
 have hs:∀l:List (List UInt8),(∀w∈l,w.length<=24)->(l.map List.length).sum<=24*l.length:=λl=>by
  induction l with
  |nil=>intro _;simp
  |cons a l ih=>
   intro hh;have h1:=hh a (by simp);have h2:=ih λw hw=>hh w (by simp[hw])
   rw[BP,List.sum_cons,CP];omega
 have h3:=hs _ hall;have h4:(BO 32 (CE e)).length<=10:=by
  rw[v.split];have e1:=v.ha;have e2:=v.hb;simp only[CP,Co,Bi,GJ];omega
 omega
theorem D7.back {e:Bs}(v:D7 e)(hc:Df e=0):Kw (CE e)=(e,0):=by
 have hl:=v.len;have hsp:=v.split;have ks:=Ih e.kind;rw[v.hk]at ks;obtain⟨z1,z2,z3,z4,z5⟩:=F6 (n:=Bb (BI e)) (by have:=HD (BI e);omega);obtain⟨n1,n2,-⟩:=F6 (n:=v.n) (by have:=v.hn1;omega);obtain⟨d1,d2,-⟩:=F6 (n:=v.d) (by have:=v.hd1;omega);have htk:(CE e).take ((CE e).length-(Lib.itoa (Bb (BI e):Nat)).length-1)=BI e:=by
  unfold CE;rw[Co,CP,show(BI e).length+((Lib.itoa (Bb (BI e):Nat)).length+1)-(Lib.itoa (Bb (BI e):Nat)).length-1=(BI e).length by omega];exact List.take_left' rfl
 have hne:∀w∈BO 32 (CE e),w≠[]:=by
  rw[hsp];intro w hy;have hw:=v.words;rcases Ae.1 hy with rfl|hy
  ·exact(hw _ (by unfold B4;simp)).1
  rcases Ae.1 hy with rfl|hy
  ·exact(hw _ (by unfold B4;simp)).1
  rcases Ae.1 hy with rfl|hy
  ·exact(hw _ (by unfold B4;simp)).1
  rcases BL.1 hy with hy|hy
  ·exact(hw w (by unfold B4;simp only[Ae];exact .inr (.inr (.inr hy)))).1
  ·rw[EK]at hy;rw[hy];exact z4
 generalize hq:Lib.itoa (Bb (BI e):Nat)=z at*;generalize hms:e.names++e.masses.map Lib.itoa=ms at*;have hml:ms.length=v.a+v.b:=by rw[<-hms,Co,Bi,v.ha,v.hb]
 have hta:ms.take v.a=e.names:=by rw[<-hms];exact List.take_left' v.ha
 have hda:ms.drop v.a=e.masses.map Lib.itoa:=by rw[<-hms];exact List.drop_left' v.ha
 have hai:(ms.drop v.a).all B2=true:=by
  rw[hda,CG];intro w hw;obtain⟨m,hm,rfl⟩:=Bj.1 hw;exact(Nl (v.hM m hm)).1
 have hmi:((ms.drop v.a).map λw=>((Cg w:Nat):Int))=e.masses:=by
  rw[hda,List.map_map]
  have:∀m∈e.masses,((λw=>((Cg w:Nat):Int)) ∘ Lib.itoa) m=m:=λm hm=>(Nl (v.hM m hm)).2.1
  exact(JZ this).trans (List.map_id' _)
 have hpf:Gs e.kind ms=some (e.names,e.masses):=by
  unfold Gs;rw[v.hk];dsimp only;rw[AQ ⟨hml,hai⟩,hta,hmi]
 have hpe:Gr e.kind ms=⟨0,0,e.kind,e.names,e.masses⟩:=by unfold Gr;rw[hpf]
 have hN:(Lib.itoa e.num::Lib.itoa e.day::e.kind::(ms++[z])).length=ms.length+4:=by simp
 have hzz:(Lib.itoa e.num::Lib.itoa e.day::e.kind::(ms++[z])).getD ((Lib.itoa e.num::Lib.itoa e.day::e.kind::(ms++[z])).length-1) []=z:=by
  rw[hN];simp
 have hmid:((Lib.itoa e.num::Lib.itoa e.day::e.kind::(ms++[z])).take ((Lib.itoa e.num::Lib.itoa e.day::e.kind::(ms++[z])).length-1)).drop 3=ms:=by
  rw[hN];simp
 have g0:(Lib.itoa e.num::Lib.itoa e.day::e.kind::(ms++[z])).getD 0 []=Lib.itoa e.num:=rfl;have g1:(Lib.itoa e.num::Lib.itoa e.day::e.kind::(ms++[z])).getD 1 []=Lib.itoa e.day:=rfl;have g2:(Lib.itoa e.num::Lib.itoa e.day::e.kind::(ms++[z])).getD 2 []=e.kind:=rfl;have hev:Kq (BO 32 (CE e))=e:=by
  unfold Kq;rw[hsp,hmid,g0,g1,g2,hpe,v.hn,v.hd,n2,d2,<-v.hn,<-v.hd]
 have hct:(BO 32 (CE e)).contains []=false:=by
  rw[Bool.eq_false_iff];intro h;rw[List.contains_iff_mem]at h;exact hne _ h rfl
 unfold Kw;rw[Ba,hct,hev,hc];rw[hsp,hzz,hmid,g0,g1,g2,htk,hq,hpf,v.hn,v.hd,n1,d1,z1];rw[AP (by simp),AP (by simp),AP (by simp),AQ ⟨rfl,rfl,rfl,rfl⟩]
set_option maxHeartbeats 2000000
theorem WW {O:Nat->Prop}{w:World}{d1 d2:D}{vs:Array Value}(hn:vs.size=2)(h:∀(i:Nat) (x:D),[d1,d2][i]?=some x->AF nol O w x (vs.getD i undef)):∃u v,vs = #[u,v]/\AF nol O w d1 u/\AF nol O w d2 v:=by
 match vs,hn with
 |⟨[u,v]⟩,_=>exact⟨u,v,rfl,h 0 _ rfl,h 1 _ rfl⟩
theorem Vs {O:Nat->Prop}{w:World}{nn:Bool}{es:List D}{l:List (List UInt8)}{v:Value}(he:l.map AR=es)(h0:l≠[])(h:AF nol O w (.sl nn 1 es) v):
  ∃b off cap,v=.slice (some ⟨b,off,none⟩) l.length cap/\l.length<=cap/\b<w.heap.size/\∀(j:Nat) (x:List UInt8),l[j]?=some x->w.cell? ⟨b,off+j,none⟩=some (.string (sb x)):=by
 cases h with
 |nil=>exact AY (List.map_eq_nil_iff.1 he) h0
 |emp a=>exact AY (List.map_eq_nil_iff.1 he) h0
 |sl f hl hc hO hb hz hcell ho h=>
  subst he;rw[Bi]at hl;subst hl;refine⟨_,_,_,rfl,hc,hb,λj x hj=>?_⟩;have hjl:=(As.1 hj).1;rw[hcell j (by omega)];have hr:=h j (AR x) 0 (AR x) (by rw[BW,hj];rfl) rfl;rw[show j*1+0=j by omega]at hr;generalize f j=y at hr;cases hr;rfl
theorem Wq (l:List (List UInt8))(sep:List UInt8)(nn:Bool)(h0:l≠[])(hl:l.length<=100000)(hj:(Lib.join l sep).length<=100000000):Aa C0 58 [.sl nn 1 (l.map AR),AR sep] (AR (Lib.join l sep)):=by
 refine⟨⟨_,_,Tryz.func58,rfl,by kernel_rfl⟩,λY w vs hG hnG hX hvs hr=>?_⟩;obtain⟨u,v,rfl,r1,r2⟩:=WW hvs hr;obtain⟨b,off,cap,rfl,h1,h2,h3⟩:=Vs rfl h0 r1;cases r2;have hm:(l.map sb).map (λx=>x.data.toList)=l:=by
  rw[List.map_map];exact(JZ λa _=>rfl).trans (List.map_id' _)
 have key:=Tryz.strings_Join b off cap (l.map sb) (sb sep) w (λj x hx=>by
  rw[BW]at hx;cases hx':l[j]? with
  |none=>rw[hx']at hx;cases hx
  |some y=>rw[hx']at hx;cases hx;exact h3 j y hx') h2 (by rw[Bi];omega) (by rw[Bi];exact h1)
  (by rw[hm];show(Lib.join l sep).length<=_;omega)
 rw[hm,Bi]at key;refine key.mono ?_;rintro e w' ⟨rfl,hb⟩;exact⟨_,_,rfl,hb,rfl,.prim _⟩
section
variable {C:AX} {X:EV} {F B:AH} {rd:Option Nat} {ops:Array Oper} {s:St} {Q:Exit->AH->St->Prop}
theorem Av.lit {tt:Nat->Option AJ}(htt:Aw C.P tt){H:Hp}{g:Nat}{env:AZ}{o:Oper}{t len e esz eby:Nat}{ez:Value}{ps:Array (Nat×Operand)}{i ie:AJ}{es:List D}(k:Nat)(hw:Ai ops env o=some true)
  (ho:o.op=.buildSlice t (len+1) ps) (hi:tt t=some i) (hk:i.ti=.slice e esz eby ez) (hie:tt e=some ie) (hes:D9 (AU env) 0 ps.toList=some es) (p1:HE ie.ag esz es) (p2:es.length=len+1) (p3:(len+1)*esz<=16777216) (p4:1<=esz) (b:Bool):
  Av C F ops H g env o (JP b k g esz len) (some ⟨k,g,e,esz,es⟩):=by
 refine⟨λe h=>by cases h;rfl,λHe ρ a w m hsub fr hne hr=>.inr ⟨Dh hr hw,.inl ?_⟩⟩;obtain⟨g',h1,h2⟩:=Dt hr;have hes':D9 g' 0 ps.toList=some es:=by
  rw[<-NV 0 ps.toList λx hx=>h1 x (by rw[ho];simpa[Op.operands]using hx)];exact hes
 obtain⟨v,ρ',w',r1,r2⟩:=R5 (k:=k) htt m fr hne h2 ho hi hk hie hes' p1 p2 p3 p4;exact⟨v,ρ',w',r1,r2.mem,r2.ext,r2.far,Qf r2.rep⟩
theorem EO.app {H:Hp}{n:Nat}{l1 l2:List Nat}{e1 e2 e3:AZ}{N1 N2 N3:Hp}(h:EO C F ops H n l1 e1 N1 e2 N2)(k:EO C F ops H n l2 e2 N2 e3 N3):EO C F ops H n (l1++l2) e1 N1 e3 N3:=by
 induction h with
 |nil=>exact k
 |cons ho hs _ ih=>exact .cons ho hs (ih k)
structure Sl (X:EV)(env:AZ)(ie:AJ)(esz len:Nat)(ps:Array (Nat×Operand))(es:List D):Prop where
 hes:D9 (AU env) 0 ps.toList=some es
 p1:HE ie.ag esz es
 p2:es.length=len+1
 p3:(len+1)*esz<=16777216
 p4:1<=esz
theorem fU {i:Nat}(hX:CR C X)(kb:Nat)(pre suf l1 l2:List Nat)(il:Nat)(b:Bool){o:Oper}{t len e esz eby:Nat}{ez:Value}{ps:Array (Nat×Operand)}{it ie:AJ}
  (hc:(E8 ops pre suf&&DB ops.toList)=true) (hpre:pre=l1++il::l2) (ho:CL ops.toList il=some o) (hg:o.guard=none) (hop:o.op=.buildSlice t (len+1) ps) (hi:X.tt t=some it) (hk:it.ti=.slice e esz eby ez) (hie:X.tt e=some ie)
  (h:Ct C X kb ops s.H s.n l1 s.env [] True λacc env N=>acc/\∃es,Sl X env ie esz len ps es /\
   Ct C X kb ops s.H s.n l2 (Ag env o.dst (JP b (kb+il) (s.n+il) esz len)) (BZ (some ⟨kb+il,s.n+il,e,esz,es⟩) N) True λacc env N=>
    CA C X kb ops suf ⟨env,N++s.H,s.n+BT ops.toList⟩ acc λacc s=>acc/\Q .normal F s):AN C B rd F (.region i ops true) s Q:=by
 have hsz:ops.size=BT ops.toList:=by rw[KR,Fq]
 rw[<-hsz]at h;simp only[Aj]at hc;obtain⟨_,_,env1,N1,h1,_,es,hl,h2⟩:=Hq (F:=F) hX (λacc env N h=>h.1) h;obtain⟨_,_,env,N,h3,h4⟩:=Hq (F:=F) hX (λacc env N h=>(ER (F:=F) (K':=Q .normal F) hX (λacc s h=>h) h).1) h2;have hd:EO C F ops s.H s.n pre s.env [] env N:=by
  rw[hpre];exact h1.app (.cons (Hx ho) (Av.lit hX.tt (kb+il) (by unfold Ai;rw[hg]) hop hi hk hie hl.hes hl.p1 hl.p2 hl.p3 hl.p4 b) h3)
 refine⟨λhB hd' ρ a w hs=>?_⟩;have hd':=Gc hB hd';refine On hX.mixed hc.1 hd (λhlt ρ a w hs=>?_) hd' ρ a w hs;have h5:=(ER (F:=F) (K':=Q .normal F) hX (λacc s h=>h) h4).2.run hlt hd' hs
 have:=EA (rd:=rd) (Q:=Cy C B Q) (l2:=[]) (λ_ _ _ h=>Hv hB (λ_ h=>h) h) (FZ hc.2) _ a w h5
 rwa [Ds]at this
theorem fV {i:Nat}(hX:CR C X)(kb:Nat)(pre l2:List Nat)(il:Nat)(b:Bool){o:Oper}{t len e esz eby:Nat}{ez:Value}{ps:Array (Nat×Operand)}{it ie:AJ}
  (hc:(E8 ops pre (il::l2)&&DB ops.toList)=true) (ho:CL ops.toList il=some o) (hg:o.guard=none) (hop:o.op=.buildSlice t (len+1) ps) (hi:X.tt t=some it) (hk:it.ti=.slice e esz eby ez) (hie:X.tt e=some ie)
  (h:Ct C X kb ops s.H s.n pre s.env [] True λacc env N=>acc/\∃es,Sl X env ie esz len ps es /\
   CA C X kb ops l2 ⟨Ag env o.dst (JP b (kb+il) (s.n+BT ops.toList) esz len),⟨kb+il,s.n+BT ops.toList,e,esz,es⟩::(N++s.H),s.n+BT ops.toList+1⟩ True λacc s=>acc/\Q .normal F s):AN C B rd F (.region i ops true) s Q:=by
 have hsz:ops.size=BT ops.toList:=by rw[KR,Fq]
 rw[<-hsz]at h;simp only[Aj]at hc;obtain⟨_,_,env,N,h1,_,es,hl,h2⟩:=Hq (F:=F) hX (λacc env N h=>h.1) h;have h3:=AM.lit (ops:=ops) (o:=o) (s:=⟨env,N++s.H,s.n+ops.size⟩) hX.tt (kb+il) (by unfold Ai;rw[hg]) hop hi hk hie hl.hes hl.p1 hl.p2 hl.p3 hl.p4 b (ER (F:=F) (K':=Q .normal F) hX (λacc s h=>h) h2).2;refine⟨λhB hd' ρ a w hs=>?_⟩;have hd':=Gc hB hd';refine On hX.mixed hc.1 h1 (λhlt ρ a w hs=>?_) hd' ρ a w hs;have h4:AM C F ops ((il::l2).map λj=>ops.getD j default) ⟨env,N++s.H,s.n+ops.size⟩ (Q .normal F):=by
  rw[BP,RJ ho];exact h3
 have h5:=h4.run hlt hd' hs
 have:=EA (rd:=rd) (Q:=Cy C B Q) (l2:=[]) (λ_ _ _ h=>Hv hB (λ_ h=>h) h) (FZ hc.2) _ a w h5
 rwa [Ds]at this
end
end Go.Ide
