/- The layer of own lemmas and contracts, part 12. -/
import Derived.Test.YteeceibhhdapaaaGreatDoorV11
import Derived.Test.YteeceibhhdapaaaGreatDoorV3
import Derived.Test.YteeceibhhdapaaaGreatDoorV4
import Derived.Test.YteeceibhhdapaaaGreatDoorV9
import Derived.Test.YteeceibhhdapaaaGreatDoorV7
import Derived.Laws.StructEq
import Derived.Test.YteeceibhhdapaaaGreatDoorV10
set_option linter.unusedVariables false
set_option linter.unusedSimpArgs false
namespace Go.Ide
open Go.Proofs Go.RowKit Go.Lib
set_option maxRecDepth 20000
set_option maxHeartbeats 4000000
theorem jy:AK C0 140 [CD,i64 0] CD:=by
 refine⟨by obtain⟨fn,a1,a2,a3,-⟩:=Sk;exact⟨fn,_,a1,a2,a3⟩,λX w vs _ _ _ hsz rep=>?_⟩;obtain⟨v0,v1,rfl⟩:∃v0 v1,vs = #[v0,v1]:=by
  match vs,hsz with
  |⟨[a,b]⟩,_=>exact⟨a,b,rfl⟩
 have r0:AV nol _ w CD v0:=rep 0 _ rfl;have r1:AV nol _ w (i64 0) v1:=rep 1 _ rfl;cases r0;cases r1;refine(Any8.slices_Grow_room bW none 0 0 0 w (Ad _) (by omega) (by omega) (Ad _)).mono ?_;rintro e w' ⟨rfl,rfl⟩;exact⟨_,_,rfl,.refl _ _,rfl,.prim _⟩
theorem dZ (vs:List (List AF))(h0:∀x∈vs,x=[])(hv:vs.length<=1000000):AK C0 88 [.sl true 1 (vs.map (Ai false))] (Ai false []):=by
 refine Ak.walk w1 TM rfl λF=>?_
 have el:(((vs.map (Ai false)).length:Nat):Int)=(vs.length:Int):=by rw[Ap]
 have cG:=jy;refine AN Ac el AB AB AB AB AB AB ?_;refine AC.loop (α:=Nat×Nat) (λp=>⟨[(0,.sl true 1 (vs.map (Ai false))),(3,i64 0),(9,.sl true 1 (vs.map (Ai false))),(10,i64 (vs.length:Int)),(11,i64 (p.1:Int))],[],p.2⟩) (λp=>vs.length-p.1) (λq=>q.1<=vs.length) (0,_) (BS _) AJ ?_;rintro⟨i,n⟩ F hi;dsimp only at hi⊢;rcases BL i vs.length with h2|h2
 ·have e1:=Cn h2
  have wi:=Cp (i:=i) (by omega);obtain⟨x,hx⟩:=CO h2;have hx0:=h0 x (BE hx);subst hx0;have hm:(vs.map (Ai false))[i]?=some (.sl false 3 []):=by rw[BI,hx];rfl
  have ln0:([]:List D).length=0:=rfl;have w1':IntKind.i64.wrap (0+((0:Nat):Int))=0:=rfl;have g0:decide ((0:Int)<0)=false:=rfl;refine AN Ac (E5 e1 wi ln0 w1' g0 kN) hm AB AB AB AB AB ?_;exact⟨(i+1,_),h2,by dsimp only;omega,AJ⟩
 have e1:=Cm h2
 have:i=vs.length:=by omega
 subst this;refine AN Ac (Ae el e1) cG AB AB AB AB AB ?_;refine AC.ghost 1302 27 3 [(6,.osl 1302 _ 3 0 0),(25,.sl true 1 (vs.map (Ai false))),(26,i64 (vs.length:Int)),(27,i64 ((0:Nat):Int))] ⟨.inr ⟨rfl,rfl⟩,.inl rfl,.inl rfl,.inl rfl,trivial⟩ ?_;refine AC.loop (α:=Nat×Nat×Nat) (λp=>⟨[(6,.osl 1302 p.2.1 3 0 0),(25,.sl true 1 (vs.map (Ai false))),(26,i64 (vs.length:Int)),(27,i64 (p.1:Int))],[⟨1302,p.2.1,27,3,[]⟩],p.2.2⟩) (λp=>vs.length-p.1) (λq=>q.1<=vs.length) (0,_,_) (BS _) AJ ?_;clear hi h2 e1;rintro⟨i,g,n⟩ F hi;dsimp only at hi⊢;rcases BL i vs.length with h2|h2
 ·have e1:=Cn h2
  have wi:=Cp (i:=i) (by omega);obtain⟨x,hx⟩:=CO h2;have hx0:=h0 x (BE hx);subst hx0;have hm:(vs.map (Ai false))[i]?=some (.sl false 3 []):=by rw[BI,hx];rfl
  refine AN Ac (Av e1 wi kN) hm AB AB AB AB AB ?_;exact⟨(i+1,n+1+1+1+1+1+1,n+1+1+1+1+1+1+1+1+1+1),h2,by dsimp only;omega,AJ⟩
 have e1:=Cm h2;have hR:=Fc (H:=[⟨1302,g,27,3,[]⟩]) (Hf:=[]) (k:=1302) (g:=g) (T:=27) (sz:=3) (l:=[]) rfl;refine AN Ac e1 AB AB AB AB AB AB ?_;exact⟨_,hR,AA.out,rfl⟩
theorem jA (vs:List (List AF))(hl:vs.flatten.length<=1000000)(hv:vs.length<=1000000):AK C0 88 [.sl true 1 (vs.map (Ai false))] (Ai false vs.flatten):=by
 by_cases h:vs.flatten=[]
 ·rw[h]
  exact dZ vs (λx hx=>ER (Nat.le_zero.1 (by
   have:=(List.sublist_flatten_of_mem hx).length_le
   rwa [h]at this))) hv
 ·exact VL vs h hl hv
abbrev GW:Dr:=[(11,[0,1,2,3,4,5,6,7,8,9,10,11,12,13],[14,15])]
open Go.Proofs Go.RowKit
set_option maxRecDepth 20000
set_option maxHeartbeats 4000000
theorem XZ {l:List As}:∀i,i<=l.length->(∀j,j<i->CP (FJ l j).part=0)->rk (Ee l i) (601*i+1)
 | 0,_,_=>(XW 1 (Ad _)).rk
 |i+1,hi,h=>(ZF (XZ i (by omega) λj hj=>h j (by omega)) (Lq (h i (by omega)))).mono (by omega)
theorem ko {l:List As}{i:Nat}(h:E7 l i=0):CP (FJ l i).part=0:=by
 unfold E7 at h;split at h
 ·cases h
 split at h
 ·cases h
 split at h
 ·exact h
 ·rename_i h1;exact Decidable.not_not.1 h1
theorem u5 (b:Bool)(l:List As)(hl:l.length<=15\/64<l.length)(hl2:l.length<=9223372036854775807)(hf:∀s∈l,s.few):AK C0 119 [CK b l] (i64 (G6 l:Nat)):=by
 refine Ak.walk w1 mU rfl λF=>?_
 have el:(((l.map As.D).length:Nat):Int)=(l.length:Int):=by rw[Ap]
 have hC:G6 l=if l.length=0 then 2 else if 64<l.length then 5 else if DV (E7 l) l.length≠0 then DV (E7 l) l.length else if Ee l l.length=1 then 0 else 12:=rfl
 rcases Nat.decEq l.length 0 with h0|h0
 rotate_left
 ·rw[AH h0]at hC
  rw[hC];have q1:((l.length:Int)==0)=true:=by rw[h0];rfl
  refine AN GW (Ae el q1) AB AB AB AB AB AB ?_;exact AQ rfl AA.out
 rw[AG h0]at hC;have q1:((l.length:Int)==0)=false:=Bw.2 (by omega)
 by_cases h64:64<l.length
 ·rw[AH h64]at hC
  rw[hC];have q2:decide ((l.length:Int)>64)=true:=AY (by omega);refine AN GW (Av el q1 q2) AB AB AB AB AB AB ?_;exact AQ rfl AA.out
 rw[AG h64]at hC;have q2:decide ((l.length:Int)>64)=false:=Ah (by omega);have h15:l.length<=15:=by omega
 refine AN GW (Av el q1 q2) AB AB AB AB AB AB ?_;refine AC.loop (α:=Nat×Nat) (λp=>⟨[(0,CK b l),(3,rR (Ee l p.1)),(4,i64 (p.1:Int))],[],p.2⟩) (λp=>l.length-p.1) (λp=>p.1<=l.length/\∀j,j<p.1->E7 l j=0) (0,_)
  ⟨BS _,λj h=>Aj h (HM j)⟩ (by(dsimp only;rw[show rR (Ee l 0)=str ⟨#[48]⟩from kY];exact AJ)) ?_
 rintro⟨i,m⟩ F ⟨hi,hz⟩;dsimp only at hi hz⊢;have hSk:=XZ (l:=l) i hi λj hj=>ko (hz j hj)
 rcases BL i l.length with h2|h2
 rotate_left
 ·have e1:=Cm h2
  have:i=l.length:=by omega
  subst this;rw[AG (λh=>h (LS hz))]at hC;have e2:=dh (Ee l l.length);obtain⟨q,hq⟩:∃q,decide (Ee l l.length=1)=q:=⟨_,rfl⟩
  rw[hq]at e2;unfold rR;cases q
  ·rw[AG (DA hq)]at hC
   rw[hC];refine AN GW (Av e1 el e2) AB AB AB AB AB AB ?_;exact AQ rfl AA.out
  ·rw[AH (C3 hq)]at hC
   rw[hC];refine AN GW (Av e1 el e2) AB AB AB AB AB AB ?_;exact AQ rfl AA.out
 have e1:=Cn h2;have wi:=Cp (i:=i) (by omega);obtain⟨s,hs⟩:=CO h2;have hm:(l.map As.D)[i]?=some (.agg [str (sb s.lot),str (sb s.part)]):=by rw[BI,hs];rfl
 obtain⟨f1,f2⟩:=hf s (BE hs);have hE:E7 l i=if DO s.lot=false then 8 else if 0<i/\Nk s.lot (FJ l (i-1)).lot=true then 11 else if CP s.part≠0 then CP s.part else if GH (CF s.part)<=0 then 12 else 0:=by unfold E7;rw[Iq hs]
 have hbad:∀e:Nat,e≠0->E7 l i=e->G6 l=e:=λe he h=>by
  have:=NG hz h2 (by rw[h];exact he)
  rw[hC,this,h,AH he]
 have cN:=aZ s.lot (by omega);obtain⟨N,hN⟩:∃q,DO s.lot=q:=⟨_,rfl⟩
 rw[hN]at cN hE;cases N
 ·rw[AH rfl]at hE
  rw[hbad 8 (by decide) hE];refine AN GW (Av e1 el kN) hm cN AB AB AB AB ?_;exact AQ rfl AA.out
 rw[AG (by decide)]at hE;have cC:=rQ s.part f2;rcases i with _|q
 ·have g0:decide (((0:Nat):Int)>0)=false:=rfl
  rw[AG (λh=>Aj h.1 (Nat.lt_irrefl 0))]at hE;rcases Nat.decEq (CP s.part) 0 with hc0|hc0
  ·rw[AH hc0]at hE
   have e3:=Fr hc0;rw[hbad (CP s.part) hc0 hE];refine AN GW (Cv e1 el g0 kN e3) hm cN cC AB AB AB ?_;exact AQ rfl AA.out
  rw[AG (λh=>h hc0)]at hE;have e3:=Fs hc0;have cG:=ZJ (CF s.part) (Wz hc0);have cA:=ay (Ee l 0) (CF s.part) (601*0+1) 600 hSk (Lq hc0) (by omega);rw[S3 hc0]at cG cA;have hnext:Ee l (0+1)=Ee l 0+CF s.part:=by show _+CF (FJ l 0).part=_;rw[Iq hs]
  rw[<-hnext]at cA;obtain⟨sg,hsg⟩:∃q,GH (CF s.part)=q:=⟨_,rfl⟩
  rw[hsg]at cG hE
  by_cases hs0:sg<=0
  ·rw[AH hs0]at hE
   have e4:decide (sg<=0)=true:=AY hs0;rw[hbad 12 (by decide) hE];refine AN GW (E5 e1 el g0 kN e3 e4) hm cN cC cG AB AB ?_;exact AQ rfl AA.out
  rw[AG hs0]at hE;have e4:decide (sg<=0)=false:=Ah hs0;refine AN GW (Cj e1 el g0 kN e3 e4 wi) hm cN cC cG cA AB ?_;exact⟨(0+1,_),⟨h2,λj hj=>by
   rcases Nat.lt_succ_iff_lt_or_eq.1 hj with q|q
   ·exact hz j q
   ·rw[q];exact hE⟩,by dsimp only;omega,AJ⟩
 ·have g0:decide (((q+1:Nat):Int)>0)=true:=AY (by omega)
  have g1:IntKind.i64.wrap (((q+1:Nat):Int)-1)=(q:Int):=by rw[wI (by omega) (by omega)];omega
  obtain⟨s0,hs0'⟩:=CO (l:=l) (i:=q) (by omega);have hm0:(l.map As.D)[q]?=some (.agg [str (sb s0.lot),str (sb s0.part)]):=by rw[BI,hs0'];rfl
  rw[Hz,Iq hs0']at hE;obtain⟨bL,hbL⟩:∃q,Nk s.lot s0.lot=q:=⟨_,rfl⟩
  have g2:(Kx (sb s.lot) (sb s0.lot)||Bh (sb s.lot) (sb s0.lot))=bL:=hbL;rw[hbL]at hE;cases bL
  rotate_left
  ·rw[AH ⟨Nat.succ_pos q,rfl⟩]at hE
   rw[hbad 11 (by decide) hE];refine AN GW (E5 e1 el g0 g1 g2 kN) hm hm0 cN AB AB AB ?_;exact AQ rfl AA.out
  rw[AG (λh=>Aj h.2 (by decide))]at hE;rcases Nat.decEq (CP s.part) 0 with hc0|hc0
  ·rw[AH hc0]at hE
   have e3:=Fr hc0;rw[hbad (CP s.part) hc0 hE];refine AN GW (Cj e1 el g0 g1 g2 kN e3) hm hm0 cN cC AB AB ?_;exact AQ rfl AA.out
  rw[AG (λh=>h hc0)]at hE;have e3:=Fs hc0;have cG:=ZJ (CF s.part) (Wz hc0);have cA:=ay (Ee l (q+1)) (CF s.part) (601*(q+1)+1) 600 hSk (Lq hc0) (by omega);rw[S3 hc0]at cG cA;have hnext:Ee l ((q+1)+1)=Ee l (q+1)+CF s.part:=by show _+CF (FJ l (q+1)).part=_;rw[Iq hs]
  rw[<-hnext]at cA;obtain⟨sg,hsg⟩:∃q,GH (CF s.part)=q:=⟨_,rfl⟩
  rw[hsg]at cG hE
  by_cases hs0:sg<=0
  ·rw[AH hs0]at hE
   have e4:decide (sg<=0)=true:=AY hs0;rw[hbad 12 (by decide) hE];refine AN GW (Cj e1 el g0 g1 g2 kN (Ae e3 e4)) hm hm0 cN cC cG AB ?_;exact AQ rfl AA.out
  rw[AG hs0]at hE;have e4:decide (sg<=0)=false:=Ah hs0;refine AN GW (Cj e1 el g0 g1 g2 kN (Av e3 e4 wi)) hm hm0 cN cC cG cA ?_;exact⟨((q+1)+1,_),⟨h2,λj hj=>by
   rcases Nat.lt_succ_iff_lt_or_eq.1 hj with q|q
   ·exact hz j q
   ·rw[q];exact hE⟩,by dsimp only;omega,AJ⟩
theorem uQ (x:AF)(hs:x.shs.length<=15\/64<x.shs.length)(hf:x.few):AK C0 64 [x.D] (i64 (CV x:Nat)):=by
 refine Ak.walk w1 sA rfl λF=>?_
 obtain⟨f1,f2,f3⟩:=hf;have cN:=aZ x.grain (by omega);have cS:=u5 false x.shs hs f2 f3;have hC:CV x=if DO x.grain=false then 8 else if x.mass<1\/x.mass>999999999 then 3 else G6 x.shs:=rfl
 obtain⟨N,hN⟩:∃q,DO x.grain=q:=⟨_,rfl⟩
 obtain⟨SD,hSD⟩:∃d,CK false x.shs=d:=⟨_,rfl⟩
 have pS:AA SD:=by rw[<-hSD];exact AI
 have hna:Jk SD=true:=by rw[<-hSD];rfl
 unfold AF.D;rw[hN]at cN hC;rw[hSD]at cS⊢;cases N
 ·rw[AH rfl]at hC
  rw[hC];refine AN Ac kB cN AB AB AB AB AB ?_;exact AQ rfl AA.out
 rw[AG (by decide)]at hC
 by_cases h1:x.mass<1
 ·rw[AH (.inl h1)]at hC
  rw[hC];have e1:decide (x.mass<1)=true:=AY h1;refine AN Ac e1 cN AB AB AB AB AB ?_;exact AQ rfl AA.out
 have e1:decide (x.mass<1)=false:=Ah h1
 by_cases h2:x.mass>999999999
 ·rw[AH (.inr h2)]at hC
  rw[hC];have e2:decide (x.mass>999999999)=true:=AY h2;refine AN Ac (Ae e1 e2) cN AB AB AB AB AB ?_;exact AQ rfl AA.out
 have e2:decide (x.mass>999999999)=false:=Ah h2;rw[AG (by omega)]at hC;rw[hC];refine AN Ac (Av e1 e2 hna) cN cS AB AB AB AB ?_;exact AQ rfl AA.out
open Go.Sort
def HF (lot:List UInt8)(r:Rat):Bu->Bu
 | []=>[(lot,r)]
 |p::l=>if ltStr p.1 lot then p::HF lot r l else if p.1=lot then(p.1,p.2+r)::l else(lot,r)::p::l
def K9 (x:AF)(n:Nat)(q:Bu):Bu:=(x.shs.take n).foldl (λacc s=>HF s.lot (CF s.part*(x.mass:Rat)) acc) q
def Jv (l:List AF):Bu:=l.foldl (λacc x=>K9 x x.shs.length acc) []
theorem gI (x:AF)(n:Nat)(q:Bu){s:As}(h:x.shs[n]?=some s):K9 x (n+1) q=HF s.lot (CF s.part*(x.mass:Rat)) (K9 x n q):=by
 unfold K9;rw[EB,h,List.foldl_append];rfl
theorem eM (l:List AF)(n:Nat){x:AF}(h:l[n]?=some x):Jv (l.take (n+1))=K9 x x.shs.length (Jv (l.take n)):=by
 unfold Jv;rw[EB,h,List.foldl_append];rfl
abbrev GT (q:Bu):Prop:=q.Pairwise λa b=>ltStr a.1 b.1=true
theorem GT.nd {q:Bu}(h:GT q):(Cb q).Nodup:=by
 rw[Cb,List.Nodup,List.pairwise_map];exact h.imp λ{a b} h e=>by rw[e,swo_ltStr.irrefl]at h;cases h
theorem Oy {lot:List UInt8}{o v:Rat}:∀ {q:Bu},FP lot q=some o->∃A B,q=A++(lot,o)::B/\Fq lot v q=A++(lot,v)::B
 | [],h=>by simp[FP]at h
 |p::l,h=>by
  unfold FP at h;unfold Fq;split at h
  ·rename_i e
   cases h;rw[AH e];exact⟨[],l,by rw[e];rfl,rfl⟩
  ·rename_i e
   rw[AG e];obtain⟨A,B,h1,h2⟩:=Oy (v:=v) h;exact⟨p::A,B,by rw[h1];rfl,by rw[h2];rfl⟩
theorem Rf {lot:List UInt8}{v:Rat}:∀ {q:Bu},FP lot q=none->lot∉Cb q/\Fq lot v q=q++[(lot,v)]
 | [],_=>⟨by simp[Cb],rfl⟩
 |p::l,h=>by
  unfold FP at h;unfold Fq;split at h
  ·cases h
  ·rename_i e
   rw[AG e];obtain⟨h1,h2⟩:=Rf (v:=v) h;exact⟨λq=>by
    rcases BA.1 q with q|q
    ·exact e q
    ·exact h1 q,by rw[h2];rfl⟩
theorem V8 {lot:List UInt8}{r:Rat}:∀ {Q:Bu},GT Q->(∃A o B,Q=A++(lot,o)::B/\HF lot r Q=A++(lot,o+r)::B)\/(lot∉Cb Q/\∃A B,Q=A++B/\HF lot r Q=A++(lot,r)::B)
 | [],_=>.inr ⟨by simp[Cb],[],[],rfl,rfl⟩
 |p::l,h=>by
  have hp:=Dk.1 h;unfold HF;split
  ·rename_i e
   rcases V8 (lot:=lot) (r:=r) hp.2 with⟨A,o,B,h1,h2⟩|⟨h0,A,B,h1,h2⟩
   ·exact .inl ⟨p::A,o,B,by rw[h1];rfl,by rw[h2];rfl⟩
   ·refine .inr ⟨λq=>?_,p::A,B,by rw[h1];rfl,by rw[h2];rfl⟩
    rcases BA.1 q with q|q
    ·rw[show p.1=lot from q.symm,swo_ltStr.irrefl]at e;cases e
    ·exact h0 q
  ·rename_i e
   split
   ·rename_i e2
    exact .inl ⟨[],p.2,l,by rw[<-e2];rfl,by rw[e2];rfl⟩
   ·rename_i e2
    refine .inr ⟨λq=>?_,[],p::l,rfl,rfl⟩;rcases BA.1 q with q|q
    ·exact e2 q.symm
    ·obtain⟨z,hz,rfl⟩:=List.mem_map.1 q
     exact e (hp.1 z hz)
theorem Vk {lot:List UInt8}{r:Rat}:∀ {Q:Bu},∀z∈HF lot r Q,z.1=lot\/z.1∈Cb Q
 | [],z,hz=>by
  unfold HF at hz;rw[List.mem_singleton]at hz;exact .inl (by rw[hz])
 |p::l,z,hz=>by
  unfold HF at hz;split at hz
  ·rcases BA.1 hz with rfl|hz
   ·exact .inr CH
   ·rcases Vk z hz with h|h
    ·exact .inl h
    ·exact .inr (CN _ h)
  ·split at hz
   ·rcases BA.1 hz with rfl|hz
    ·exact .inr CH
    ·exact .inr (CN _ (List.mem_map_of_mem hz))
   ·rcases BA.1 hz with rfl|hz
    ·exact .inl rfl
    ·exact .inr (List.mem_map_of_mem hz)
theorem XG {lot:List UInt8}{r:Rat}:∀ {Q:Bu},GT Q->GT (HF lot r Q)
 | [],_=>List.pairwise_singleton _ _
 |p::l,h=>by
  have hp:=Dk.1 h;unfold HF;split
  ·rename_i e
   refine Dk.2 ⟨λz hz=>?_,XG hp.2⟩;rcases Vk z hz with h|h
   ·rw[h];exact e
   ·obtain⟨y,hy,h2⟩:=List.mem_map.1 h
    rw[<-h2];exact hp.1 y hy
  ·rename_i e
   split
   ·exact Dk.2 ⟨hp.1,hp.2⟩
   ·rename_i e2
    have e3:ltStr lot p.1=true:=by
     cases h9:ltStr lot p.1 with
     |true=>rfl
     |false=>exact Aj (VE (by simpa using e) h9) e2
    refine Dk.2 ⟨λz hz=>?_,h⟩;rcases BA.1 hz with rfl|hz
    ·exact e3
    ·exact swo_ltStr.trans _ _ _ e3 (hp.1 z hz)
theorem kz {Q q:Bu}(hs:GT Q)(hp:Q.Perm q)(lot:List UInt8)(r:Rat):(HF lot r Q).Perm (I8 lot r q):=by
 have hnd:(Cb Q).Nodup:=hs.nd;unfold I8;rcases V8 (lot:=lot) (r:=r) hs with⟨A,o,B,h1,h2⟩|⟨h0,A,B,h1,h2⟩
 ·have hm:(lot,o)∈q:=hp.mem_iff.1 (by rw[h1];simp)
  have hqn:(Cb q).Nodup:=(hp.map _).nodup_iff.1 hnd;have hlk:=RT hqn hm;dsimp only at hlk;rw[hlk];dsimp only;obtain⟨A2,B2,h3,h4⟩:=Oy (v:=r+o) hlk;rw[h2,h4];have p1:(A++(lot,o)::B).Perm ((lot,o)::(A++B)):=Gq;have p2:(A2++(lot,o)::B2).Perm ((lot,o)::(A2++B2)):=Gq;have p3:(A++B).Perm (A2++B2):=by
   rw[h1,h3]at hp;exact List.Perm.cons_inv (p1.symm.trans (hp.trans p2))
  rw[Rat.add_comm o r];exact Gq.trans ((p3.cons _).trans Gq.symm)
 ·have hn:FP lot q=none:=by
   cases h9:FP lot q with
   |none=>rfl
   |some o=>
    obtain⟨A2,B2,h3,-⟩:=Oy (v:=o) h9;exact Aj ((hp.map (·.1)).mem_iff.2 (by rw[h3];simp)) h0
  rw[hn];dsimp only;rw[(Rf (v:=r) hn).2,h2];rw[h1]at hp;exact Gq.trans ((hp.cons _).trans (List.perm_append_singleton _ _).symm)
theorem XH {Q q:Bu}(hs:GT Q)(hp:Q.Perm q)(x:AF):∀j,j<=x.shs.length->GT (K9 x j Q)/\(K9 x j Q).Perm (Fm x j q)
 | 0,_=>⟨hs,hp⟩
 |j+1,hj=>by
  obtain⟨s,hsj⟩:∃s,x.shs[j]?=some s:=⟨_,BH hj⟩
  obtain⟨h1,h2⟩:=XH hs hp x j (by omega);rw[gI x j Q hsj,Ms x j q hsj];exact⟨XG h1,kz h1 h2 _ _⟩
theorem Rv (l:List AF):∀i,i<=l.length->GT (Jv (l.take i))/\(Jv (l.take i)).Perm (B9 (l.take i))
 | 0,_=>⟨List.Pairwise.nil,.refl _⟩
 |i+1,hi=>by
  obtain⟨x,hx⟩:∃x,l[i]?=some x:=⟨_,BH hi⟩
  obtain⟨h1,h2⟩:=Rv l i (by omega);rw[eM l i hx,Oi l i hx];exact XH h1 h2 x _ (Ad _)
theorem GT.weak {q:Bu}(h:GT q):q.Pairwise λa b=>ltStr b.1 a.1=false:=h.imp λ{a b} h=>by
 cases h9:ltStr b.1 a.1 with
 |false=>rfl
 |true=>have:=swo_ltStr.trans _ _ _ h h9;rw[swo_ltStr.irrefl]at this;cases this
theorem WQ (l:List AF):Jv l=Ey (B9 l):=by
 obtain⟨h1,h2⟩:=Rv l l.length (Ad _);rw[DW]at h1 h2;exact RI ((h2.map _).nodup_iff.1 h1.nd) h2 (JV _) h1.weak (Pi _)
theorem ib (l:List AF):GT (Jv l):=by
 obtain⟨h1,-⟩:=Rv l l.length (Ad _)
 rwa [DW]at h1
def Dc (g:List UInt8)(x:AF):AF:=⟨g,x.mass,x.shs⟩
def Gf (l:List AF)(g:List UInt8):Nat:=if Be l≠0 then Be l else if DO g=false then 8 else if l.length=0 then 13 else 0
def Hm (l:List AF)(g:List UInt8):Nat:=if Gf l g≠0 then Gf l g else GJ (l.map (Dc g))
def Kq (l:List AF)(g:List UInt8):AF:=if Gf l g≠0 then⟨[],0,[]⟩else J6 (l.map (Dc g))
theorem ke (g:List UInt8){l:List AF}{i:Nat}{x:AF}(hx:l[i]?=some x):
  (((l.take i).map (Dc g)++l.drop i).map AF.D).set i (.agg [str (sb g),i64 x.mass,.sl false 2 (x.shs.map As.D)])=((l.take (i+1)).map (Dc g)++l.drop (i+1)).map AF.D:=by
 have hi:=(List.getElem?_eq_some_iff.1 hx).1;have hd:l.drop i=x::l.drop (i+1):=by
  rw[D9 hi,(List.getElem?_eq_some_iff.1 hx).2]
 rw[EB,hx,hd];simp only[Cu,Cd,Option.toList_some,List.map_nil,Dm,ES,Fy];rw[OG _ _ (by simp;omega)]
 have:i-(((l.take i).map (Dc g)).map AF.D).length=0:=by simp;omega
 rw[this];rfl
theorem af (b:Bool)(l:List AF)(g:List UInt8)(hl:l.length<=1000000)(hf:∀x∈l,x.lite)(hg:g.length<=100000):AK C0 11 [Ai b l,str (sb g)] (.tup [(Kq l g).D,i64 (Hm l g:Nat)]):=by
 refine Ak.walk w1 Zy rfl λF=>?_
 have el:(((l.map AF.D).length:Nat):Int)=(l.length:Int):=by rw[Ap]
 have cP:=Jw b l (by omega) λx hx=>(hf x hx).1
 have cN:=Pe g;have hN:Hm l g=if Gf l g≠0 then Gf l g else GJ (l.map (Dc g)):=rfl
 have hL:Kq l g=if Gf l g≠0 then⟨[],0,[]⟩else J6 (l.map (Dc g)):=rfl
 have hE:Gf l g=if Be l≠0 then Be l else if DO g=false then 8 else if l.length=0 then 13 else 0:=rfl
 obtain⟨K,hK⟩:∃K,DO g=K:=⟨_,rfl⟩
 have cW1:=Ku (!K) 8;have cW2:=Ku ((l.length:Int)==0) 13;have cF:AK C0 54 [.sl true 1 [i64 (Be l:Nat),i64 (if !K then 8 else 0),i64 (if(l.length:Int)==0 then 13 else 0)]] (i64 (Gf l g:Nat)):=by
  have:=NT [(Be l:Int),if !K then 8 else 0,if(l.length:Int)==0 then 13 else 0] (by simp)
  have he:DP [(Be l:Int),if !K then 8 else 0,if(l.length:Int)==0 then 13 else 0]=((Gf l g:Nat):Int):=by
   rw[hE,hK]
   by_cases h1:Be l=0<;>cases K<;>by_cases h3:l.length=0<;>simp[DP,h1,h3]
  rw[he]at this;exact this
 rw[hK]at cN;rcases Nat.decEq (Gf l g) 0 with g0|g0
 ·have e1:=Fr g0
  rw[AH g0]at hN hL;rw[hN,hL];refine AN Ac (Ae el e1) cP cN cW1 cW2 cF AB ?_;exact⟨_,NH _ _,AA.out,rfl⟩
 have e1:=Fs g0;rw[AG (λh=>h g0)]at hN hL;rw[hN,hL];have h0:l≠[]:=λh=>by
  rw[hE]at g0;split at g0
  ·rename_i h9;exact h9 g0
  ·split at g0
   ·cases g0
   ·split at g0
    ·cases g0
    ·rename_i h9;exact h9 (by rw[h];rfl)
 refine AN Ac (Ae el e1) cP cN cW1 cW2 cF AB ?_;refine A9.own _ (iJ b l hl h0 _ _) ?_;rintro d H' n' ⟨gk,rfl,rfl,rfl⟩;refine AN Ac kB AB AB AB AB AB AB ?_;refine AC.loop (α:=Nat×Nat) (λp=>⟨[(1,str (sb g)),(4,.optr 0 0 3 0 0),(7,.osl 302 gk 3 0 l.length),(28,i64 (l.length:Int)),(29,i64 (p.1:Int))],[⟨302,gk,27,3,((l.take p.1).map (Dc g)++l.drop p.1).map AF.D⟩,⟨0,0,27,3,[.agg [.prim (.string ⟨#[]⟩),.prim (.int .i64 0),.prim (.slice none 0 0)]]⟩],p.2⟩) (λp=>l.length-p.1)
  (λp=>p.1<=l.length) (0,_) (BS _) AJ ?_
 rintro⟨i,n⟩ F hi;dsimp only at hi⊢;rcases BL i l.length with h2|h2
 rotate_left
 ·have e1:=Cm h2
  have:i=l.length:=by omega
  subst this;rw[DW,Ia,DE];have hlr:(l.map (Dc g)).length=l.length:=Ap ..;have hfr:∀x∈l.map (Dc g),x.lite:=λx hx=>by
   obtain⟨y,hy,rfl⟩:=List.mem_map.1 hx;obtain⟨⟨a1,a2,a3⟩,a4⟩:=hf y hy;exact⟨⟨hg,a2,a3⟩,a4⟩
  have cM:=uM false (l.map (Dc g)) (by rw[hlr];exact hl) hfr;obtain⟨R,hR⟩:∃R,l.map (Dc g)=R:=⟨_,rfl⟩
  rw[hR]at cM hlr⊢;obtain⟨Z,hZ⟩:∃Z:AF,J6 R=Z:=⟨_,rfl⟩
  rw[hZ]at cM⊢;refine AN Ac e1 AB AB AB AB AB AB ?_;have hfz:Fz [⟨302,gk,27,3,R.map AF.D⟩,⟨0,0,27,3,[.agg [.prim (.string ⟨#[]⟩),.prim (.int .i64 0),.prim (.slice none 0 0)]]⟩] [⟨0,0,27,3,[.agg [.prim (.string ⟨#[]⟩),.prim (.int .i64 0),.prim (.slice none 0 0)]]⟩] (.osl 302 gk 3 0 l.length) (Ai false R):=by
   have:=Fc (H:=[⟨302,gk,27,3,R.map AF.D⟩,⟨0,0,27,3,[.agg [.prim (.string ⟨#[]⟩),.prim (.int .i64 0),.prim (.slice none 0 0)]]⟩]) (Hf:=[⟨0,0,27,3,[.agg [.prim (.string ⟨#[]⟩),.prim (.int .i64 0),.prim (.slice none 0 0)]]⟩]) (k:=302) (g:=gk) (T:=27) (sz:=3) (l:=R.map AF.D) rfl
   rwa [Ap,hlr]at this
  refine A9.own _ (MP [⟨0,0,27,3,[.agg [.prim (.string ⟨#[]⟩),.prim (.int .i64 0),.prim (.slice none 0 0)]]⟩] cM (.drop (.keep .nil)) ⟨hfz,trivial⟩ AI) ?_;rintro d H2 n2 ⟨rfl,rfl,rfl⟩;unfold AF.D;refine AN Ac kB AB AB AB AB AB AB ?_;exact AQ rfl AA.out
 have e1:=Cn h2;have wi:=Cp (i:=i) (by omega);obtain⟨x,hx⟩:=CO h2;obtain⟨es,hes⟩:∃es,((l.take i).map (Dc g)++l.drop i).map AF.D=es:=⟨_,rfl⟩
 rw[hes];have hm:es[i]?=some (.agg [str (sb x.grain),i64 x.mass,.sl false 2 (x.shs.map As.D)]):=by
  rw[<-hes,BI,E3 (by simp;omega)];simp only[Ap,Bj,Eh (JE h2),Nat.sub_self,Gn,DL,hx,Ib];rfl
 refine sZ 600 ?_;refine AE e1 ?_;refine AC.seq ?_;refine AL ?_;refine Am ?_;refine AC.seq ?_;refine AC.block ?_;refine sZ 700 ?_;refine AE kB ?_;refine An w1 800 (by kernel_rfl) ?_;refine AE (Av kN BR hm) ?_;have hset:es.set i (.agg [str (sb g),i64 x.mass,.sl false 2 (x.shs.map As.D)])=((l.take (i+1)).map (Dc g)++l.drop (i+1)).map AF.D:=by
  rw[<-hes];exact ke g hx
 rw[hset];refine AN Ac wi AB AB AB AB AB AB ?_;exact⟨(i+1,_),h2,by dsimp only;omega,AJ⟩
theorem j0 {g:List UInt8}(hg:g.length<=100000){l:List AF}(hf:∀x∈l,x.lite):∀x∈l.map (Dc g),x.lite:=λx hx=>by
 obtain⟨y,hy,rfl⟩:=List.mem_map.1 hx;obtain⟨⟨a1,a2,a3⟩,a4⟩:=hf y hy;exact⟨⟨hg,a2,a3⟩,a4⟩
theorem lJ {l:List AF}(h:GJ l=0):Gm l=0/\(B9 l).length<=64/\∀p∈Ey (B9 l),Da (p.2/(Aq l:Rat))=false:=by
 unfold GJ at h;split at h
 ·rename_i h9;exact Aj h h9
 ·split at h
  ·cases h
  ·split at h
   ·cases h
   ·rename_i h1 h2 h3
    refine⟨by omega,by omega,λp hp=>?_⟩
    have:=List.any_eq_false.1 ((Bool.not_eq_true _).mp h3) p hp
    exact(Bool.not_eq_true _).mp this
theorem XB {l:List AF}(h:GJ l=0):J6 l=⟨(CE l 0).grain,Aq l,EQ l⟩:=by
 unfold J6;rw[AG (λq=>q h)]
theorem kQ {l:List UInt8}(h:CP l=0):l.length<=100000:=by
 obtain⟨-,h2,h3,-⟩:=O9 h;have h4:(Bv l).length<=(Bx l).length+1:=by
  unfold Bx Bi;split
  ·simp;omega
  ·omega
 unfold Bv BU at*;rw[Bj]at h4;rw[Do]at h3;omega
theorem lK {l:List AF}(hf:∀x∈l,x.lite)(h:GJ l=0):(EQ l).length<=64/\∀s∈EQ l,s.lot.length<=1000/\s.part.length<=100000/\CP s.part=0/\rk (CF s.part) 600:=by
 obtain⟨h1,h2,h3⟩:=lJ h;obtain⟨g1,g2,g3,g4,g5⟩:=XA h1;obtain⟨hx,hK⟩:=VD hf g3 g2;refine⟨by unfold EQ;rw[Ap,(JV _).length_eq];exact h2,λs hs=>?_⟩;unfold EQ at hs;obtain⟨p,hp,rfl⟩:=List.mem_map.1 hs;have hc:=jh (h3 p hp);refine⟨hK.all p.1 (List.mem_map_of_mem ((JV _).mem_iff.1 hp)),?_,hc,Lq hc⟩;exact kQ hc
def FQ (l:List AF)(left:Int):AF:=⟨(CE l 0).grain,Aq l-left,EQ (l.map (Dc (CE l 0).grain))⟩
def IT (l:List AF)(left:Int):Nat:=if Be l≠0 then Be l else if left<1 then 3 else if Aq l<left then 13 else if D7 l=false then 16 else if Hm l (CE l 0).grain≠0 then Hm l (CE l 0).grain
 else if Aq l=left then 0 else Hk (B9 [FQ l left])
def Qb (l:List AF)(left:Int):AF:=if IT l left≠0 then⟨[],0,[]⟩else⟨(CE l 0).grain,left,EQ (l.map (Dc (CE l 0).grain))⟩
def Qa (l:List AF)(left:Int):Bu:=if IT l left≠0 then[]else if Aq l=left then[]else Iw (B9 [FQ l left])
theorem Kc {H:Hp}{a a' b b' c:D}(h1:Fz H [] a a')(h2:Fz H [] b b'):Fz H [] (.tup [a,b,c]) (.tup [a',b',c]):=.tup rfl λi d d' h h'=>by
 match i with
 | 0=>cases h;cases h';exact h1
 | 1=>cases h;cases h';exact h2
 | 2=>cases h;cases h';exact .refl _
 |n+3=>cases h
theorem QK (H:Hp):Fz H [] (.agg [str ⟨#[]⟩,i64 0,CD]) (⟨[],0,[]⟩:AF).D:=.agg rfl λi d d' h h'=>by
 match i with
 | 0=>cases h;cases h';exact .refl _
 | 1=>cases h;cases h';exact .refl _
 | 2=>cases h;cases h';exact .nil 2
 |n+3=>cases h
theorem kR (b:Bool)(l:List AF)(left:Int)(hl:l.length<=1000000)(hf:∀x∈l,x.lite):AK C0 12 [Ai b l,i64 left] (.tup [(Qb l left).D,.sl false 2 ((Qa l left).map CZ),i64 (IT l left:Nat)]):=by
 refine Ak.walk w1 Zz rfl λF=>?_
 have cP:=Jw b l (by omega) λx hx=>(hf x hx).1
 have hE:IT l left=if Be l≠0 then Be l else if left<1 then 3 else if Aq l<left then 13 else if D7 l=false then 16 else if Hm l (CE l 0).grain≠0 then Hm l (CE l 0).grain
  else if Aq l=left then 0 else Hk (B9 [FQ l left]):=rfl
 have hX:Qb l left=if IT l left≠0 then⟨[],0,[]⟩else⟨(CE l 0).grain,left,EQ (l.map (Dc (CE l 0).grain))⟩:=rfl
 have hL:Qa l left=if IT l left≠0 then[]else if Aq l=left then[]else Iw (B9 [FQ l left]):=rfl
 have cW1:=Ku (decide (left<1)) 3;obtain⟨E0,hE0⟩:∃e:Nat,(if Be l≠0 then Be l else if left<1 then 3 else 0)=e:=⟨_,rfl⟩
 have cF0:AK C0 54 [.sl true 1 [i64 (Be l:Nat),i64 (if decide (left<1)then 3 else 0)]] (i64 (E0:Nat)):=by
  have:=NT [(Be l:Int),if decide (left<1)then 3 else 0] (by simp)
  have he:DP [(Be l:Int),if decide (left<1)then 3 else 0]=((E0:Nat):Int):=by
   rw[<-hE0]
   by_cases h1:Be l=0<;>by_cases h2:left<1<;>simp[DP,h1,h2]
  rw[he]at this;exact this
 rcases Nat.decEq E0 0 with g0|g0
 ·have e1:=Fr g0
  have hE2:IT l left=E0:=by
   rw[hE,<-hE0];split
   ·rfl
   ·rename_i h1
    rw[<-hE0,AG h1]at g0;split
    ·rfl
    ·rename_i h2;exact Aj (AG h2) g0
  rw[hE2]at hX hL⊢;rw[AH g0]at hX hL;rw[hX,hL];refine AN Ac e1 cP cW1 cF0 AB AB AB ?_;exact⟨_,Kc (QK _) (.nil 2),AA.out,rfl⟩
 have e1:=Fs g0;have hp0:Be l=0:=by
  apply DH;intro h;rw[AH h]at hE0;omega
 have hl1:¬left<1:=λh=>by
  rw[AG (λq=>q hp0),AH h]at hE0;omega
 rw[AG (λh=>h hp0),AG hl1]at hE;obtain⟨p1,p2,p3⟩:=Io hp0;have hsm:Lv l:=⟨by omega,λx hx=>by have:=M6 (p2 x hx);omega⟩
 have cT:=Xm b l hsm;have cG:=gE b l hl;have cW2:=Ku (decide (Aq l<left)) 13;obtain⟨E1,hE1⟩:∃e:Nat,(if Aq l<left then 13 else if D7 l=false then 16 else 0)=e:=⟨_,rfl⟩
 have cF1:AK C0 54 [.sl true 1 [i64 (if decide (Aq l<left)then 13 else 0),i64 (if D7 l then 0 else 16:Nat)]] (i64 (E1:Nat)):=by
  have:=NT [if decide (Aq l<left)then 13 else 0,((if D7 l then 0 else 16:Nat):Int)] (by simp)
  have he:DP [if decide (Aq l<left)then 13 else 0,((if D7 l then 0 else 16:Nat):Int)]=((E1:Nat):Int):=by
   rw[<-hE1]
   by_cases h1:Aq l<left<;>cases D7 l<;>simp[DP,h1]
  rw[he]at this;exact this
 rcases Nat.decEq E1 0 with g1|g1
 ·have e2:=Fr g1
  have hE2:IT l left=E1:=by
   rw[hE,<-hE1];split
   ·rfl
   ·rename_i h1
    rw[<-hE1,AG h1]at g1;split
    ·rfl
    ·rename_i h2;exact Aj (AG h2) g1
  rw[hE2]at hX hL⊢;rw[AH g1]at hX hL;rw[hX,hL];refine AN Ac e1 cP cW1 cF0 AB AB AB ?_;refine AN Ac e2 cT cW2 cG cF1 AB AB ?_;exact⟨_,Kc (QK _) (.nil 2),AA.out,rfl⟩
 have e2:=Fs g1;have hs1:¬Aq l<left:=λh=>by
  rw[AH h]at hE1;omega
 have hs2:¬D7 l=false:=λh=>by
  rw[AG hs1,AH h]at hE1;omega
 rw[AG hs1,AG hs2]at hE;have hl0:0<l.length:=by
  rcases l with _|⟨y,l⟩
  ·exfalso;apply hs1
   show(0:Int)<left;omega
  ·simp
 obtain⟨x0,hx0⟩:∃x,l[0]?=some x:=⟨_,BH hl0⟩
 have hm0:(l.map AF.D)[0]?=some (.agg [str (sb x0.grain),i64 x0.mass,.sl false 2 (x0.shs.map As.D)]):=by rw[BI,hx0];rfl
 have hgr:(CE l 0).grain=x0.grain:=by rw[FN hx0]
 have hg9:=(hf x0 (BE hx0)).1.1;have cPo:=af b l x0.grain hl hf hg9;rw[hgr]at hE hX;have hlt:FQ l left=⟨x0.grain,Aq l-left,EQ (l.map (Dc x0.grain))⟩:=by unfold FQ;rw[hgr]
 rw[hlt]at hE hL;obtain⟨PN,hPN⟩:∃n,Hm l x0.grain=n:=⟨_,rfl⟩
 rw[hPN]at hE cPo;rcases Nat.decEq PN 0 with g2|g2
 ·have e3:=Fr g2
  rw[AH g2]at hE;rw[hE]at hX hL⊢;rw[AH g2]at hX hL;rw[hX,hL];obtain⟨Z,hZ⟩:∃Z,Kq l x0.grain=Z:=⟨_,rfl⟩
  rw[hZ]at cPo;unfold AF.D CK at cPo;obtain⟨ZS,hZS⟩:∃d,List.map As.D Z.shs=d:=⟨_,rfl⟩
  have pZS:AA (.sl false 2 ZS):=by rw[<-hZS];exact AI
  rw[hZS]at cPo;refine AN Ac e1 cP cW1 cF0 AB AB AB ?_;refine AN Ac e2 cT cW2 cG cF1 AB AB ?_;refine AN Ac e3 hm0 cPo AB AB AB AB ?_;exact⟨_,Kc (QK _) (.nil 2),AA.out,rfl⟩
 have e3:=Fs g2;rw[AG (λh=>h g2)]at hE;have hpe:Gf l x0.grain=0:=by
  apply DH;intro h
  have:Hm l x0.grain=Gf l x0.grain:=AH h
  omega
 have hmn:GJ (l.map (Dc x0.grain))=0:=by
  have:Hm l x0.grain=GJ (l.map (Dc x0.grain)):=AG (λh=>h hpe)
  omega
 have hpl:Kq l x0.grain=⟨x0.grain,Aq l,EQ (l.map (Dc x0.grain))⟩:=by
  unfold Kq;rw[AG (λh=>h hpe),XB hmn]
  congr 1
  ·rw[FN (l:=l.map (Dc x0.grain)) (x:=Dc x0.grain x0) (by rw[BI,hx0];rfl)];rfl
  ·unfold Aq;rw[List.map_map];rfl
 obtain⟨m1,m2⟩:=lK (j0 hg9 hf) hmn;rw[hpl]at cPo;clear hpl hmn hpe hPN hlt;obtain⟨S,hS⟩:∃S,EQ (l.map (Dc x0.grain))=S:=⟨_,rfl⟩
 rw[hS]at cPo hE hX hL m1 m2;have ws:IntKind.i64.wrap (Aq l-left)=Aq l-left:=wI (by omega) (by omega);unfold AF.D at cPo;dsimp only at cPo;unfold CK at cPo;obtain⟨SD,hSD⟩:∃d,List.map As.D S=d:=⟨_,rfl⟩
 have pSD:AA (.sl false 2 SD):=by rw[<-hSD];exact AI
 rw[hSD]at cPo
 by_cases hz:Aq l=left
 ·have e4:((Aq l-left)==0)=true:=by rw[Dv];omega
  rw[AH hz]at hE;rw[hE]at hX hL⊢;rw[AG (λh=>h rfl)]at hX hL;rw[AH hz]at hL;rw[hX,hL];unfold AF.D;dsimp only;unfold CK;rw[hSD];refine AN Ac e1 cP cW1 cF0 AB AB AB ?_;refine AN Ac e2 cT cW2 cG cF1 AB AB ?_;refine AN Ac (Av e3 ws e4) hm0 cPo AB AB AB AB ?_;exact⟨_,Kc (.refl _) (.nil 2),AA.out,rfl⟩
 have e4:((Aq l-left)==0)=false:=by rw[Bw];omega
 rw[AG hz]at hE hL;have cO:=QA ⟨x0.grain,left,S⟩ (Aq l-left) (by dsimp only;omega);obtain⟨Y,hY⟩:∃Y:AF,(⟨x0.grain,Aq l-left,S⟩:AF)=Y:=⟨_,rfl⟩
 rw[hY]at cO hE hL;have hYo:∀x∈[Y],x.okW 602:=λx hx=>by
  rw[List.mem_singleton]at hx;rw[hx,<-hY];exact⟨m1,by unfold Sm;dsimp only;omega,λs hs=>⟨by have:=(m2 s hs).1;omega,(m2 s hs).2.1,(m2 s hs).2.2.1,(m2 s hs).2.2.2⟩⟩
 have cLo:=ZA 602 true [Y] (by simp) hYo (by omega) (by simp);have hKY:Gc (λk=>k.length<=1000) (64*[Y].length) (B9 [Y]):=RK λx hx=>by
  rw[List.mem_singleton]at hx;rw[hx,<-hY];exact⟨m1,λs hs=>(m2 s hs).1⟩
 change Ak C0 62 [.sl true 3 [.agg [str (sb Y.grain),i64 Y.mass,.sl false 2 (Y.shs.map As.D)]]] _ at cLo;change AK C0 63 [.agg [str (sb x0.grain),i64 left,.sl false 2 (S.map As.D)],i64 (Aq l-left)] (.agg [str (sb Y.grain),i64 Y.mass,.sl false 2 (Y.shs.map As.D)])at cO;obtain⟨YS,hYS⟩:∃d,Y.shs.map As.D=d:=⟨_,rfl⟩
 have pYS:AA (.sl false 2 YS):=by rw[<-hYS];exact AI
 rw[hSD,hYS]at cO;rw[hYS]at cLo;obtain⟨q,hq⟩:∃q,B9 [Y]=q:=⟨_,rfl⟩
 rw[hq]at cLo hKY hE hL;refine AN Ac e1 cP cW1 cF0 AB AB AB ?_;refine AN Ac e2 cT cW2 cG cF1 AB AB ?_;refine AN Ac (Av e3 ws e4) hm0 cPo cO AB AB AB ?_;refine A9.prop _ _ (EK.refl _) cLo AI ?_;rintro d ⟨m,rfl,hQ⟩;have cA:=WW _ (by simp) q m hQ (BQ hKY.len (by simp)) hKY.nd;have pM:AA (mapD m):=⟨hQ.mapD⟩
 unfold Iv at cA;obtain⟨M,hM⟩:∃M,mapD m=M:=⟨_,rfl⟩
 rw[hM]at cA pM⊢;rcases Nat.decEq (Hk q) 0 with g4|g4
 ·have e5:=Fr g4
  rw[hE]at hX hL⊢;rw[AH g4]at hX hL;rw[hX,hL];refine AN Ac e5 cA AB AB AB AB AB ?_;exact⟨_,Kc (QK _) (.nil 2),AA.out,rfl⟩
 have e5:=Fs g4;rw[hE]at hX hL⊢;rw[AG (λh=>h g4)]at hX hL;rw[hX,hL];unfold AF.D;dsimp only;unfold CK;rw[hSD];refine AN Ac e5 cA AB AB AB AB AB ?_;exact⟨_,.refl _,AA.out,by rw[g4];rfl⟩
def AF.modr (x:AF):Prop:=(x.shs.length<=15\/64<x.shs.length)/\x.lite
def IU (l:List AF):Int:=l.foldl (λa x=>IntKind.i64.wrap (a+x.mass)) 0
theorem RY {l:List AF}{i:Nat}{x:AF}(h:l[i]?=some x):IU (l.take (i+1))=IntKind.i64.wrap (IU (l.take i)+x.mass):=by
 unfold IU;rw[EB,h];simp
theorem PM {l:List AF}(hs:Lv l):IU l=Aq l:=by
 obtain⟨hl,hm⟩:=hs
 have:∀i,i<=l.length->IU (l.take i)=Aq (l.take i):=λi=>by
  induction i with
  |zero=>exact λ_=>rfl
  |succ i ih=>
   intro hi;obtain⟨x,hx⟩:=CO (show i<l.length by omega);have hb:=ST (l:=l.take i) λy hy=>hm y (Hy hy)
   have hxm:=hm x (BE hx);rw[Bj,Eh (by omega)]at hb;rw[RY hx,ih (by omega),Rm hx,wI (by omega) (by omega)]
 have:=this l.length (Ad _)
 rwa [DW]at this
theorem ZG (b:Bool)(l:List AF)(hl:l.length<=9223372036854775807):AK C0 19 [Ai b l] (i64 (IU l)):=by
 refine Ak.walk w1 re rfl λF=>?_
 have el:(((l.map AF.D).length:Nat):Int)=(l.length:Int):=by rw[Ap]
 refine AN Ac el AB AB AB AB AB AB ?_;refine AC.loop (α:=Nat×Nat) (λp=>⟨[(0,Ai b l),(3,i64 (IU (l.take p.1))),(4,i64 (p.1:Int))],[],p.2⟩) (λp=>l.length-p.1) (λp=>p.1<=l.length) (0,_) (BS _) AJ ?_;rintro⟨i,m⟩ F hi;dsimp only at hi⊢;rcases BL i l.length with h2|h2
 rotate_left
 ·have e1:=Cm h2
  have:i=l.length:=by omega
  subst this;rw[DW];refine AN Ac (Ae e1 el) AB AB AB AB AB AB ?_;exact AQ rfl AA.out
 have e1:=Cn h2;have wi:=Cp (i:=i) (by omega);obtain⟨x,hx⟩:=CO h2;have hm:(l.map AF.D)[i]?=some (.agg [str (sb x.grain),i64 x.mass,.sl false 2 (x.shs.map As.D)]):=by rw[BI,hx];rfl
 have ws:=(RY hx).symm;refine AN Ac (Cv e1 el wi ws kN) hm AB AB AB AB AB ?_;exact⟨(i+1,_),h2,by dsimp only;omega,AJ⟩
theorem aY (b:Bool)(l:List AF)(hs:Lv l):AK C0 19 [Ai b l] (i64 (Aq l)):=by
 have h:=ZG b l (by have:=hs.1;omega)
 rwa [PM hs]at h
theorem az (b:Bool)(l:List AF)(hl:l.length<=1000000)(hf:∀x∈l,x.modr):AK C0 14 [Ai b l] (i64 (Be l:Nat)):=by
 refine Ak.walk w1 r9 rfl λF=>?_
 have el:(((l.map AF.D).length:Nat):Int)=(l.length:Int):=by rw[Ap]
 have hC:Be l=if 64<l.length then 5 else if DV (λi=>CV (CE l i)) l.length≠0 then DV (λi=>CV (CE l i)) l.length else if Aq l>999999999 then 4 else 0:=rfl
 by_cases h64:64<l.length
 ·rw[AH h64]at hC
  rw[hC];have q2:decide ((l.length:Int)>64)=true:=AY (by omega);refine AN Ac (Ae el q2) AB AB AB AB AB AB ?_;exact AQ rfl AA.out
 rw[AG h64]at hC;have q2:decide ((l.length:Int)>64)=false:=Ah (by omega);refine AN Ac (Ae el q2) AB AB AB AB AB AB ?_;refine AC.loop (α:=Nat×Nat) (λp=>⟨[(0,Ai b l),(3,i64 (p.1:Int))],[],p.2⟩) (λp=>l.length-p.1) (λp=>p.1<=l.length/\∀j,j<p.1->CV (CE l j)=0) (0,_) ⟨BS _,λj h=>Aj h (HM j)⟩ AJ ?_;rintro⟨i,m⟩ F ⟨hi,hz⟩;dsimp only at hi hz⊢;rcases BL i l.length with h2|h2
 rotate_left
 ·have e1:=Cm h2
  have:i=l.length:=by omega
  subst this;rw[AG (λh=>h (LS (f:=λi=>CV (CE l i)) hz))]at hC;have cT:=aY b l (Ra h64 hz)
  by_cases h9:Aq l>999999999
  ·have e9:decide (Aq l>999999999)=true:=AY h9
   rw[AH h9]at hC;rw[hC];refine AN Ac (Av e1 el e9) cT AB AB AB AB AB ?_;exact AQ rfl AA.out
  ·have e9:decide (Aq l>999999999)=false:=Ah h9
   rw[AG h9]at hC;rw[hC];refine AN Ac (Av e1 el e9) cT AB AB AB AB AB ?_;exact AQ rfl AA.out
 have e1:=Cn h2;have wi:=Cp (i:=i) (by omega);obtain⟨x,hx⟩:=CO h2;have hm:(l.map AF.D)[i]?=some (.agg [str (sb x.grain),i64 x.mass,.sl false 2 (x.shs.map As.D)]):=by rw[BI,hx];rfl
 have hxm:=hf x (BE hx);have cL:=uQ x hxm.1 hxm.2.1;unfold AF.D at cL;rcases Nat.decEq (CV x) 0 with hc0|hc0
 ·have e3:=Fr hc0
  have:=NG (f:=λi=>CV (CE l i)) hz h2 (by rw[FN hx];exact hc0)
  rw[FN hx]at this;rw[this,AH hc0]at hC;rw[hC];refine AN Ac (Bk e1 el e3 kN) hm cL AB AB AB AB ?_;exact AQ rfl AA.out
 have e3:=Fs hc0;refine AN Ac (Cv e1 el e3 wi kN) hm cL AB AB AB AB ?_;exact⟨(i+1,_),⟨h2,λj hj=>by
  rcases Nat.lt_succ_iff_lt_or_eq.1 hj with q|q
  ·exact hz j q
  ·rw[q,FN hx];exact hc0⟩,by dsimp only;omega,AJ⟩
def Ge (x:AF):Bu:=x.shs.map λs=>(s.lot,CF s.part*(x.mass:Rat))
theorem Vr {x:AF}(hn:(x.shs.map (·.lot)).Nodup):∀j,j<=x.shs.length->Fm x j []=(Ge x).take j
 | 0,_=>rfl
 |j+1,hj=>by
  obtain⟨s,hs⟩:∃s,x.shs[j]?=some s:=⟨_,BH hj⟩
  rw[Ms x j [] hs,Vr hn j (by omega)];have hm:(Ge x)[j]?=some (s.lot,CF s.part*(x.mass:Rat)):=by unfold Ge;rw[BI,hs];rfl
  have hnot:s.lot∉Cb ((Ge x).take j):=λh=>by
   obtain⟨z,hz,h2⟩:=List.mem_map.1 h;obtain⟨i,hi⟩:=List.mem_iff_getElem?.1 hz;have hij:i<j:=by
    have:=(List.getElem?_eq_some_iff.1 hi).1
    rw[Bj]at this;omega
   rw[ET,AH hij]at hi;unfold Ge at hi;rw[BI]at hi;obtain⟨t,ht,rfl⟩:=Option.map_eq_some_iff.1 hi;have e1:(x.shs.map (·.lot))[i]?=some t.lot:=by rw[BI,ht];rfl
   have e2:(x.shs.map (·.lot))[j]?=some s.lot:=by rw[BI,hs];rfl
   have a1:=List.getElem?_eq_some_iff.1 e1;have a2:=List.getElem?_eq_some_iff.1 e2
   have:i=j:=(List.getElem_inj (h₀:=a1.1) (h₁:=a2.1) hn).1 (by rw[a1.2,a2.2];exact h2)
   omega
  have hl:FP s.lot ((Ge x).take j)=none:=by
   cases h9:FP s.lot ((Ge x).take j)with
   |none=>rfl
   |some o=>
    obtain⟨A,B,h3,-⟩:=Oy (v:=o) h9;exact Aj (by rw[h3];simp[Cb]) hnot
  unfold I8;rw[hl];dsimp only;rw[(Rf (v:=CF s.part*(x.mass:Rat)) hl).2,EB,hm];rfl
theorem fo {x:AF}(hn:(x.shs.map (·.lot)).Nodup):B9 [x]=Ge x:=by
 show Fm x x.shs.length []=_;rw[Vr hn _ (Ad _),B4];unfold Ge;rw[Ap];exact Ad _
theorem kt {q:Bu}(h:GT q):Ey q=q:=(RI h.nd (.refl _) (JV _) h.weak (Pi _)).symm
theorem lL (l:List AF):(EQ l).Pairwise λa b=>ltStr a.lot b.lot=true:=by
 unfold EQ;rw[List.pairwise_map,<-WQ];exact ib l
theorem R9 (l:List AF)(left:Int):B9 [FQ l left]=Ge (FQ l left)/\Ey (B9 [FQ l left])=Ge (FQ l left):=by
 have hp:(FQ l left).shs.Pairwise λa b=>ltStr a.lot b.lot=true:=lL _
 have h1:=fo (x:=FQ l left) (by
  rw[List.Nodup,List.pairwise_map];exact hp.imp λ{a b} h e=>by rw[e,swo_ltStr.irrefl]at h;cases h)
 refine⟨h1,?_⟩;rw[h1];refine kt ?_;unfold Ge;show List.Pairwise _ _;rw[List.pairwise_map];exact hp
theorem Zo (b:Bool)(l:List AF)(hl:l.length<=9223372036854775807)(hs:∀x∈l,x.shs.length<=9223372036854775807):AK C0 9 [Ai b l] (Au (Hh l)):=by
 refine Ak.walk w1 tW rfl λF=>?_
 have el:(((l.map AF.D).length:Nat):Int)=(l.length:Int):=by rw[Ap]
 refine AN Ac el AB AB AB AB AB AB ?_;refine AC.loop (α:=Nat×Nat) (λp=>⟨[(0,Ai b l),(7,Ai b l),(8,i64 (l.length:Int)),(9,i64 (p.1:Int))],[],p.2⟩) (λp=>l.length-p.1) (λq=>q.1<=l.length/\(l.take q.1).all AF.shB=true) (0,_) ⟨BS _,rfl⟩ AJ ?_;rintro⟨i,n⟩ F ⟨hi,ha⟩;dsimp only at hi ha⊢;rcases BL i l.length with h2|h2
 rotate_left
 ·have e1:=Cm h2
  have:i=l.length:=by omega
  subst this;rw[DW]at ha;obtain⟨q1,h1⟩:∃q,decide ((l.length:Int)<=8)=q:=⟨_,rfl⟩
  obtain⟨q2,h2'⟩:∃q,decide ((l.length:Int)>64)=q:=⟨_,rfl⟩
  obtain⟨q3,h3⟩:∃q,decide ((l.length:Int)<=80)=q:=⟨_,rfl⟩
  have hb:Hh l=(q1||(q2&&q3)):=by
   unfold Hh;rw[ha,<-h1,<-h2',<-h3,IZ]
   congr 1
   ·exact C4.2 (by omega)
   ·congr 1
    ·exact C4.2 (by omega)
    ·exact C4.2 (by omega)
  rw[hb];cases q1<;>cases q2<;>cases q3
  all_goals
   refine AN Ac (Cj e1 el h1 h2' h3 kT kF) AB AB AB AB AB AB ?_;exact AQ rfl AA.out
 have e1:=Cn h2;have wi:=Cp (i:=i) (by omega);obtain⟨x,hx⟩:=CO h2;have hm:(l.map AF.D)[i]?=some (.agg [str (sb x.grain),i64 x.mass,.sl false 2 (x.shs.map As.D)]):=by rw[BI,hx];rfl
 have hsx:=hs x (BE hx);have ex:(((x.shs.map As.D).length:Nat):Int)=(x.shs.length:Int):=by rw[Ap]
 have hsz:=CX x.grain;obtain⟨p1,h1⟩:∃q,decide ((x.grain.length:Int)>100)=q:=⟨_,rfl⟩
 obtain⟨p2,h2'⟩:∃q,decide ((x.shs.length:Int)>8)=q:=⟨_,rfl⟩
 obtain⟨p3,h3⟩:∃q,decide ((x.shs.length:Int)<=64)=q:=⟨_,rfl⟩
 obtain⟨p4,h4⟩:∃q,decide ((x.shs.length:Int)>80)=q:=⟨_,rfl⟩
 have hb:x.shB=(!p1&&(!p2 || !p3) && !p4&&x.shs.all As.shB):=by
  unfold AF.shB;rw[<-h1,<-h2',<-h3,<-h4]
  congr 1
  congr 1
  ·congr 1
   ·rw[<-decide_not];exact C4.2 (by omega)
   ·congr 1
    ·rw[<-decide_not];exact C4.2 (by omega)
    ·rw[<-decide_not];exact C4.2 (by omega)
  ·rw[<-decide_not];exact C4.2 (by omega)
 by_cases g:(!p1&&(!p2 || !p3) && !p4)=true
 rotate_left
 ·have hbf:x.shB=false:=by rw[hb];simp only[Bool.not_eq_true]at g;rw[g];rfl
  have hsf:Hh l=false:=by unfold Hh;rw[SK hx hbf];rfl
  rw[hsf];cases p1<;>cases p2<;>cases p3<;>cases p4
  all_goals first
   |exact Aj rfl g
   |skip
  all_goals
   refine AN Ac (Cj e1 hsz ex h1 h2' h3 (Bk h4 kN kT kF)) hm AB AB AB AB AB ?_;exact AQ rfl AA.out
 rw[g,IZ]at hb;cases p1<;>cases p2<;>cases p3<;>cases p4
 all_goals first
  |exact Aj g (by decide)
  |skip
 all_goals
  refine AN Ac (Cj e1 hsz ex h1 h2' h3 (Bk h4 kN kT kF)) hm AB AB AB AB AB ?_;refine AC.loop (α:=Nat×Nat) (λp=>⟨[(0,Ai b l),(7,Ai b l),(8,i64 (l.length:Int)),(9,i64 (i:Int)),(36,.sl false 2 (x.shs.map As.D)),(37,i64 (x.shs.length:Int)),(38,i64 (p.1:Int))],[],p.2⟩) (λp=>x.shs.length-p.1) (λq=>q.1<=x.shs.length/\(x.shs.take q.1).all As.shB=true) (0,_) ⟨BS _,rfl⟩ AJ ?_;clear h1 h2' h3 h4 g;rintro⟨j,n⟩ F ⟨hj,haj⟩;dsimp only at hj haj⊢;rcases BL j x.shs.length with g2|g2
  ·have e3:=Cn g2
   have wj:=Cp (i:=j) (by omega);obtain⟨y,hy⟩:=CO g2;have hmy:(x.shs.map As.D)[j]?=some (.agg [str (sb y.lot),str (sb y.part)]):=by rw[BI,hy];rfl
   have hs1:=CX y.lot;have hs2:=CX y.part;obtain⟨r1,k1⟩:∃q,decide ((y.lot.length:Int)>100)=q:=⟨_,rfl⟩
   obtain⟨r2,k2⟩:∃q,decide ((y.part.length:Int)>14)=q:=⟨_,rfl⟩
   have hby:y.shB=(!r1 && !r2):=by
    unfold As.shB;rw[<-k1,<-k2]
    congr 1
    ·rw[<-decide_not];exact C4.2 (by omega)
    ·rw[<-decide_not];exact C4.2 (by omega)
   have fin:y.shB=false->Hh l=false:=λh=>by
    have:x.shB=false:=by rw[hb,SK hy h]
    unfold Hh;rw[SK hx this];rfl
   cases r1
   ·cases r2
    ·refine AN Ac (Cj e3 wj hs1 hs2 k1 k2 (Av kN kT kF)) hmy AB AB AB AB AB ?_
     exact⟨(j+1,_),⟨g2,WB hy haj hby⟩,by dsimp only;omega,AJ⟩
    ·rw[fin hby]
     refine AN Ac (Cj e3 wj hs1 hs2 k1 k2 (Av kN kT kF)) hmy AB AB AB AB AB ?_;exact AQ rfl AA.out
   ·rw[fin hby]
    refine AN Ac (Cj e3 wj hs1 hs2 k1 kN (Ae kT kF)) hmy AB AB AB AB AB ?_;exact AQ rfl AA.out
  ·have e3:=Cm g2
   have:j=x.shs.length:=by omega
   subst this;rw[DW]at haj;refine AN Ac (Ae e3 wi) AB AB AB AB AB AB ?_;exact⟨(i+1,_),⟨h2,WB hx ha (hb.trans haj)⟩,by dsimp only;omega,AJ⟩
theorem XO {l:List AF}(h:Hh l=true):(∀x∈l,x.lite/\x.modr)/\l.length<=80/\(l.length<=8\/64<l.length):=by
 unfold Hh at h;simp only[BY,MW,CQ,Gp]at h;obtain⟨h1,h2⟩:=h;refine⟨λx hx=>?_,by omega,by omega⟩;have hb:=h1 x hx;unfold AF.shB at hb;simp only[BY,MW,CQ,Gp]at hb;obtain⟨⟨⟨b1,b2⟩,b3⟩,b4⟩:=hb;have hs:∀s∈x.shs,s.lot.length<=100/\s.part.length<=14:=λs hs=>by
  have:=b4 s hs
  unfold As.shB at this;simpa using this
 have hl:x.lite:=⟨⟨by omega,by omega,λs q=>⟨by have:=(hs s q).1;omega,by have:=(hs s q).2;omega⟩⟩,λs q=>⟨by have:=(hs s q).1;omega,by have:=(hs s q).2;omega⟩⟩
 exact⟨hl,by omega,hl⟩
theorem Jh {l:List AF}(h:Be l=0):l.length<=64/\(∀x∈l,1<=x.mass/\x.mass<=1000000000/\x.shs.length<=1000000)/\Lv l:=by
 obtain⟨g1,g2,g3⟩:=Io h;have hx:∀x∈l,1<=x.mass/\x.mass<=1000000000/\x.shs.length<=1000000:=λx q=>by
  obtain⟨a,b,c,d⟩:=M6 (g2 x q)
  have:=(VK d).2.1
  exact⟨by omega,by omega,by omega⟩
 exact⟨g1,hx,by omega,λx q=>by have:=hx x q;omega⟩
theorem TQ (b:Bool)(l:List AF)(hl:l.length<=9223372036854775807):AK C0 59 [Ai b l] (i64 (IU l)):=by
 refine Ak.walk w1 TJ rfl λF=>?_
 have el:(((l.map AF.D).length:Nat):Int)=(l.length:Int):=by rw[Ap]
 refine AN Ac el AB AB AB AB AB AB ?_;refine AC.loop (α:=Nat×Nat) (λp=>⟨[(3,i64 (IU (l.take p.1))),(6,Ai b l),(7,i64 (l.length:Int)),(8,i64 (p.1:Int))],[],p.2⟩) (λp=>l.length-p.1) (λp=>p.1<=l.length) (0,_) (BS _) AJ ?_;rintro⟨i,m⟩ F hi;dsimp only at hi⊢;rcases BL i l.length with h2|h2
 rotate_left
 ·have e1:=Cm h2
  have:i=l.length:=by omega
  subst this;rw[DW];refine AN Ac e1 AB AB AB AB AB AB ?_;exact AQ rfl AA.out
 have e1:=Cn h2;have wi:=Cp (i:=i) (by omega);obtain⟨x,hx⟩:=CO h2;have hm:(l.map AF.D)[i]?=some (.agg [str (sb x.grain),i64 x.mass,.sl false 2 (x.shs.map As.D)]):=by rw[BI,hx];rfl
 have wS:=(RY hx).symm;refine AN Ac (Bk e1 wi @wS kN) hm AB AB AB AB AB ?_;exact⟨(i+1,_),h2,by dsimp only;omega,AJ⟩
theorem NQ:∀ {l:List AF},(∀x∈l,0<=x.mass)->0<=Aq l
 | [],_=>Int.le_refl _
 |x::l,h=>by
  have h1:=h x (CH ..);have h2:=NQ λy hy=>h y (CN _ hy)
  have:Aq (x::l)=x.mass+Aq l:=by unfold Aq;rfl
  omega
abbrev SP:Dr:=[(1,[0,1,2,3,4,5,6],[7]),(9,[0,1,2,3,4],[5,6])]
open Go.Proofs Go.RowKit
set_option maxRecDepth 20000
set_option maxHeartbeats 4000000
def IV:List AF->Int->Int->List AF
 | [],_,_=>[]
 |x::r,low,left=>x.w (min (x.mass-min x.mass low) left)::IV r (low-min x.mass low) (left-min (x.mass-min x.mass low) left)
structure T9 where
 o:List AF
 low:Int
 left:Int
 g:Nat
def I5 (g1 g2:Nat)(p:T9):Hp:=DZ 905 p.g 27 3 (p.o.map AF.D)++[⟨200,g2,22,1,[Dg 905 p.g 3 (p.o.map AF.D)]⟩,⟨106,g1,3,1,[i64 p.left]⟩,⟨0,0,3,1,[i64 p.low]⟩]
theorem Wy (g1 g2:Nat)(a b:Int)(g:Nat):I5 g1 g2 ⟨[],a,b,g⟩=[⟨200,g2,22,1,[CD]⟩,⟨106,g1,3,1,[i64 b]⟩,⟨0,0,3,1,[i64 a]⟩]:=rfl
theorem O8 (g1 g2:Nat)(z:AF)(o:List AF)(a b:Int)(g:Nat):I5 g1 g2 ⟨z::o,a,b,g⟩=[⟨905,g,27,3,z.D::o.map AF.D⟩,⟨200,g2,22,1,[.osl 905 g 3 0 ((o.map AF.D).length+1)]⟩,⟨106,g1,3,1,[i64 b]⟩,⟨0,0,3,1,[i64 a]⟩]:=rfl
def Nr (L:List AF)(low left:Int)(k:Nat)(p:T9):Prop:=p.o.length=k/\p.o++IV (L.drop k) p.low p.left=IV L low left/\0<=p.low/\p.low<=1000000000000/\0<=p.left/\p.left<=1000000000000000
theorem Ud (b:Bool)(l:List AF)(low high:Int)(hl:l.length<=1000000)(h1:0<=low/\low<=1000000000000)(h2:0<=high/\high<=1000000000000)(t:Int)(ht:low+high<=t/\t<=1000000000000000)(hx:∀x∈l,0<=x.mass/\x.mass<=1000000000)
  (cT:AK C0 59 [Ai b l] (i64 t))
  (ho:∀x∈l,∀m,AK C0 63 [x.D,i64 m] (x.w m).D) (R:D) [pR:AA R] (hN:AK C0 84 [Ai false (IV l low (t-low-high))] R):
  AK C0 92 [Ai b l,i64 low,i64 high] R:=by
 refine Ak.walk w1 aW rfl λF=>?_
 have cV:=Ru b false (l.map AF.D);have hT:∀x∈l.map AF.D,∃a c d,x=.agg [a,c,d]:=λx hx=>by
  obtain⟨y,-,rfl⟩:=List.mem_map.1 hx;exact⟨_,_,_,rfl⟩
 have hoA:∀k,k<l.length->∃y,y∈l/\l[k]?=some y/\(l.map AF.D)[if false then(l.map AF.D).length-1-k else k]?=some y.D:=λk hk=>⟨_,List.getElem_mem hk,BH hk,by
  show(l.map AF.D)[k]?=_;rw[BI,BH hk];rfl⟩
 unfold Ai at cT⊢;obtain⟨T,hTT⟩:∃T,l.map AF.D=T:=⟨_,rfl⟩
 have pT:AA (.sl b 3 T):=by rw[<-hTT];exact AI
 have hTl:T.length=l.length:=by rw[<-hTT,Ap]
 rw[hTT]at cV hT hoA cT⊢;have w1':IntKind.i64.wrap (t-low)=t-low:=wI (by omega) (by omega);have w2:IntKind.i64.wrap (t-low-high)=t-low-high:=wI (by omega) (by omega);obtain⟨e,he⟩:∃e,t-low-high=e:=⟨_,rfl⟩
 have w2':IntKind.i64.wrap (t-low-high)=e:=by rw[w2,he]
 rw[he]at hN;have he0:0<=e/\e<=1000000000000000:=by omega
 refine AN SP (Ae w1' w2') cT cV AB AB AB AB ?_;have h0:Nr l low e 0 ⟨[],low,e,0⟩:=⟨rfl,rfl,h1.1,h1.2,he0.1,he0.2⟩
 refine AC.rangeFunc (fi:=185) (first:=[]) (captured:=[.pptr (.sl b 3 T),.pptr (Au false)]) (Ψ:=λj _ H' _=>(j=none/\∃a,Nr l low e T.length a/\H'=I5 8 11 a)\/(j=some (.exit 0)/\False)) rfl
  (λds H n Φ=>∃k a x,Nr l low e k a/\k<T.length/\T[if false then T.length-1-k else k]?=some x/\ds=[x]/\H=I5 8 11 a/\Φ=λj H' _=>(j=none/\∃a',Nr l low e (k+1) a'/\CU H' (I5 8 11 a') H' (I5 8 11 a'))\/(j=some (.exit 0)/\False)) ?_
  (λE l' R' hE hY=>Ta hE b false T hT (by omega) (λ_ a=>I5 8 11 a) (Nr l low e) (.exit 0) (λ_=>False) ⟨[],low,e,0⟩ h0 _ λk a x n hP hk hx=>hY _ _ _ _ ⟨k,a,x,hP,hk,hx,rfl,rfl,rfl⟩) ?_
 ·rintro l' ds H n Φ ⟨k,⟨o,lw,lf,g⟩,x,⟨p1,p2,p3,p4,p6,p7⟩,hk,hxT,rfl,rfl,rfl⟩
  dsimp only at p1 p2 p3 p4 p6 p7;obtain⟨y,hy1,hy2,hy3⟩:=hoA k (by omega);rw[hy3]at hxT;cases hxT;have hd:l.drop k=y::l.drop (k+1):=by
   have:=(List.getElem?_eq_some_iff.1 hy2)
   rw[D9 this.1,this.2]
  rw[hd]at p2;have hb:=hx y hy1;have cO:=ho y hy1 (min (y.mass-min y.mass lw) lf);have p5:(o++[y.w (min (y.mass-min y.mass lw) lf)])++IV (l.drop (k+1)) (lw-min y.mass lw) (lf-min (y.mass-min y.mass lw) lf)=IV l low e:=by
   rw[<-p2,Dm];rfl
  have a1:IntKind.i64.wrap (lw-min y.mass lw)=lw-min y.mass lw:=wI (by omega) (by omega);have a2:IntKind.i64.wrap (y.mass-min y.mass lw)=y.mass-min y.mass lw:=wI (by omega) (by omega);have a3:IntKind.i64.wrap (lf-min (y.mass-min y.mass lw) lf)=lf-min (y.mass-min y.mass lw) lf:=wI (by omega) (by omega);have q1:0<=lw-min y.mass lw/\lw-min y.mass lw<=1000000000000/\0<=lf-min (y.mass-min y.mass lw) lf/\lf-min (y.mass-min y.mass lw) lf<=1000000000000000:=by omega
  refine⟨rfl,λF=>?_⟩;unfold AF.w AF.D at cO;unfold AF.D;dsimp only at cO⊢;obtain⟨SD,hSD⟩:∃d,CK false y.shs=d:=⟨_,rfl⟩
  have pS:AA SD:=by rw[<-hSD];exact AI
  rw[hSD]at cO⊢;rcases o with _|⟨z,o⟩
  ·rw[Wy]
   dsimp only[GE];refine An w1 400 (by kernel_rfl) ?_;refine AE kB ?_;refine⟨trivial,trivial,λF'=>?_⟩;refine AN SP (Av a1 a2 a3) cO AB AB AB AB AB ?_;refine .inl ⟨rfl,⟨[y.w (min (y.mass-min y.mass lw) lf)],lw-min y.mass lw,lf-min (y.mass-min y.mass lw) lf,n+1+1+1+1+1+1+1+1+1+1+1+1+1+1+1+1+1+1+1+1+1+1+7⟩,⟨by rw[<-p1];rfl,p5,q1⟩,?_⟩;rw[O8,<-hSD];exact .keep (.drop (GX _))
  ·have hol:o.length<=1000000:=by rw[Bl]at p1;omega
   rw[O8];dsimp only[GE];obtain⟨O,hO⟩:∃O,o.map AF.D=O:=⟨_,rfl⟩
   obtain⟨zD,hzD⟩:∃O,z.D=O:=⟨_,rfl⟩
   have hOl:O.length=o.length:=by rw[<-hO,Ap]
   rw[hO,hzD];refine An w1 400 (by kernel_rfl) ?_;refine AE kB ?_;refine⟨trivial,trivial,λF'=>?_⟩;refine AN SP (Av a1 a2 a3) cO AB AB AB AB AB ?_;rw[show List.take (O.length+1) (zD::O)=zD::O from DW (l:=zD::O)];refine .inl ⟨rfl,⟨z::o++[y.w (min (y.mass-min y.mass lw) lf)],lw-min y.mass lw,lf-min (y.mass-min y.mass lw) lf,n+1+1+1+1+1+1+1+1+1+1+1+1+1+1+1+1+1+1+1+1+1+1+7⟩,⟨by rw[<-p1];simp,p5,q1⟩,?_⟩;have hs:∀g' a b,I5 8 11 ⟨z::o++[y.w (min (y.mass-min y.mass lw) lf)],a,b,g'⟩=[⟨905,g',27,3,zD::O++[.agg [str (sb y.grain),i64 (min (y.mass-min y.mass lw) lf),SD]]⟩,⟨200,11,22,1,[.osl 905 g' 3 0 (O.length+1+1)]⟩,⟨106,8,3,1,[i64 b]⟩,⟨0,0,3,1,[i64 a]⟩]:=λg' a b=>by
    rw[ES,O8,<-hO,<-hzD,<-hSD,Cu];rw[Bf];rfl
   rw[hs];exact .keep (.drop (GX _))
 ·rintro j d H' n' F' hE
  rcases hE with⟨rfl,⟨o,lw,lf,g⟩,⟨p1,p2,-⟩,rfl⟩|⟨-,h⟩
  rotate_left
  ·exact h.elim
  dsimp only at p2;rw[List.drop_eq_nil_of_le (by omega)]at p2;have ho2:o=IV l low e:=by rw[<-p2];exact(DE o).symm
  rw[<-ho2]at hN;rcases o with _|⟨z,o⟩
  ·rw[Wy]
   change AC _ _ _ _ _ _ _;refine sR 1000 ?_;refine A9.pure [.sl false 3 []] _ ⟨.nil 3,trivial⟩ hN AI ?_;refine BN ?_;refine Af ?_;exact AQ rfl pR.out
  ·have hR:=Fc (H:=I5 8 11 ⟨z::o,lw,lf,g⟩) (Hf:=[]) (k:=905) (g:=g) (T:=27) (sz:=3) (l:=(z::o).map AF.D) rfl
   have hle:((z::o).map AF.D).length=(o.map AF.D).length+1:=rfl;rw[hle]at hR;rw[O8]at hR⊢;change AC _ _ _ _ _ _ _;refine sR 1000 ?_;refine A9.own _ (MP [] hN (.drop (.drop (.drop (.drop .nil)))) ⟨hR,trivial⟩ AI) ?_;rintro d H2 n2 ⟨rfl,rfl,rfl⟩;refine BN ?_;refine Af ?_;exact AQ rfl pR.out
def Pv (lot:List UInt8)(x:AF):Bool:=x.shs.any λs=>Bh (sb s.lot) (sb lot)
def KL (lot:List UInt8):List AF->Int->List (Int×Int)
 | [],_=>[]
 |x::r,n=>(if Pv lot x then[(n+1,n+x.mass)]else[])++KL lot r (n+x.mass)
def FL (p:Int×Int):D:=.agg [i64 p.1,i64 p.2]
instance  (p:Int×Int):Al (FL p):=by unfold FL;exact AI
instance  (p:Int×Int):AA (FL p):=by unfold FL;exact AI
theorem th (lot:List UInt8)(s:As):AK C0 187 [s.D,.pptr (str (sb lot))] (Au (Bh (sb s.lot) (sb lot))):=by
 refine Ak.walk w1 Y5 rfl λF=>?_
 unfold As.D;refine AN Ac kB AB AB AB AB AB AB ?_;exact AQ rfl AA.out
theorem tH (b:Bool)(l:List As)(c:D)[pc:AA c](p:As->Bool)(hl:l.length<=1000000)(hc:∀x∈l,AK C0 187 [x.D,c] (Au (p x))):AK C0 233 [CK b l,.clo (.func 187) [] [c]] (i64 (J3 p l)):=by
 refine Ak.walk w1 YZ rfl λF=>?_
 have el:(((l.map As.D).length:Nat):Int)=(l.length:Int):=by rw[Ap]
 refine AN Ac el AB AB AB AB AB AB ?_;refine AC.loop (α:=Nat×Nat) (λp=>⟨[(0,CK b l),(1,.clo (.func 187) [] [c]),(7,i64 l.length),(8,i64 (p.1:Int))],[],p.2⟩) (λp=>l.length-p.1) (λq=>q.1<=l.length/\∀(j:Nat) (x:As),j<q.1->l[j]?=some x->p x=false) (0,_) ⟨BS _,λj x hj=>Aj hj (HM j)⟩ AJ ?_;rintro⟨i,n⟩ F ⟨hi,ha⟩;dsimp only at hi ha⊢;rcases BL i l.length with h2|h2
 rotate_left
 ·have e1:=Cm h2
  have:i=l.length:=by omega
  subst this;refine AN Ac e1 AB AB AB AB AB AB ?_;exact AQ (by rw[Vd ha]) AA.out
 have e1:=Cn h2;have wi:=Cp (i:=i) (by omega);obtain⟨x,hx⟩:=CO h2;have hm:(l.map As.D)[i]?=some (.agg [str (sb x.lot),str (sb x.part)]):=by rw[BI,hx];rfl
 have cn:=hc x (BE hx);unfold As.D at cn;cases hb:p x
 ·rw[hb]at cn
  refine AN Ac (Av e1 wi kN) hm cn AB AB AB AB ?_;refine⟨(i+1,_),⟨h2,λj z hj hjz=>?_⟩,by dsimp only;omega,AJ⟩;rcases BL j i with h|h
  ·exact ha j z h hjz
  ·have:j=i:=by dsimp only at hj;omega
   subst this;rw[hx]at hjz;cases hjz;exact hb
 ·rw[hb]at cn
  refine AN Ac (Av e1 wi kN) hm cn AB AB AB AB ?_;exact AQ (by rw[Wo hx hb ha]) AA.out
theorem tE (b:Bool)(l:List As)(c:D)[pc:AA c](p:As->Bool)(hl:l.length<=1000000)(hc:∀x∈l,AK C0 187 [x.D,c] (Au (p x))):AK C0 186 [CK b l,.clo (.func 187) [] [c]] (Au (l.any p)):=by
 refine Ak.walk w1 Y4 rfl λF=>?_
 have c1:=tH b l c p hl hc;have e1:=Wp p l;refine AN Ac e1 c1 AB AB AB AB AB ?_;exact AQ rfl AA.out
structure UC where
 o:List (Int×Int)
 n:Int
 g:Nat
def JN (lot:List UInt8)(g1 g2:Nat)(p:UC):Hp:=DZ 609 p.g 132 2 (p.o.map FL)++[⟨200,g2,3,1,[i64 p.n]⟩,⟨100,g1,130,1,[Dg 609 p.g 2 (p.o.map FL)]⟩,⟨0,0,9,1,[str (sb lot)]⟩]
theorem XX (lot:List UInt8)(g1 g2:Nat)(n:Int)(g:Nat):JN lot g1 g2 ⟨[],n,g⟩=[⟨200,g2,3,1,[i64 n]⟩,⟨100,g1,130,1,[CD]⟩,⟨0,0,9,1,[str (sb lot)]⟩]:=rfl
theorem PK (lot:List UInt8)(g1 g2:Nat)(z:Int×Int)(o:List (Int×Int))(n:Int)(g:Nat):JN lot g1 g2 ⟨z::o,n,g⟩=[⟨609,g,132,2,FL z::o.map FL⟩,⟨200,g2,3,1,[i64 n]⟩,⟨100,g1,130,1,[.osl 609 g 2 0 ((o.map FL).length+1)]⟩,⟨0,0,9,1,[str (sb lot)]⟩]:=rfl
def N6 (lot:List UInt8)(l:List AF)(k:Nat)(p:UC):Prop:=p.o.length<=k/\p.o++KL lot (l.drop k) p.n=KL lot l 0/\0<=p.n/\p.n<=(k:Int)*1000000000
theorem cQ (b:Bool)(l:List AF)(lot:List UInt8)(hl:l.length<=1000000)(hx:∀x∈l,0<=x.mass/\x.mass<=1000000000/\x.shs.length<=1000000):
  AK C0 142 [Ai b l,str (sb lot)] (.sl false 2 ((KL lot l 0).map FL)):=by
 refine Ak.walk w1 Yn rfl λF=>?_
 have cV:=Ru b false (l.map AF.D);have hT:∀x∈l.map AF.D,∃a c d,x=.agg [a,c,d]:=λx hx=>by
  obtain⟨y,-,rfl⟩:=List.mem_map.1 hx;exact⟨_,_,_,rfl⟩
 have hoA:∀k,k<l.length->∃y,y∈l/\l[k]?=some y/\(l.map AF.D)[if false then(l.map AF.D).length-1-k else k]?=some y.D:=λk hk=>⟨_,List.getElem_mem hk,BH hk,by
  show(l.map AF.D)[k]?=_;rw[BI,BH hk];rfl⟩
 unfold Ai;obtain⟨T,hTT⟩:∃T,l.map AF.D=T:=⟨_,rfl⟩
 have pT:AA (.sl b 3 T):=by rw[<-hTT];exact AI
 have hTl:T.length=l.length:=by rw[<-hTT,Ap]
 rw[hTT]at cV hT hoA⊢;refine AN Ac kB cV AB AB AB AB AB ?_;have h0:N6 lot l 0 ⟨[],0,0⟩:=⟨Ad _,rfl,Int.le_refl _,Int.le_refl _⟩
 refine AC.rangeFunc (fi:=185) (first:=[]) (captured:=[.pptr (.sl b 3 T),.pptr (Au false)]) (Ψ:=λj _ H' _=>(j=none/\∃a,N6 lot l T.length a/\H'=JN lot 2 3 a)\/(j=some (.exit 0)/\False)) rfl
  (λds H n Φ=>∃k a x,N6 lot l k a/\k<T.length/\T[if false then T.length-1-k else k]?=some x/\ds=[x]/\H=JN lot 2 3 a/\Φ=λj H' _=>(j=none/\∃a',N6 lot l (k+1) a'/\CU H' (JN lot 2 3 a') H' (JN lot 2 3 a'))\/(j=some (.exit 0)/\False)) ?_
  (λE l' R' hE hY=>Ta hE b false T hT (by omega) (λ_ a=>JN lot 2 3 a) (N6 lot l) (.exit 0) (λ_=>False) ⟨[],0,0⟩ h0 _ λk a x n hP hk hx=>hY _ _ _ _ ⟨k,a,x,hP,hk,hx,rfl,rfl,rfl⟩) ?_
 ·rintro l' ds H n Φ ⟨k,⟨o,nn,g⟩,x,⟨p1,p2,p3,p4⟩,hk,hxT,rfl,rfl,rfl⟩
  dsimp only at p1 p2 p3 p4;obtain⟨y,hy1,hy2,hy3⟩:=hoA k (by omega);rw[hy3]at hxT;cases hxT;have hd:l.drop k=y::l.drop (k+1):=by
   have:=(List.getElem?_eq_some_iff.1 hy2)
   rw[D9 this.1,this.2]
  rw[hd]at p2;have hb:=hx y hy1;have cH:=tE false y.shs (.pptr (str (sb lot))) (λs=>Bh (sb s.lot) (sb lot)) hb.2.2 λs _=>th lot s
  have hK:(y.shs.any λs=>Bh (sb s.lot) (sb lot))=Pv lot y:=rfl;rw[hK]at cH;have p5:(o++(if Pv lot y then[(nn+1,nn+y.mass)]else[]))++KL lot (l.drop (k+1)) (nn+y.mass)=KL lot l 0:=by
   rw[<-p2,Dm];rfl
  obtain⟨K,hKK⟩:∃K,Pv lot y=K:=⟨_,rfl⟩
  rw[hKK]at cH p5;have a1:IntKind.i64.wrap (nn+y.mass)=nn+y.mass:=wI (by omega) (by omega);have a2:IntKind.i64.wrap (nn+1)=nn+1:=wI (by omega) (by omega);have q1:0<=nn+y.mass/\nn+y.mass<=((k+1:Nat):Int)*1000000000:=by omega
  refine⟨rfl,λF=>?_⟩;unfold AF.D;unfold CK at cH⊢;obtain⟨SD,hSD⟩:∃d,y.shs.map As.D=d:=⟨_,rfl⟩
  have pS:AA (.sl false 2 SD):=by rw[<-hSD];exact AI
  rw[hSD]at cH⊢;rcases o with _|⟨z,o⟩
  ·rw[XX]
   dsimp only[GE];refine An w1 400 (by kernel_rfl) ?_;refine AE kB ?_;refine⟨trivial,trivial,λF'=>?_⟩;refine AN Ac kB AB AB AB AB AB AB ?_;refine A9.own _ (MR cH rfl (λi a d h1 h2=>by
    match i with
    | 0=>cases h1;cases h2;exact .refl _ _
    | 1=>cases h1;cases h2;exact .clo1 (.ptr rfl rfl rfl rfl)
    |n+2=>cases h1) AI (.prim _)) ?_
   rintro d H' n' ⟨rfl,rfl,rfl⟩;cases K
   ·refine AN Ac (Ae a1 a2) AB AB AB AB AB AB ?_
    exact .inl ⟨rfl,⟨[],nn+y.mass,0⟩,⟨BS _,p5,q1⟩,.drop (GX _)⟩
   ·refine AN Ac (Ae a1 a2) AB AB AB AB AB AB ?_
    exact .inl ⟨rfl,⟨[(nn+1,nn+y.mass)],nn+y.mass,n+1+1+1+1+1+1+1+1+1+1+1+1+1+1+1⟩,⟨by simp,p5,q1⟩,.keep (.drop (GX _))⟩
  ·have hol:o.length<=1000000:=by rw[Bl]at p1;omega
   rw[PK];dsimp only[GE];obtain⟨O,hO⟩:∃O,o.map FL=O:=⟨_,rfl⟩
   obtain⟨zD,hzD⟩:∃O,FL z=O:=⟨_,rfl⟩
   have hOl:O.length=o.length:=by rw[<-hO,Ap]
   rw[hO,hzD];refine An w1 400 (by kernel_rfl) ?_;refine AE kB ?_;refine⟨trivial,trivial,λF'=>?_⟩;refine AN Ac kB AB AB AB AB AB AB ?_;refine A9.own _ (MR cH rfl (λi a d h1 h2=>by
    match i with
    | 0=>cases h1;cases h2;exact .refl _ _
    | 1=>cases h1;cases h2;exact .clo1 (.ptr rfl rfl rfl rfl)
    |n+2=>cases h1) AI (.prim _)) ?_
   rintro d H' n' ⟨rfl,rfl,rfl⟩;cases K
   ·refine AN Ac (Ae a1 a2) AB AB AB AB AB AB ?_
    refine .inl ⟨rfl,⟨z::o,nn+y.mass,g⟩,⟨Nat.le_succ_of_le p1,by rw[<-p5,AG Bool.false_ne_true,DE],q1⟩,?_⟩;rw[PK,hO,hzD];exact .drop (GX _)
   ·refine AN Ac (Ae a1 a2) AB AB AB AB AB AB ?_
    rw[show List.take (O.length+1) (zD::O)=zD::O from DW (l:=zD::O)];refine .inl ⟨rfl,⟨z::o++[(nn+1,nn+y.mass)],nn+y.mass,n+1+1+1+1+1+1+1+1+1+1+1+1+1+1+1⟩,⟨by rw[Bf];exact Nat.succ_le_succ p1,p5,q1⟩,?_⟩;have hs:∀g' a,JN lot 2 3 ⟨z::o++[(nn+1,nn+y.mass)],a,g'⟩=[⟨609,g',132,2,zD::O++[.agg [i64 (nn+1),i64 (nn+y.mass)]]⟩,⟨200,3,3,1,[i64 a]⟩,⟨100,2,130,1,[.osl 609 g' 2 0 (O.length+1+1)]⟩,⟨0,0,9,1,[str (sb lot)]⟩]:=λg' a=>by
     rw[ES,PK,<-hO,<-hzD,Cu];rw[Bf];rfl
    rw[hs];exact .keep (.drop (GX _))
 ·rintro j d H' n' F' hE
  rcases hE with⟨rfl,⟨o,nn,g⟩,⟨p1,p2,-⟩,rfl⟩|⟨-,h⟩
  rotate_left
  ·exact h.elim
  dsimp only at p2;rw[List.drop_eq_nil_of_le (by omega)]at p2;have ho2:o=KL lot l 0:=by rw[<-p2];exact(DE o).symm
  rw[<-ho2];rcases o with _|⟨z,o⟩
  ·rw[XX]
   change AC _ _ _ _ _ _ _;refine sR 800 ?_;refine Af ?_;exact⟨_,.nil 2,AA.out,rfl⟩
  ·have hR:=Fc (H:=JN lot 2 3 ⟨z::o,nn,g⟩) (Hf:=[]) (k:=609) (g:=g) (T:=132) (sz:=2) (l:=(z::o).map FL) rfl
   have hle:((z::o).map FL).length=(o.map FL).length+1:=rfl;rw[hle]at hR;rw[PK]at hR⊢;change AC _ _ _ _ _ _ _;refine sR 800 ?_;refine Af ?_;exact⟨_,hR,AA.out,rfl⟩
theorem io {x:AF}{l:List AF}(h:x.mass=0):CI (x::l)=CI l:=by
 unfold CI;rw[List.filter_cons,AG (by rw[h];decide)]
theorem im {x:AF}{l r:List AF}(h:CI l=CI r):CI (x::l)=CI (x::r):=by
 unfold CI at h⊢;rw[List.filter_cons,List.filter_cons,h]
theorem WF:∀ {l:List AF},(∀x∈l,0<=x.mass)->CI (EF l 0)=[]
 | [],_=>rfl
 |x::r,h=>by
  have h1:=h x (CH ..);show CI (x.w (min 0 x.mass)::EF r (0-min 0 x.mass))=[];rw[show min 0 x.mass=0 by omega,io rfl];exact WF λy hy=>h y (CN _ hy)
theorem ZQ:∀ {l:List AF} {m:Int},(∀x∈l,0<=x.mass)->0<=m->CI (EX l m)=CI (EF l m)
 | [],_,_,_=>rfl
 |x::r,m,h,hm=>by
  have h1:=h x (CH ..);have h2:∀y∈r,0<=y.mass:=λy hy=>h y (CN _ hy)
  show CI (x.w (min x.mass m)::if m-x.mass<=0 then[]else EX r (m-x.mass))=CI (x.w (min m x.mass)::EF r (m-min m x.mass));rw[show min x.mass m=min m x.mass by omega];refine im ?_
  by_cases hz:m-x.mass<=0
  ·rw[AH hz,show m-min m x.mass=0 by omega,WF h2];rfl
  ·rw[AG hz,show m-min m x.mass=m-x.mass by omega]
   exact ZQ h2 (by omega)
theorem Xl:∀ {l:List AF} {m e:Int},(∀x∈l,0<=x.mass)->0<=m->m<=Aq l->e=Aq l-m->IV l m e=EG l m
 | [],_,_,_,_,_,_=>rfl
 |x::r,m,e,h,hm,hle,he=>by
  have h1:=h x (CH ..);have h2:∀y∈r,0<=y.mass:=λy hy=>h y (CN _ hy)
  have h3:=NQ h2;have h4:Aq (x::r)=x.mass+Aq r:=by unfold Aq;rfl
  rw[h4]at hle he;show x.w (min (x.mass-min x.mass m) e)::IV r (m-min x.mass m) (e-min (x.mass-min x.mass m) e)=x.w (x.mass-min m x.mass)::EG r (m-min m x.mass);rw[show min (x.mass-min x.mass m) e=x.mass-min m x.mass by omega,show min x.mass m=min m x.mass by omega];rw[Xl (e:=e-(x.mass-min m x.mass)) h2 (by omega) (by omega) (by omega)]
theorem ZP:∀ {l:List AF} {m:Int},(∀x∈l,0<=x.mass/\x.mass<=1000000000/\x.shs.length<=1000000)->0<=m->∀y∈EX l m,0<=y.mass/\y.mass<=1000000000/\y.shs.length<=1000000
 | [],_,_,_,y,hy=>by cases hy
 |x::r,m,h,hm,y,hy=>by
  obtain⟨h1,h2,h3⟩:=h x (CH ..);rcases BA.1 hy with rfl|h4
  ·exact⟨by show 0<=min x.mass m;omega,by show min x.mass m<=_;omega,h3⟩
  ·split at h4
   ·cases h4
   ·exact ZP (λz hz=>h z (CN _ hz)) (by omega) y h4
theorem Xe:∀(l:List AF) (m:Int),(EX l m).length<=l.length
 | [],_=>Ad _
 |x::r,m=>by
  show(if m-x.mass<=0 then[]else EX r (m-x.mass)).length+1<=r.length+1;split
  ·simp
  ·have:=Xe r (m-x.mass);omega
def Dx (l:List AF)(m:Int):Int:=if DP [(Be l:Int),if decide (m<0)then 3 else 0]≠0 then DP [(Be l:Int),if decide (m<0)then 3 else 0]else if Aq l<m then 13 else 0
def HQ (l:List AF)(m:Int):List AF:=if Dx l m≠0 then[]else Ch (CI (EF l m))
def HR (l:List AF)(m:Int):List AF:=if Dx l m≠0 then[]else Ch (CI (EG l m))
theorem Pl {a b:Int}(h:DP [a,b]=0):a=0/\b=0:=by
 have h1:(if a≠0 then a else if b≠0 then b else 0)=0:=h
 by_cases h0:a=0
 ·rw[AG (λq=>q h0)]at h1
  by_cases h2:b=0
  ·exact⟨h0,h2⟩
  ·rw[AH h2]at h1;exact Aj h1 h2
 ·rw[AH h0]at h1;exact Aj h1 h0
theorem rE (b:Bool)(l:List AF)(m:Int)(hl:l.length<=1000000)(hf:∀x∈l,x.few):AK C0 44 [Ai b l,i64 m] (.tup [Ai false (HQ l m),Ai false (HR l m),i64 (Dx l m)]):=by
 refine Ak.walk w1 aF rfl λF=>?_
 have cP:=Jw b l (by omega) hf;have cW:=Ku (decide (m<0)) 3;have cF:=NT [(Be l:Int),if decide (m<0)then 3 else 0] (by simp);have hA:HQ l m=if Dx l m≠0 then[]else Ch (CI (EF l m)):=rfl
 have hB:HR l m=if Dx l m≠0 then[]else Ch (CI (EG l m)):=rfl
 have hE:Dx l m=if DP [(Be l:Int),if decide (m<0)then 3 else 0]≠0 then DP [(Be l:Int),if decide (m<0)then 3 else 0]else if Aq l<m then 13 else 0:=rfl
 have hz:=@Pl (Be l:Int) (if decide (m<0)then 3 else 0);obtain⟨E,hE0⟩:∃E,DP [(Be l:Int),if decide (m<0)then 3 else 0]=E:=⟨_,rfl⟩
 rw[hE0]at cF hE hz
 by_cases h0:E=0
 rotate_left
 ·have k2:(E != 0)=true:=NM h0
  rw[AH h0]at hE;rw[hE,AH h0]at hA hB;rw[hA,hB,hE];refine AN Ac k2 cP cW cF AB AB AB ?_;exact⟨_,Kc (.nil 3) (.nil 3),AA.out,rfl⟩
 have k2:(E != 0)=false:=by rw[h0];rfl
 rw[AG (λh=>h h0)]at hE;obtain⟨z1,z2⟩:=hz h0;have hp:Be l=0:=by omega
 have hm0:0<=m:=by
  by_cases hq:m<0
  ·rw[AY hq]at z2;cases z2
  ·omega
 obtain⟨g1,g2,g3⟩:=Jh hp;have g4:=(Io hp).2.2;have cT:=TQ b l (by omega);rw[PM g3]at cT
 by_cases hlt:Aq l<m
 ·have k3:decide (Aq l<m)=true:=AY hlt
  rw[AH hlt]at hE;rw[hE,AH (by decide)]at hA hB;rw[hA,hB,hE];refine AN Ac (Ae k2 k3) cP cW cF cT AB AB ?_;exact⟨_,Kc (.nil 3) (.nil 3),AA.out,rfl⟩
 have k3:decide (Aq l<m)=false:=Ah hlt;rw[AG hlt]at hE;rw[hE,AG (λh=>h rfl)]at hA hB;rw[hA,hB,hE];have hx3:∀x∈l,0<=x.mass/\x.mass<=1000000000/\x.shs.length<=1000000:=λx q=>by
  obtain⟨a,b,c⟩:=g2 x q;exact⟨by omega,b,c⟩
 have ho:∀x∈l,∀m,AK C0 63 [x.D,i64 m] (x.w m).D:=λx q m=>QA x m (hx3 x q).2.2
 have cA:=SU b false l m hl ⟨hm0,by omega⟩ (λx q=>⟨(hx3 x q).1,(hx3 x q).2.1⟩) ho _ (Rw false (EX (IS false l) m) (by
  have:=Xe l m
  show(EX l m).length<=_;omega) (ZP (l:=l) hx3 hm0))
 rw[show CI (EX (IS false l) m)=CI (EF l m)from ZQ (λx q=>(hx3 x q).1) hm0]at cA;have hbt:IV l m (Aq l-m-0)=EG l m:=Xl (λx q=>(hx3 x q).1) hm0 (by omega) (by omega);have cB:=Ud b l m 0 hl ⟨hm0,by omega⟩ ⟨by omega,by omega⟩ (Aq l) ⟨by omega,by omega⟩ (λx q=>⟨(hx3 x q).1,(hx3 x q).2.1⟩) cT ho (Ai false (Ch (CI (EG l m)))) (by
  rw[hbt];exact Rw false (EG l m) (by rw[NC];exact hl) (NV hx3 hm0))
 refine AN Ac (Ae k2 k3) cP cW cF cT cA cB ?_;exact AQ rfl AA.out
theorem rF (l:List AF)(hl:l.length<=1000000):AK C0 93 [Ai false l] (.tup [Ai false (if 64<l.length then[]else l),i64 (if 64<l.length then 5 else 0)]):=by
 refine Ak.walk w1 aX rfl λF=>?_
 have el:(((l.map AF.D).length:Nat):Int)=(l.length:Int):=by rw[Ap]
 by_cases h:64<l.length
 ·rw[AH h,AH h]
  have k:decide ((l.length:Int)>64)=true:=AY (by omega);refine AN Ac (Ae el k) AB AB AB AB AB AB ?_;exact⟨_,Gb (.nil 3) (.refl _),AA.out,rfl⟩
 ·rw[AG h,AG h]
  have k:decide ((l.length:Int)>64)=false:=Ah (by omega);refine AN Ac (Ae el k) AB AB AB AB AB AB ?_;exact AQ rfl AA.out
def FG (a b:List AF):Int:=DP [(Be a:Int),(Be b:Int)]
def E6 (a b:List AF):Int:=if FG a b≠0 then FG a b else if Aq a+Aq b>999999999 then 4 else if 64<(Ch (a++b)).length then 5 else 0
def F9 (a b:List AF):List AF:=if E6 a b≠0 then[]else Ch (a++b)
theorem ij (R:List AF)(x:AF):(D4 R x).length<=R.length+1:=by
 unfold D4;split
 ·split
  ·rw[Bf,List.length_dropLast,F5];omega
  ·rw[Bf];exact Ad _
 ·simp
theorem lV (l:List AF):(Ch l).length<=l.length:=by
 have:∀(l R:List AF),(l.foldl D4 R).length<=R.length+l.length:=λl=>by
  induction l with
  |nil=>exact λ_=>Ad _
  |cons x l ih=>
   intro R;have h1:=ih (D4 R x);have h2:=ij R x;rw[List.foldl_cons,Bl];omega
 have:=this l []
 unfold Ch;simpa using this
theorem sM (a b:List AF)(hla:a.length<=1000000)(hlb:b.length<=1000000)(hfa:∀x∈a,x.few)(hfb:∀x∈b,x.few):AK C0 45 [Ai false a,Ai false b] (.tup [Ai false (F9 a b),i64 (E6 a b)]):=by
 refine Ak.walk w1 aG rfl λF=>?_
 have cA:=Jw false a (by omega) hfa;have cB:=Jw false b (by omega) hfb;have cF:=NT [(Be a:Int),(Be b:Int)] (by simp);have hE:E6 a b=if FG a b≠0 then FG a b else if Aq a+Aq b>999999999 then 4 else if 64<(Ch (a++b)).length then 5 else 0:=rfl
 have hL:F9 a b=if E6 a b≠0 then[]else Ch (a++b):=rfl
 have hz:=@Pl (Be a:Int) (Be b:Int);have hJ:FG a b=DP [(Be a:Int),(Be b:Int)]:=rfl;rw[<-hJ]at cF hz;obtain⟨E,hE0⟩:∃E,FG a b=E:=⟨_,rfl⟩
 rw[hE0]at cF hE hz
 by_cases h0:E=0
 rotate_left
 ·have k2:(E != 0)=true:=NM h0
  rw[AH h0]at hE;rw[hE,AH h0]at hL;rw[hL,hE];refine AN Ac k2 cA cB cF AB AB AB ?_;exact⟨_,Gb (.nil 3) (.refl _),AA.out,rfl⟩
 have k2:(E != 0)=false:=by rw[h0];rfl
 rw[AG (λh=>h h0)]at hE;obtain⟨z1,z2⟩:=hz h0;have hpa:Be a=0:=by omega
 have hpb:Be b=0:=by omega
 obtain⟨g1,g2,g3⟩:=Jh hpa;obtain⟨f1,f2,f3⟩:=Jh hpb;have g4:=(Io hpa).2.2;have f4:=(Io hpb).2.2;have g5:0<=Aq a:=NQ λy hy=>by have:=(g2 y hy).1;omega
 have f5:0<=Aq b:=NQ λy hy=>by have:=(f2 y hy).1;omega
 have tA:=TQ false a (by omega);have tB:=TQ false b (by omega);rw[PM g3]at tA;rw[PM f3]at tB;have wS:IntKind.i64.wrap (Aq a+Aq b)=Aq a+Aq b:=wI (by omega) (by omega)
 by_cases hbig:Aq a+Aq b>999999999
 ·have k3:decide (Aq a+Aq b>999999999)=true:=AY hbig
  rw[AH hbig]at hE;rw[hE,AH (by decide)]at hL;rw[hL,hE];refine AN Ac (Av k2 @wS k3) cA cB cF tA tB AB ?_;exact⟨_,Gb (.nil 3) (.refl _),AA.out,rfl⟩
 have k3:decide (Aq a+Aq b>999999999)=false:=Ah hbig;rw[AG hbig]at hE;have hfl:[a,b].flatten=a++b:=by simp
 have cC:=jA [a,b] (by rw[hfl,Bf];omega) (by simp);rw[hfl]at cC;have cN:=gh false (a++b) (by rw[Bf];omega) λx hx=>by
  rcases List.mem_append.1 hx with h|h
  ·exact g2 x h
  ·exact f2 x h
 have hln:=lV (a++b);rw[Bf]at hln;have cW:=rF (Ch (a++b)) (by omega);have hLL:F9 a b=if 64<(Ch (a++b)).length then[]else Ch (a++b):=by
  rw[hL,hE]
  by_cases h:64<(Ch (a++b)).length
  ·rw[AH h,AH h,AH (by decide)]
  ·rw[AG h,AG h,AG (λh=>h rfl)]
 rw[<-hLL,<-hE]at cW;refine AN Ac (Av k2 @wS k3) cA cB cF tA tB AB ?_;refine AN Ac (Av k2 @wS k3) cC cN cW AB AB AB ?_;exact AQ rfl AA.out
theorem aC:∀ {l R:List AF} {k:Nat},MG k R->(∀x∈l,0<=x.mass/\x.mass<=1000000000/\x.shs.length<=1000000)->MG (k+l.length) (l.foldl D4 R)
 | [],_,_,h,_=>h
 |x::l,R,k,h,hx=>by
  have h1:=aC (RZ h (hx x (CH ..))) λy hy=>hx y (CN _ hy)
  rw[List.foldl_cons,Bl,show k+(l.length+1)=k+1+l.length by omega];exact h1
theorem TW {l:List AF}(hx:∀x∈l,0<=x.mass/\x.mass<=1000000000/\x.shs.length<=1000000):(Ch l).length<=l.length/\∀y∈Ch l,0<=y.mass/\y.mass<=(l.length:Int)*1000000000/\y.shs.length<=1000000:=by
 have:=aC (l:=l) (R:=[]) (k:=0) ⟨Ad _,λy h=>by cases h⟩ hx
 rw[BR]at this;exact this
theorem PL (a b:List AF):Aq (a++b)=Aq a+Aq b:=by
 unfold Aq;rw[Cu,List.sum_append]
theorem ik (R:List AF)(x:AF):Aq (D4 R x)=Aq R+x.mass:=by
 unfold D4;split
 ·rename_i y hy
  have hR:R=R.dropLast++[y]:=by
   have hne:R≠[]:=λh=>by rw[h]at hy;cases hy
   have:=List.getLast?_eq_some_getLast hne
   rw[this]at hy;cases hy;exact(List.dropLast_concat_getLast hne).symm
  split
  ·rw[PL]
   conv=>rhs;rw[hR,PL]
   unfold Aq AF.w;simp;omega
  ·rw[PL];unfold Aq;simp
 ·rename_i hy
  have:R=[]:=List.getLast?_eq_none_iff.1 hy
  rw[this];unfold Aq;simp
theorem lW (l:List AF):Aq (Ch l)=Aq l:=by
 have:∀(l R:List AF),Aq (l.foldl D4 R)=Aq R+Aq l:=λl=>by
  induction l with
  |nil=>intro R;unfold Aq;simp
  |cons x l ih=>
   intro R;rw[List.foldl_cons,ih,ik];unfold Aq;simp;omega
 have h:=this l [];rw[show Aq ([]:List AF)=0 from rfl,Int.zero_add]at h;exact h
theorem mG {l:List AF}(h:∀x∈l,0<=x.mass)(hs:Aq l<=1000000000000000000):IU l=Aq l:=by
 have:∀(l:List AF) (a:Int),0<=a->(∀x∈l,0<=x.mass)->a+Aq l<=1000000000000000000->l.foldl (λa x=>IntKind.i64.wrap (a+x.mass)) a=a+Aq l:=λl=>by
  induction l with
  |nil=>intro a _ _ _;unfold Aq;simp
  |cons x l ih=>
   intro a ha hx hs;have h1:=hx x (CH ..);have h2:=NQ λy hy=>hx y (CN _ hy)
   have h3:Aq (x::l)=x.mass+Aq l:=by unfold Aq;rfl
   rw[h3]at hs⊢;rw[List.foldl_cons,wI (by omega) (by omega),ih _ (by omega) (λy hy=>hx y (CN _ hy)) (by omega)];omega
 have h1:=this l 0 (Int.le_refl _) h (by omega);rw[Int.zero_add]at h1;exact h1
theorem sJ {q:List AF}(h:∀x∈q,0<=x.mass/\x.mass<=1000000000/\x.shs.length<=1000000):∀x∈CI q,0<=x.mass/\x.mass<=1000000000/\x.shs.length<=1000000:=λx hq=>h x (List.mem_filter.1 hq).1
theorem qE (ha:AK C0 10 [] (Au true))(a b:List AF)(m:Int)(hla:a.length<=9223372036854775807)(hlb:b.length<=9223372036854775807)(hsa:∀x∈a,x.shs.length<=9223372036854775807)(hsb:∀x∈b,x.shs.length<=9223372036854775807):
  AK C0 8 [Ai false a,Ai false b,i64 m] (Au true):=by
 refine Ak.walk w1 tV rfl λF=>?_
 have cSa:=Zo false a hla hsa;have cSb:=Zo false b hlb hsb;cases hsh:Hh a
 ·rw[hsh]at cSa
  refine AN Ac kB cSa ha AB AB AB AB ?_;exact AQ rfl AA.out
 cases hsh2:Hh b
 ·rw[hsh]at cSa
  rw[hsh2]at cSb;refine AN Ac kB cSa cSb ha AB AB AB ?_;exact AQ rfl AA.out
 rw[hsh]at cSa;rw[hsh2]at cSb;obtain⟨xa,xa2,-⟩:=XO hsh;obtain⟨xb,xb2,-⟩:=XO hsh2;have cP:=rE false a m (by omega) λx q=>(xa x q).1.1
 have cJ:=sM a b (by omega) (by omega) (λx q=>(xa x q).1.1) (λx q=>(xb x q).1.1);have cRa:=az false a (by omega) λx q=>(xa x q).2
 have cRb:=az false b (by omega) λx q=>(xb x q).2
 have cBl:=qL m 0;have hd:(if decide (m<0)=true then(3:Int)else 0)=if m<0 then 3 else 0:=by
  by_cases h:m<0
  ·rw[AH h,AH (AY h)]
  ·rw[AG h,AG (by simpa using h)]
 have cF1:=Zm [(Be a:Int),if m<0 then 3 else 0] (by simp);have cF2:=Zm [(Be a:Int),(Be b:Int)] (by simp);have hE:Dx a m=if DP [(Be a:Int),if decide (m<0)then 3 else 0]≠0 then DP [(Be a:Int),if decide (m<0)then 3 else 0]else if Aq a<m then 13 else 0:=rfl
 have hA:HQ a m=if Dx a m≠0 then[]else Ch (CI (EF a m)):=rfl
 have hB:HR a m=if Dx a m≠0 then[]else Ch (CI (EG a m)):=rfl
 have hz:=@Pl (Be a:Int) (if m<0 then 3 else 0);rw[hd]at hE;obtain⟨E1,hE1⟩:∃E,DP [(Be a:Int),if m<0 then 3 else 0]=E:=⟨_,rfl⟩
 rw[hE1]at hE hz cF1;have hok:E1=0->Be a=0/\0<=m:=λh=>by
  obtain⟨z1,z2⟩:=hz h;refine⟨by omega,?_⟩
  by_cases hq:m<0
  ·rw[AH hq]at z2;cases z2
  ·omega
 have hxa:Be a=0->∀x∈a,0<=x.mass/\x.mass<=1000000000/\x.shs.length<=1000000:=λh x q=>by
  obtain⟨g1,g2,g3⟩:=(Jh h).2.1 x q;exact⟨by omega,g2,g3⟩
 have hxb:Be b=0->∀x∈b,0<=x.mass/\x.mass<=1000000000/\x.shs.length<=1000000:=λh x q=>by
  obtain⟨g1,g2,g3⟩:=(Jh h).2.1 x q;exact⟨by omega,g2,g3⟩
 have hsp:Dx a m=0->E1=0/\¬Aq a<m:=λh=>by
  rw[h]at hE
  by_cases h0:E1=0
  ·rw[AG (λq=>q h0)]at hE
   refine⟨h0,λh2=>?_⟩;rw[AH h2]at hE;cases hE
  ·rw[AH h0]at hE;exact Aj hE.symm h0
 have hcb:∀q:List AF,q.length<=80->(∀x∈q,0<=x.mass/\x.mass<=1000000000/\x.shs.length<=1000000)->(Ch (CI q)).length<=1000000/\∀x∈Ch (CI q),x.shs.length<=1000000:=λq hq h=>by
  obtain⟨g1,g2⟩:=TW (sJ h)
  have:(CI q).length<=q.length:=List.length_filter_le ..
  exact⟨by omega,λx hx=>(g2 x hx).2.2⟩
 have hAb:(HQ a m).length<=1000000/\∀x∈HQ a m,x.shs.length<=1000000:=by
  rw[hA]
  by_cases h:Dx a m=0
  ·rw[AG (λq=>q h)]
   exact hcb _ (by rw[PS];exact xa2) (P1 (hxa (hok (hsp h).1).1) (hok (hsp h).1).2)
  ·rw[AH h];exact⟨BS _,λx q=>by cases q⟩
 have hBb:(HR a m).length<=1000000/\∀x∈HR a m,x.shs.length<=1000000:=by
  rw[hB]
  by_cases h:Dx a m=0
  ·rw[AG (λq=>q h)]
   exact hcb _ (by rw[NC];exact xa2) (NV (hxa (hok (hsp h).1).1) (hok (hsp h).1).2)
  ·rw[AH h];exact⟨BS _,λx q=>by cases q⟩
 have hJE:E6 a b=if FG a b≠0 then FG a b else if Aq a+Aq b>999999999 then 4 else if 64<(Ch (a++b)).length then 5 else 0:=rfl
 have hJL:F9 a b=if E6 a b≠0 then[]else Ch (a++b):=rfl
 have hJF:FG a b=DP [(Be a:Int),(Be b:Int)]:=rfl;rw[<-hJF]at cF2;have hjz:FG a b=0->Be a=0/\Be b=0:=λh=>by
  obtain⟨z1,z2⟩:=Pl (hJF ▸ h);exact⟨by omega,by omega⟩
 have hxab:FG a b=0->∀x∈a++b,0<=x.mass/\x.mass<=1000000000/\x.shs.length<=1000000:=λh x q=>by
  rcases List.mem_append.1 q with k|k
  ·exact hxa (hjz h).1 x k
  ·exact hxb (hjz h).2 x k
 have hjn:E6 a b=0->FG a b=0:=λh=>by
  rw[h]at hJE
  by_cases h0:FG a b=0
  ·exact h0
  ·rw[AH h0]at hJE;exact hJE.symm
 have hab:(a++b).length<=160:=by rw[Bf];omega
 have hJb:(F9 a b).length<=1000000/\∀x∈F9 a b,x.shs.length<=1000000:=by
  rw[hJL]
  by_cases h:E6 a b=0
  ·rw[AG (λq=>q h)]
   obtain⟨g1,g2⟩:=TW (hxab (hjn h));exact⟨by omega,λx hx=>(g2 x hx).2.2⟩
  ·rw[AH h];exact⟨BS _,λx q=>by cases q⟩
 refine sR 0 ?_;refine Db ⟨[(0,Ai false a),(1,Ai false b),(2,i64 m)],[],100⟩ ?_ ?_
 ·refine AN Ac kB cSa cSb AB AB AB AB ?_
  exact⟨trivial,AJ⟩
 clear cSa cSb;refine Db ⟨[(0,Ai false a),(1,Ai false b),(2,i64 m),(7,Ai false (HQ a m)),(8,Ai false (HR a m)),(9,i64 (Dx a m))],[],200⟩ ?_ ?_
 ·refine AN Ac kB cP AB AB AB AB AB ?_
  exact⟨trivial,AJ⟩
 refine Db ⟨[(0,Ai false a),(1,Ai false b),(2,i64 m),(7,Ai false (HQ a m)),(8,Ai false (HR a m)),(9,i64 (Dx a m)),(10,Ai false (F9 a b)),(11,i64 (E6 a b))],[],300⟩ ?_ ?_
 ·refine AN Ac kB cJ AB AB AB AB AB ?_
  exact⟨trivial,AJ⟩
 refine Db ⟨[(0,Ai false a),(1,Ai false b),(2,i64 m),(7,Ai false (HQ a m)),(8,Ai false (HR a m)),(9,i64 (Dx a m)),(10,Ai false (F9 a b)),(11,i64 (E6 a b)),(12,i64 E1)],[],400⟩ ?_ ?_
 ·refine AN Ac kB cRa cBl cF1 AB AB AB ?_
  exact⟨trivial,AJ⟩
 clear cP cJ cBl;have hmass:Be a=0->AK C0 19 [Ai false a] (i64 (Aq a)):=λh=>aY false a (Jh h).2.2
 refine Db ⟨[(0,Ai false a),(1,Ai false b),(2,i64 m),(7,Ai false (HQ a m)),(8,Ai false (HR a m)),(9,i64 (Dx a m)),(10,Ai false (F9 a b)),(11,i64 (E6 a b)),(12,i64 (Dx a m))],[],500⟩ ?_ ?_
 ·by_cases h0:E1=0
  rotate_left
  ·have q0:(E1==0)=false:=Bw.2 h0
   rw[AH h0]at hE;rw[hE];refine AN Ac q0 AB AB AB AB AB AB ?_;exact⟨trivial,AJ⟩
  have q0:(E1==0)=true:=by rw[h0];rfl
  rw[AG (λh=>h h0)]at hE;have cM:=hmass (hok h0).1
  by_cases hlt:Aq a<m
  ·have k3:decide (Aq a<m)=true:=AY hlt
   rw[AH hlt]at hE;rw[hE];refine AN Ac (Ae q0 k3) cM AB AB AB AB AB ?_;exact⟨trivial,AJ⟩
  ·have k3:decide (Aq a<m)=false:=Ah hlt
   rw[AG hlt]at hE;rw[hE];subst h0;refine AN Ac (Ae q0 k3) cM AB AB AB AB AB ?_;exact⟨trivial,AJ⟩
 refine sR 800 ?_;refine Db ⟨[(0,Ai false a),(1,Ai false b),(2,i64 m),(7,Ai false (HQ a m)),(8,Ai false (HR a m)),(9,i64 (Dx a m)),(10,Ai false (F9 a b)),(11,i64 (E6 a b)),(12,i64 (Dx a m)),(13,Ai false (HQ a m)),(14,Ai false (HR a m))],[],600⟩ ?_ ?_
 ·by_cases h0:Dx a m=0
  rotate_left
  ·have q0:(Dx a m==0)=false:=Bw.2 h0
   rw[AH h0]at hA hB;rw[hA,hB];refine AN Ac q0 AB AB AB AB AB AB ?_;exact⟨trivial,AJ (b:=⟨.refl _,.refl _,.refl _,.refl _,.refl _,.refl _,.refl _,.refl _,.refl _,.nil 3,.nil 3,trivial⟩)⟩
  have q0:(Dx a m==0)=true:=by rw[h0];rfl
  obtain⟨h1,h2⟩:=hsp h0;have h3:=(Io (hok h1).1).2.2;have cC:=uP false a m (by omega) (hxa (hok h1).1) ⟨(hok h1).2,by omega⟩;rw[AG (λh=>h h0)]at hA hB;rw[<-hA,<-hB]at cC;refine AN Ac q0 cC AB AB AB AB AB ?_;exact⟨trivial,AJ⟩
 have n1:(Dx a m != Dx a m)=false:=bne_self_eq_false _;have cS1:=SJ false false (HQ a m) hAb.1 hAb.2;have cS2:=SJ false false (HR a m) hBb.1 hBb.2;refine Db ⟨[(0,Ai false a),(1,Ai false b),(10,Ai false (F9 a b)),(11,i64 (E6 a b))],[],700⟩ ?_ ?_
 ·refine AN Ac (Av n1 kT kF) cS1 cS2 AB AB AB AB ?_
  exact⟨trivial,AJ⟩
 clear n1 cS1 cS2 hA hB hAb hBb hE hz hsp hok cF1 hd hmass;refine Db ⟨[(0,Ai false a),(1,Ai false b),(10,Ai false (F9 a b)),(11,i64 (E6 a b)),(12,i64 (FG a b))],[],800⟩ ?_ ?_
 ·refine AN Ac kB cRa cRb cF2 AB AB AB ?_
  exact⟨trivial,AJ⟩
 refine sR 1400 ?_;refine Db ⟨[(0,Ai false a),(1,Ai false b),(10,Ai false (F9 a b)),(11,i64 (E6 a b)),(12,i64 (E6 a b)),(15,Ai false (F9 a b))],[],900⟩ ?_ ?_
 ·by_cases h0:FG a b=0
  rotate_left
  ·have q0:(FG a b==0)=false:=Bw.2 h0
   rw[AH h0]at hJE;rw[hJE,AH h0]at hJL;rw[hJL,hJE];refine AN Ac q0 AB AB AB AB AB AB ?_;exact⟨trivial,AJ (b:=⟨.refl _,.refl _,.refl _,.refl _,.refl _,.nil 3,trivial⟩)⟩
  have q0:(FG a b==0)=true:=by rw[h0];rfl
  have hx:=hxab h0;rw[AG (λh=>h h0)]at hJE;have hALn:(a.map AF.D).length=a.length:=Ap ..;have hBLn:(b.map AF.D).length=b.length:=Ap ..;have hAB:a.map AF.D++b.map AF.D=(a++b).map AF.D:=Cu.symm;obtain⟨AD,hAD⟩:∃T,a.map AF.D=T:=⟨_,rfl⟩
  have pAD:AA (.sl false 3 AD):=by rw[<-hAD];exact AI
  obtain⟨BD,hBD⟩:∃T,b.map AF.D=T:=⟨_,rfl⟩
  have pBD:AA (.sl false 3 BD):=by rw[<-hBD];exact AI
  unfold Ai;rw[hAD]at hALn hAB⊢;rw[hBD]at hBLn hAB⊢;have f1:∀l:List D,([]:List D)++l=l:=Fy;have f2:∀n,List.take n ([]:List D)=[]:=λn=>List.take_nil
  refine AN Ac (Bk q0 f1 f2 BR) AB AB AB AB AB AB ?_;rw[DW];have hR:=Fc (H:=[⟨1604,807,27,3,AD++BD⟩]) (Hf:=[]) (k:=1604) (g:=807) (T:=27) (sz:=3) (l:=AD++BD) rfl;rw[Bf]at hR;have cNr:=SH false (a++b) (by omega) λx q=>by
   rcases List.mem_append.1 q with k|k
   ·exact(Jh (hjz h0).1).2.1 x k
   ·exact(Jh (hjz h0).2).2.1 x k
  unfold Ai at cNr;rw[<-hAB]at cNr;obtain⟨b1,b2⟩:=TW hx;have ga:=(Io (hjz h0).1).2.2;have gb:=(Io (hjz h0).2).2.2;have hS:Aq (Ch (a++b))=Aq a+Aq b:=by rw[lW,PL]
  have cMr:=ZG false (Ch (a++b)) (by omega);rw[mG (λy hy=>(b2 y hy).1) (by omega),hS]at cMr;unfold Ai at cMr;have el:((((Ch (a++b)).map AF.D).length:Nat):Int)=((Ch (a++b)).length:Int):=by rw[Ap]
  have pABD:AA (.sl false 3 (AD++BD)):=by rw[hAB];exact AI
  refine A9.own _ (MP [] cNr (.drop .nil) ⟨hR,trivial⟩ AI) ?_;rintro d H2 n2 ⟨rfl,rfl,rfl⟩
  by_cases hbig:Aq a+Aq b>999999999
  ·have k3:decide (Aq a+Aq b>999999999)=true:=AY hbig
   rw[AH hbig]at hJE;rw[hJE,AH (by decide)]at hJL;rw[hJL,hJE];refine AN Ac k3 cMr AB AB AB AB AB ?_;exact⟨trivial,AJ (b:=⟨.refl _,.refl _,.refl _,.refl _,.refl _,.nil 3,trivial⟩)⟩
  have k3:decide (Aq a+Aq b>999999999)=false:=Ah hbig;rw[AG hbig]at hJE
  by_cases h64:64<(Ch (a++b)).length
  ·have k4:decide (((Ch (a++b)).length:Int)>64)=true:=AY (by omega)
   rw[AH h64]at hJE;rw[hJE,AH (by decide)]at hJL;rw[hJL,hJE];refine AN Ac (Av k3 k4 el) cMr AB AB AB AB AB ?_;exact⟨trivial,AJ (b:=⟨.refl _,.refl _,.refl _,.refl _,.refl _,.nil 3,trivial⟩)⟩
  ·have k4:decide (((Ch (a++b)).length:Int)>64)=false:=Ah (by omega)
   rw[AG h64]at hJE;rw[hJE,AG (λh=>h rfl)]at hJL;rw[hJL,hJE];rw[h0];refine AN Ac (Av k3 k4 el) cMr AB AB AB AB AB ?_;exact⟨trivial,AJ⟩
 have n2:(E6 a b==E6 a b)=true:=beq_self_eq_true _;have cS3:=SJ false false (F9 a b) hJb.1 hJb.2;refine AN Ac (Av n2 kT kF) cS3 ha AB AB AB AB ?_;exact AQ rfl AA.out
def tA:List UInt8:=[97]
def tB:List UInt8:=[98]
def Ed:List UInt8:=[119,104,101,97,116]
def Lh:List UInt8:=[102,117,110,110,101,108]
def CY (m:Int):AF:=⟨Ed,m,[⟨tA,[49]⟩]⟩
def Ct (m:Int):AF:=⟨Ed,m,[⟨tA,[49,47,50]⟩,⟨tB,[49,47,50]⟩]⟩
def Em (x:AF):D:=.agg [str (sb x.grain),i64 x.mass,.sl true 2 (x.shs.map As.D)]
def bX:D:=.agg [str (sb Lh),i64 4,i64 30,i64 12,.sl true 1 [.sl true 3 [Em (CY 10),Em (Ct 6)],.sl true 3 [Em (CY 5)]]]
theorem r7:AK C0 47 [] bX:=B8 DG 400 40 (by kernel_rfl)
def Lo (d d':D):Prop:=∀(ρ:Lk) (O:Nat->Prop) (w:World) (v:Value),AV ρ O w d v->AV ρ O w d' v
theorem Lo.refl (d:D):Lo d d:=λ_ _ _ _ h=>h
theorem Lo.agg {ds ds':List D}(hl:ds.length=ds'.length)(h:∀(i:Nat) (d d':D),ds[i]?=some d->ds'[i]?=some d'->Lo d d'):Lo (.agg ds) (.agg ds'):=λρ O w v hv=>by
 cases hv with
 |agg hn ho hd=>
  refine .agg (hn.trans hl) ho λi d' hd'=>?_
  have hi:i<ds.length:=by rw[hl];exact(List.getElem?_eq_some_iff.1 hd').1
  exact h i _ d' (BH hi) hd' _ _ _ _ (hd i _ (BH hi))
theorem Lo.tup {ds ds':List D}(hl:ds.length=ds'.length)(h:∀(i:Nat) (d d':D),ds[i]?=some d->ds'[i]?=some d'->Lo d d'):Lo (.tup ds) (.tup ds'):=λρ O w v hv=>by
 cases hv with
 |tup hn hd=>
  refine .tup (hn.trans hl) λi d' hd'=>?_
  have hi:i<ds.length:=by rw[hl];exact(List.getElem?_eq_some_iff.1 hd').1
  exact h i _ d' (BH hi) hd' _ _ _ _ (hd i _ (BH hi))
def Mk (e e':D):Prop:=e'.cells.length=e.cells.length/\∀(j:Nat) (d d':D),e.cells[j]?=some d->e'.cells[j]?=some d'->Lo d d'
theorem Lo.sl {b:Bool}{sz:Nat}{es es':List D}(hl:es.length=es'.length)(hc:∀(i:Nat) (e e':D),es[i]?=some e->es'[i]?=some e'->Mk e e'):Lo (.sl b sz es) (.sl false sz es'):=λρ O w v hv=>by
 cases hv with
 |nil=>
  have:es'=[]:=List.length_eq_zero_iff.1 hl.symm
  subst this;exact .nil sz
 |emp a=>
  have:es'=[]:=List.length_eq_zero_iff.1 hl.symm
  subst this;exact .emp a
 |sl f hl' hc' hO hb hz hcell ho h=>
  have hx:∀(i:Nat) (e':D),es'[i]?=some e'->∃e,es[i]?=some e/\Mk e e':=λi e' he'=>by
   have hi:i<es.length:=by rw[hl];exact(List.getElem?_eq_some_iff.1 he').1
   exact⟨_,BH hi,hc i _ e' (BH hi) he'⟩
  refine .sl f (hl.symm.trans hl') hc' hO hb (λi e' he'=>?_) hcell ho λi e' j d' he' hd'=>?_
  ·obtain⟨e,he,h1,h2⟩:=hx i e' he'
   rw[h1];exact hz i e he
  ·obtain⟨e,he,h1,h2⟩:=hx i e' he'
   have hj:j<e.cells.length:=by rw[<-h1];exact(List.getElem?_eq_some_iff.1 hd').1
   exact h2 j _ d' (BH hj) hd' _ _ _ _ (h i e j _ he (BH hj))
def loosen:Nat->D->D
 | 0,d=>d
 |n+1,.agg ds=>.agg (ds.map (loosen n))
 |n+1,.tup ds=>.tup (ds.map (loosen n))
 |n+1,.sl _ sz es=>.sl false sz (es.map (loosen n))
 |_+1,d=>d
theorem Se {f:D->D}(hf:∀d,Lo d (f d))(ds:List D)(i:Nat)(d d':D)(h:ds[i]?=some d)(h':(ds.map f)[i]?=some d'):Lo d d':=by
 rw[BI,h]at h';cases h';exact hf d
theorem Vq:∀n:Nat,(∀d,Lo d (loosen n d))/\∀e,Mk e (loosen n e)
 | 0=>⟨λd=>.refl d,λe=>⟨rfl,λj d d' h h'=>by
   have:d=d':=by
    have:=h.symm.trans h'
    injection this
   subst this;exact .refl d⟩⟩
 |n+1=>by
  obtain⟨h1,h2⟩:=Vq n;have hs:∀(es:List D) (i:Nat) (e e':D),es[i]?=some e->(es.map (loosen n))[i]?=some e'->Mk e e':=λes i e e' h h'=>by
   rw[BI,h]at h';cases h';exact h2 e
  have hL:∀d,Lo d (loosen (n+1) d):=λd=>by
   cases d with
   |agg ds=>exact .agg (by simp) (Se h1 ds)
   |tup ds=>exact .tup (by simp) (Se h1 ds)
   |sl b sz es=>exact .sl (by simp) (hs es)
   |_=>exact .refl _
  refine⟨hL,λe=>?_⟩;have one:e.cells=[e]->(loosen (n+1) e).cells=[loosen (n+1) e]->Mk e (loosen (n+1) e):=λa b=>by
   refine⟨by rw[a,b];rfl,λj d d' h h'=>?_⟩;rw[a]at h;rw[b]at h'
   match j with
   | 0=>cases h;cases h';exact hL e
   |j+1=>cases h
  cases e with
  |agg ds=>exact⟨by simp[loosen,D.cells],λj d d' h h'=>Se h1 ds j d d' h h'⟩
  |_=>exact one rfl rfl
theorem AK.loosen {C:A8}{f:Nat}{args:List D}{d:D}(h:AK C f args d)(n:Nat):AK C f args (loosen n d):=
 ⟨h.1,λX w vs a b c e g=>(h.2 X w vs a b c e g).mono λ_ _ ⟨v,d,h1,h2,h3,h4⟩=>⟨v,_,h1,h2,rfl,by subst h3;exact(Vq n).1 _ _ _ _ _ h4⟩⟩
section
variable {C:A8} {F B:Aa} {ops:Array Oper} {rd:Option Nat}
theorem gt {K1:St->Prop}{Q:Exit->Act->World->Prop}{l2:List Nat}(h2:∀(s1:St) (ρ:Lk) (a:Act) (w:World),K1 s1->Bd C F ρ s1 a w->wpOps C.P ops Q l2 a w):∀(l:List Nat) (a:Act) (w:World),wpOps C.P ops (KN C F K1) l a w->wpOps C.P ops Q (l++l2) a w:=by
 intro l
 induction l with
 |nil=>rintro a w ⟨_,s',ρ',hq,hs'⟩;exact h2 s' ρ' a w hq hs'
 |cons i l ih=>
  intro a w h;simp only[ES,wpOps]at h⊢;cases ho:ops[i]? with
  |none=>simp only[ho]at h⊢;exact ih a w h
  |some o=>
   simp only[ho]at h⊢;split
   ·rename_i hw
    rw[AH hw]at h;rcases h with h|⟨_,⟨a0,w0,h0⟩⟩
    ·refine .inl ?_
     unfold Oper.wp Oper.upon at h⊢;split<;>rename_i hr<;>simp only[hr]at h
     ·exact ih _ _ h
     ·exact ih _ _ h
     ·exact ih _ _ h
     ·refine Calls.mono h λe w'' he=>?_
      cases e with
      |returned v=>exact ih _ _ he
      |panicked c=>cases he.1
      |outgrown=>obtain⟨a0,w0,h0⟩:=he;cases h0.1
     ·exact Rows.mono h λ_ _ he=>ih _ _ he
     ·cases h.1
    ·cases h0.1
   ·rename_i hw
    rw[AG hw]at h;exact ih _ _ h
theorem uH {K:St->Prop}{os1 os2:List Oper}{s:St}(h:BF C F ops os1 s (λs1=>BF C F ops os2 s1 K)):BF C F ops (os1++os2) s K:=by
 intro hd l hl ρ a w hs;rw[LC,BY]at hd;have hlen:l.length=os1.length+os2.length:=by
  have:=congrArg List.length hl
  simpa using this
 obtain⟨l1,l2,rfl,e1⟩:∃l1 l2,l=l1++l2/\l1.length=os1.length:=⟨l.take os1.length,l.drop os1.length,(Ei _ _).symm,by rw[Bj];omega⟩
 rw[Cu,Cu]at hl;obtain⟨h1,h2⟩:=List.append_inj hl (by simpa using e1);exact gt (λs1 ρ a w hk hs=>hk hd.2 l2 h2 ρ a w hs) l1 a w (h hd.1 l1 h1 ρ a w hs)
theorem uq {X:EV}{i:Nat}{s:St}{Q:Exit->Aa->St->Prop}(hX:C5 C X)(hnd:EE ops.toList=true)(h:BF C F ops ((List.range ops.size).map λj=>ops.getD j default) s (Q .normal F)):AC C B rd F (.region i ops false) s Q:=by
 refine⟨λhB hd ρ a w hs=>wpIn_region ?_⟩;have hd:=Jd hB hd;have h1:=BF.run h (λj hj=>List.mem_range.1 hj) hd hs
 have:=E9 (rd:=rd) (Q:=Er C B Q) (l2:=[]) (λ_ _ _ h=>JZ hB (λ_ h=>h) h) (HZ hnd) _ a w h1
 rwa [DE]at this
def Tp (C:A8)(F:Aa)(X:EV)(kb:Nat)(ops:Array Oper):List (List Nat×Nat)->List Nat->St->(St->Prop)->Prop
 | [],l,s,K=>Cg C X kb ops l s True λacc s=>acc/\K s
 |(l1,i)::r,l,s,K=>Cg C X kb ops l1 s True λacc s1=>acc/\∃d,(∀(os:List Oper) (K':St->Prop),BF C F ops os ⟨BV s1.env (ops.getD i default).dst d,s1.H,s1.n+1⟩ K'->BF C F ops (ops.getD i default::os) s1 K')/\Tp C F X kb ops r l ⟨BV s1.env (ops.getD i default).dst d,s1.H,s1.n+1⟩ K
def OQ:List (List Nat×Nat)->List Nat->List Nat
 | [],l=>l
 |(l1,i)::r,l=>l1++i::OQ r l
theorem Xk {X:EV}(hX:C5 C X){kb:Nat}{K:St->Prop}:∀(r:List (List Nat×Nat)) (l:List Nat) (s:St),Tp C F X kb ops r l s K->BF C F ops ((OQ r l).map λj=>ops.getD j default) s K
 | [],l,s,h=>(Ea hX (λacc s h=>h) h).2
 |(l1,i)::r,l,s,h=>by
  show BF C F ops ((l1++i::OQ r l).map _) s K;rw[Cu,Cd];refine uH ?_;refine(Ea (K':=λs1=>BF C F ops (ops.getD i default::(OQ r l).map λj=>ops.getD j default) s1 K) hX (λacc s1 h=>⟨h.1,?_⟩) h).2;obtain⟨d,h1,h2⟩:=h.2;exact h1 _ _ (Xk hX r l _ h2)
theorem ur {X:EV}{i:Nat}{s:St}{Q:Exit->Aa->St->Prop}(hX:C5 C X)(kb:Nat)(r:List (List Nat×Nat))(l:List Nat)(hl:List.range ops.size=OQ r l)(hnd:EE ops.toList=true)(h:Tp C F X kb ops r l s (Q .normal F)):AC C B rd F (.region i ops false) s Q:=
 uq hX hnd (by rw[hl];exact Xk hX r l s h)
def T2 (P:Program) (t:Nat):Prop:=∃(f1 f2:Field) (k1 k2:IntKind),P.underlying t=some (.struct #[f1,f2])/\P.stoodInHeld t=false/\P.eqGuardType P.depth t=false/\f1.name ≠ "_"/\f1.offset=0/\P.underlying f1.type=some (.int k1)/\f2.name ≠ "_"/\f2.offset=1/\P.underlying f2.type=some (.int k2)
theorem UT {P:Program} {w:World} (d:Nat) {xs ys:Array Value} {f:Field} {fs:List Field} {i:Nat} {ka k:IntKind} {x y:Int} {b:Bool} (f1:f.name ≠ "_") (f2:f.offset=i) (f3:P.underlying f.type=some (.int k)) (hxa:xs[i]?=some (.int ka x)) (hya:ys[i]?=some (.int ka y))
  (ih:(Op.eqFields (d+1) xs ys fs).run P w=.ok b w):(Op.eqFields (d+1) xs ys (f::fs)).run P w=.ok (x==y&&b) w:=by
 have ag:(isAgg f.type).run P w=.ok false w:=by
  unfold isAgg;rw[run_bind,CW f3];rfl
 have part1:(part f.type xs f.offset).run P w=.ok (.int ka x) w:=by
  unfold part;rw[run_bind,ag];dsimp only;rw[AG (by simp),f2];simp only[hxa];rfl
 have part2:(part f.type ys f.offset).run P w=.ok (.int ka y) w:=by
  unfold part;rw[run_bind,ag];dsimp only;rw[AG (by simp),f2];simp only[hya];rfl
 simp only[Op.eqFields];rw[AH f1,run_bind,part1];dsimp only;rw[run_bind,part2];dsimp only;rw[run_bind,run_equalIn_int w d f.type ka k x y f3];dsimp only;cases hb:x==y with
 |true=>simpa using ih
 |false=>rfl
theorem bO {o:Oper}{os:List Oper}{s:St}{K:St->Prop}{t tt:Nat}{x y:Operand}{a1 a2 b1 b2:Int}(hw:B7 ops s.env o=some true)(ho:o.op=.binOp .neq t x y tt)(hT:T2 C.P t)(hx:BC s.env x=.agg [i64 a1,i64 a2])(hy:BC s.env y=.agg [i64 b1,i64 b2])
  (h:BF C F ops os ⟨BV s.env o.dst (Au (!(a1==b1&&(a2==b2&&true)))),s.H,s.n+1⟩ K):BF C F ops (o::os) s K:=
 BF.step hw (λρ a w hs=>by
  refine⟨_,ρ,w,.inl ?_,OW.pure hs (.prim _),λe he=>Cz (hs.gen e he)⟩;have rx:=C7 hs.env x;have ry:=C7 hs.env y;rw[hx]at rx;rw[hy]at ry;unfold execOp;simp only[ho];generalize a.eval x=vx at rx⊢;generalize a.eval y=vy at ry⊢;cases rx with
  |agg n1 o1 r1=>
   cases ry with
   |agg n2 o2 r2=>
    rename_i xs ys;obtain⟨f1,f2,k1,k2,c1,c2,c3,c4,c5,c6,c7,c8,c9⟩:=hT;have at_:∀ {vs:Array Value} {u1 u2:Int},vs.size=[i64 u1,i64 u2].length->(∀(i:Nat) (d:D),[i64 u1,i64 u2][i]?=some d->AV ρ (AM F.X ρ s.H) w d (vs.getD i undef))->vs[0]?=some (.int .i64 u1)/\vs[1]?=some (.int .i64 u2):=λ{vs u1 u2} n r=>by
     have q0:=r 0 _ rfl;have q1:=r 1 _ rfl;have m0:0<vs.size:=by rw[n];exact Nat.zero_lt_succ _
     have m1:1<vs.size:=by rw[n];exact Gs _
     rw[Az,Bg m0,H5]at q0;rw[Az,Bg m1,H5]at q1;rw[Bg m0,Bg m1];generalize vs[0]=z0 at q0;generalize vs[1]=z1 at q1;cases q0;cases q1;exact⟨rfl,rfl⟩
    obtain⟨x0,x1⟩:=at_ n1 r1;obtain⟨y0,y1⟩:=at_ n2 r2;have eqf:C.P.fieldsOf t = #[f1,f2]:=by unfold Program.fieldsOf;rw[c1]
    have run:(Op.equalIn 10000 t (.agg xs) (.agg ys)).run C.P w=.ok (a1==b1&&(a2==b2&&true)) w:=by
     rw[show(10000:Nat)=9998+1+1 from rfl,run_equalIn_struct w _ t xs ys (by rw[eqf];exact c1) c2,eqf];exact UT 9998 c4 c5 c6 x0 y0 (UT 9998 c7 c8 c9 x1 y1 rfl)
    have r3:(do eqGuard .neq t x y (.agg xs) (.agg ys);binOp .neq t (.agg xs) (.agg ys):Sem Value).run C.P w=.ok (.bool (!(a1==b1&&(a2==b2&&true)))) w:=by
     rw[run_bind,run_eqGuard_agg w .neq t x y xs ys c3];dsimp only;rw[run_neq_struct,run];rfl
    rw[run_bind,r3];rfl) h
end
def QV (P:Program)(t:Nat):Bool:=match P.underlying t with
 |some (.int _)=>true
 |_=>false
theorem XJ {P:Program}{t:Nat}(h:QV P t=true):∃k,P.underlying t=some (.int k):=by
 unfold QV at h;split at h
 ·rename_i k hk;exact⟨k,hk⟩
 ·cases h
def b9 (P:Program):List Field->Bool
 | [f1,f2]=>(f1.name != "_")&&Nat.beq f1.offset 0&&QV P f1.type&&(f2.name != "_")&&Nat.beq f2.offset 1&&QV P f2.type
 |_=>false
def b8 (P:Program)(t:Nat):Bool:=match P.underlying t with
 |some (.struct fs)=>!(P.stoodInHeld t) && !(P.eqGuardType P.depth t)&&b9 P fs.toList
 |_=>false
theorem q9 {P:Program}{t:Nat}(h:b8 P t=true):T2 P t:=by
 unfold b8 at h;split at h<;>try(cases h;done)
 rename_i fs hu;simp only[BY,Bb]at h;obtain⟨⟨h1,h2⟩,h3⟩:=h;obtain⟨l⟩:=fs
 match l,h3 with
 | [f1,f2],h3=>
  simp only[b9,BY,bne_iff_ne]at h3;obtain⟨⟨⟨⟨⟨g1,g2⟩,g3⟩,g4⟩,g5⟩,g6⟩:=h3;obtain⟨k1,e1⟩:=XJ g3;obtain⟨k2,e2⟩:=XJ g6;exact⟨f1,f2,k1,k2,hu,h1,h2,g1,B0 g2,e1,g4,B0 g5,e2⟩
theorem Xa:T2 C0.P 91:=q9 (by kernel_rfl)
def lA:List AF:=[CY 10,Ct 6]
def lB:List AF:=[CY 5]
def cA:D:=Ai false lA
def cB:D:=Ai false lB
def DM:D:=.agg [str (sb Lh),i64 4,i64 30,i64 12,.sl false 1 [cA,cB]]
theorem tP:AK C0 47 [] DM:=by
 have h:=r7.loosen 10
 rwa [show loosen 10 bX=DM from rfl]at h
theorem W7 {x:AF}(h:decide (x.grain.length<=1000)&&decide (x.shs.length<=1000)&&x.shs.all (λs=>decide (s.lot.length<=1000)&&decide (s.part.length<=40))=true):x.lite:=by
 simp only[BY,Gp,CQ]at h;obtain⟨⟨h1,h2⟩,h3⟩:=h;exact⟨⟨by omega,by omega,λs hs=>⟨by have:=(h3 s hs).1;omega,by have:=(h3 s hs).2;omega⟩⟩,h3⟩
theorem P6:∀x∈lA,x.lite:=by
 intro x hx;simp only[lA,BA,DK,or_false]at hx;rcases hx with rfl|rfl<;>exact W7 rfl
theorem qM:∀x∈lB,x.lite:=by
 intro x hx;simp only[lB,BA,DK,or_false]at hx;subst hx;exact W7 rfl
theorem P2:Be lA=0:=by kernel_rfl
theorem qo:Be lB=0:=by kernel_rfl
theorem mI:Jv lA=[(tA,13),(tB,3)]:=by kernel_rfl
theorem TZ:Ey (B9 lA)=[(tA,13),(tB,3)]:=by rw[<-WQ];exact mI
theorem Xg:(B9 lA).any (λp=>Da p.2)=false:=by kernel_rfl
theorem mJ:QG lA=0:=by
 unfold QG Hk;rw[AG (by rw[P2];exact λh=>h rfl),Xg];rfl
theorem mK:QH lA=[(tA,13),(tB,3)]:=by
 unfold QH Iw;rw[AG (by rw[P2];exact λh=>h rfl),Xg,TZ];rfl
def Q0:List UInt8:=[49,51]
def t3:List UInt8:=[51]
def Fo:List UInt8:=[49,51,47,49,54]
def Ft:List UInt8:=[51,47,49,54]
def J5 (m:Int):AF:=⟨Ed,m,[⟨tA,Fo⟩,⟨tB,Ft⟩]⟩
theorem sV:CZ (tA,13)=EP (tA,Q0):=by unfold CZ EP;rw[show BM 13=Q0 by kernel_rfl]
theorem sW:CZ (tB,3)=EP (tB,t3):=by unfold CZ EP;rw[show BM 3=t3 by kernel_rfl]
theorem mv:AK C0 36 [cA] (.tup [.sl false 2 [EP (tA,Q0),EP (tB,t3)],i64 0]):=by
 have h:=sN false lA (by decide) P6;rw[mJ,mK,Cd,Cd,List.map_nil,sV,sW]at h;exact h
theorem Qe:lA.map (Dc Ed)=lA:=rfl
theorem ql:Gm lA=0:=by kernel_rfl
theorem s5:[((tA,13):List UInt8×Rat),(tB,3)].any (λp=>Da (p.2/(Aq lA:Rat)))=false:=by kernel_rfl
theorem tl:(B9 lA).length=2:=by kernel_rfl
theorem ZW:GJ lA=0:=by
 unfold GJ;rw[AG (by rw[ql];exact λh=>h rfl),AG (by rw[tl];decide),TZ,s5];rfl
theorem S9:EQ lA=[⟨tA,Fo⟩,⟨tB,Ft⟩]:=by
 unfold EQ;rw[TZ];kernel_rfl
theorem QO:Aq lA=16:=by kernel_rfl
theorem qm:J6 lA=J5 16:=by rw[XB ZW,S9,QO];rfl
theorem Xh:Gf lA Ed=0:=by kernel_rfl
theorem Xi:Hm lA Ed=0:=by unfold Hm;rw[Xh,Qe,ZW];rfl
theorem mL:Kq lA Ed=J5 16:=by unfold Kq;rw[Xh,Qe,qm];rfl
theorem nC:AK C0 11 [cA,str (sb Ed)] (.tup [(J5 16).D,i64 0]):=by
 have h:=af false lA Ed (by decide) P6 (by decide);rw[Xi,mL]at h;exact h
theorem qj:FQ lA 15=⟨Ed,1,[⟨tA,Fo⟩,⟨tB,Ft⟩]⟩:=by
 unfold FQ;rw[QO,show(CE lA 0).grain=Ed from rfl,Qe,S9];rfl
theorem ZV:Ge (FQ lA 15)=[(tA,mkRat 13 16),(tB,mkRat 3 16)]:=by rw[qj];kernel_rfl
theorem ZU:[((tA,mkRat 13 16):List UInt8×Rat),(tB,mkRat 3 16)].any (λp=>Da p.2)=false:=by kernel_rfl
theorem qi:Hk (B9 [FQ lA 15])=0:=by
 unfold Hk;rw[(R9 lA 15).1,ZV,ZU];rfl
theorem qp:D7 lA=true:=by kernel_rfl
theorem TC:IT lA 15=0:=by
 unfold IT;rw[P2,AG (λh=>h rfl),AG (by decide),QO,AG (by decide),qp,AG (λh=>by cases h),show(CE lA 0).grain=Ed from rfl,Xi,AG (λh=>h rfl),AG (by decide),qi]
theorem qt:Qb lA 15=J5 15:=by
 unfold Qb;rw[TC,AG (λh=>h rfl),show(CE lA 0).grain=Ed from rfl,Qe,S9];rfl
theorem qr:Qa lA 15=[(tA,mkRat 13 16),(tB,mkRat 3 16)]:=by
 unfold Qa Iw;rw[TC,AG (λh=>h rfl),QO,AG (by decide),(R9 lA 15).2,(R9 lA 15).1,ZV,ZU];rfl
theorem sX:CZ (tA,mkRat 13 16)=EP (tA,Fo):=by unfold CZ EP;rw[show BM (tA,mkRat 13 16).2=Fo by kernel_rfl]
theorem sY:CZ (tB,mkRat 3 16)=EP (tB,Ft):=by unfold CZ EP;rw[show BM (tB,mkRat 3 16).2=Ft by kernel_rfl]
theorem iH:AK C0 12 [cA,i64 15] (.tup [(J5 15).D,.sl false 2 [EP (tA,Fo),EP (tB,Ft)],i64 0]):=by
 have h:=kR false lA 15 (by decide) P6;rw[TC,qt,qr,Cd,Cd,List.map_nil,sX,sY]at h;exact h
theorem nA:AK C0 37 [cA] (i64 0):=by
 have h:=Jw false lA (by decide) λx hx=>(P6 x hx).1
 rw[P2]at h;exact h
theorem nB:AK C0 37 [cB] (i64 0):=by
 have h:=Jw false lB (by decide) λx hx=>(qM x hx).1
 rw[qo]at h;exact h
theorem mz:AK C0 56 [str (sb tB)] (Au true):=by
 have h:=Pe tB;rw[show DO tB=true by kernel_rfl]at h;exact h
theorem sL (x:AF)(h:x.shs.length<=1000000)(m:Int):AK C0 63 [x.D,i64 m] (x.w m).D:=QA x m h
theorem S1 {l:List AF}(h:l.all (λx=>decide (x.shs.length<=1000000))=true):∀x∈l,∀m,AK C0 63 [x.D,i64 m] (x.w m).D:=λx hx m=>sL x (C3 (CQ.1 h x hx)) m
theorem SA {l:List AF}(h:l.all (λx=>decide (0<=x.mass)&&decide (x.mass<=1000000000))=true):∀x∈l,0<=x.mass/\x.mass<=1000000000:=λx hx=>by
 have:=CQ.1 h x hx
 simpa using this
theorem vG:AK C0 84 [Ai false [Ct 2]] (Ai false [Ct 2]):=B8 DG 400 40 (by kernel_rfl)
theorem vH:AK C0 84 [Ai false [CY 1]] (Ai false [CY 1]):=B8 DG 400 40 (by kernel_rfl)
theorem vI:AK C0 84 [Ai false [CY 9,Ct 4]] (Ai false [CY 9,Ct 4]):=B8 DG 400 40 (by kernel_rfl)
theorem Z0:AK C0 59 [cA] (i64 16):=B8 DG 400 40 (by kernel_rfl)
theorem kM:AK C0 91 [cA,i64 2,Au true] (Ai false [Ct 2]):=SU false true lA 2 (by decide) (by decide) (SA rfl) (S1 rfl) _ vG
theorem kO:AK C0 91 [cA,i64 1,Au false] (Ai false [CY 1]):=SU false false lA 1 (by decide) (by decide) (SA rfl) (S1 rfl) _ vH
theorem li:AK C0 92 [cA,i64 1,i64 2] (Ai false [CY 9,Ct 4]):=Ud false lA 1 2 (by decide) (by decide) (by decide) 16 (by decide) (SA rfl) Z0 (S1 rfl) _ vI
theorem rX:AK C0 142 [cA,str (sb tB)] (.sl false 2 [FL (11,16)]):=by
 have h:=cQ false lA tB (by decide) λx hx=>by
  simp only[lA,BA,DK,or_false]at hx;rcases hx with rfl|rfl<;>exact⟨by decide,by decide,by decide⟩
 rw[show KL tB lA 0=[(11,16)] by kernel_rfl]at h;exact h
theorem lk:AK C0 88 [.sl true 1 [Ai false [Ct 2],Ai false [CY 1]]] (Ai false [Ct 2,CY 1]):=VL [[Ct 2],[CY 1]] (by simp) (by decide) (by decide)
def N7:List (Nat×List D×D):=[(37,[cA],i64 0),(37,[cB],i64 0),(56,[str (sb tB)],Au true),
 (91,[cA,i64 2,Au true],Ai false [Ct 2]),(91,[cA,i64 1,Au false],Ai false [CY 1]),(92,[cA,i64 1,i64 2],Ai false [CY 9,Ct 4]),
 (142,[cA,str (sb tB)],.sl false 2 [FL (11,16)]),(88,[.sl true 1 [Ai false [Ct 2],Ai false [CY 1]]],Ai false [Ct 2,CY 1])]
instance tk:AA cA:=by unfold cA;exact AI
instance uL:AA cB:=by unfold cB;exact AI
instance q_cA:Al cA:=by unfold cA;exact AI
instance q_cB:Al cB:=by unfold cB;exact AI
theorem Xb:∀e∈N7,AK C0 e.1 e.2.1 e.2.2/\Ag e.2.1:=by
 intro e he;simp only[N7,BA,DK,or_false]at he;rcases he with rfl|rfl|rfl|rfl|rfl|rfl|rfl|rfl
 ·exact⟨nA,AI⟩
 ·exact⟨nB,AI⟩
 ·exact⟨mz,AI⟩
 ·exact⟨kM,AI⟩
 ·exact⟨kO,AI⟩
 ·exact⟨li,AI⟩
 ·exact⟨rX,AI⟩
 ·exact⟨lk,AI⟩
noncomputable def X5:EV:=⟨OV,LM.get,Md.get,λ_=>false,MA N7,Qv,J7⟩
theorem D3:Eu C0 X5:=⟨Ti,Qd,JI,Rq N7 Xb,by kernel_rfl,Zq,Pb⟩
def bY:D:=.agg [str (sb Lh),i64 4,i64 30,i64 12,.sl false 1 [Ai false [CY 9,Ct 4],Ai false [CY 5]]]
theorem ll:AK C0 48 [DM,i64 0,i64 3] (.tup [bY,Ai false [Ct 2,CY 1],i64 0]):=B8 D3 400 40 (by kernel_rfl)
abbrev TU (ls:List Int)(i:Int):D:=.clo (.func 131) [] [.pptr (.sl false 1 (DN ls)),.pptr (i64 i),.pptr DM]
abbrev q8 (ls:List Int)(i:Int):D:=.clo (.func 78) [] [.pptr DM,.pptr (.sl false 1 (DN ls)),.pptr (i64 i)]
theorem iR:AK C0 77 [.sl false 1 (DN [16,5]),i64 ((0:Nat):Int),TU [16,5] ((0:Nat):Int)] (.sl false 1 [i64 23]):=B8 D3 400 40 (by kernel_rfl)
theorem iS:AK C0 77 [.sl false 1 (DN [16,5]),i64 ((1:Nat):Int),TU [16,5] ((1:Nat):Int)] (.sl false 1 [i64 1]):=B8 D3 400 40 (by kernel_rfl)
theorem iT:AK C0 77 [.sl false 1 (DN [0,5]),i64 ((1:Nat):Int),TU [0,5] ((1:Nat):Int)] (.sl false 1 [i64 17]):=B8 D3 400 40 (by kernel_rfl)
theorem iU:AK C0 77 [.sl false 1 (DN [16,5]),i64 ((1:Nat):Int),q8 [16,5] ((1:Nat):Int)] (.sl false 1 [i64 23]):=B8 D3 400 40 (by kernel_rfl)
theorem uz:AK C0 76 [i64 16,.sl false 1 [i64 23]] (i64 16):=B8 D3 400 40 (by kernel_rfl)
theorem vA:AK C0 76 [i64 5,.sl false 1 [i64 1]] (i64 1):=B8 D3 400 40 (by kernel_rfl)
theorem vB:AK C0 76 [i64 5,.sl false 1 [i64 17]] (i64 5):=B8 D3 400 40 (by kernel_rfl)
theorem vC:AK C0 76 [i64 25,.sl false 1 [i64 23]] (i64 23):=B8 D3 400 40 (by kernel_rfl)
instance d5b:AA DM:=by unfold DM;exact AI
instance d5e:Al DM:=by unfold DM;exact AI
theorem vD:AK C0 74 [DM,.sl false 1 (DN [16,5]),i64 ((0:Nat):Int)] (i64 16):=Sh DM ⟨_,_,_,_,_,rfl⟩ false _ 0 16 rfl _ 16 iR uz
theorem vE:AK C0 74 [DM,.sl false 1 (DN [16,5]),i64 ((1:Nat):Int)] (i64 1):=Sh DM ⟨_,_,_,_,_,rfl⟩ false _ 1 5 rfl _ 1 iS vA
theorem vF:AK C0 74 [DM,.sl false 1 (DN [0,5]),i64 ((1:Nat):Int)] (i64 5):=Sh DM ⟨_,_,_,_,_,rfl⟩ false _ 1 5 rfl _ 5 iT vB
theorem rW:AK C0 75 [DM] (.sl false 1 (DN [16,5])):=B8 D3 400 40 (by kernel_rfl)
theorem lj:AK C0 73 [DM,.sl true 1 [i64 1]] (i64 0):=B8 D3 400 40 (by kernel_rfl)
theorem sH:AK C0 32 [DM] (i64 0):=B8 D3 400 40 (by kernel_rfl)
theorem kL:AK C0 25 [DM,i64 1] (.tup [i64 23,i64 0]):=kr DM _ _ _ _ 30 rfl _ 1 5 rfl _ 23 lj rW iU 25 rfl vC
def Tj:List (Nat×List D×D):=(74,[DM,.sl false 1 (DN [16,5]),i64 1],i64 1)::N7
theorem lz:∀e∈Tj,AK C0 e.1 e.2.1 e.2.2/\Ag e.2.1:=by
 intro e he;rcases BA.1 he with rfl|he
 ·exact⟨vE,AI⟩
 ·exact Xb e he
noncomputable def be:EV:=⟨OV,LM.get,Md.get,λ_=>false,MA Tj,Qv,J7⟩
theorem sF:Eu C0 be:=⟨Ti,Qd,JI,Rq Tj lz,by kernel_rfl,Zq,Pb⟩
theorem my:AK C0 24 [DM,i64 1] (.tup [i64 1,i64 0]):=B8 sF 400 40 (by kernel_rfl)
theorem kK:AK C0 49 [DM,i64 0,str (sb tB)] (.tup [i64 2,i64 0]):=B8 D3 400 40 (by kernel_rfl)
theorem lx:AK C0 50 [DM,i64 0,str (sb tB)] (.tup [i64 8,i64 0]):=B8 D3 400 40 (by kernel_rfl)
def b5 (l:List Int):Int:=if l=[16,5]then 16 else 5
theorem kJ:AK C0 51 [DM] (.tup [.sl false 2 [JM (0,16),JM (1,5)],i64 0]):=by
 have h:=jo (str (sb Lh)) (i64 4) (i64 30) (i64 12) false [cA,cB] [16,5] rfl (by simp) (by decide) (λi c m h1 h2=>by
  match i with
  | 0=>cases h1;cases h2;exact Z0
  | 1=>cases h1;cases h2;exact B8 D3 400 40 (by kernel_rfl)
  |i+2=>cases h1) (λc hc=>by
  simp only[BA,DK,or_false]at hc;rcases hc with rfl|rfl
  ·exact⟨_,_,rfl,tk⟩
  ·exact⟨_,_,rfl,uL⟩) sH b5 (λl=>l=[16,5]\/l=[0,5]\/l=[0,0]) (.inl rfl) (λl hl hn=>by
  rcases hl with rfl|rfl|rfl
  ·exact⟨vD,rfl,.inr (.inl rfl)⟩
  ·exact⟨vF,rfl,.inr (.inr rfl)⟩
  ·exact Aj rfl hn)
 rw[show KI b5 257 [16,5] []=([(0,16),(1,5)],0) by kernel_rfl]at h;exact h
abbrev Wh:Dr:=[(16,[0,1,2,3,4,5,6,7,8,9,10,11,12,13,14,15,16,17,18],[19,20,21])]
open Go.Proofs Go.RowKit Go.Sort
set_option maxRecDepth 20000
set_option maxHeartbeats 8000000
def u6:D:=.sl true 2 [.agg [str (sb tA),str (sb Fo)],.agg [str (sb tB),str (sb Ft)]]
theorem tg (m:Int):AK C0 52 [.sl false 2 [.agg [str (sb tA),str (sb Fo)],.agg [str (sb tB),str (sb Ft)]],u6] (Au true):=B8 D3 400 40 (by kernel_rfl)
theorem qK:AK C0 22 [.sl false 2 [EP (tA,Fo),EP (tB,Ft)],.sl true 2 [EP (tA,Fo),EP (tB,Ft)]] (Au true):=B8 D3 400 40 (by kernel_rfl)
theorem t6:AK C0 53 [i64 2,Au true] (Em (Ct 2)):=B8 D3 400 40 (by kernel_rfl)
theorem t7:AK C0 53 [i64 1,Au false] (Em (CY 1)):=B8 D3 400 40 (by kernel_rfl)
theorem t8:AK C0 53 [i64 9,Au false] (Em (CY 9)):=B8 D3 400 40 (by kernel_rfl)
theorem tc:AK C0 53 [i64 4,Au true] (Em (Ct 4)):=B8 D3 400 40 (by kernel_rfl)
theorem td:AK C0 17 [Ai false [Ct 2,CY 1],.sl true 3 [Em (Ct 2),Em (CY 1)]] (Au true):=B8 D3 400 40 (by kernel_rfl)
theorem tf:AK C0 17 [Ai false [CY 9,Ct 4],.sl true 3 [Em (CY 9),Em (Ct 4)]] (Au true):=B8 D3 400 40 (by kernel_rfl)
theorem lc:AK C0 10 [] (Au true):=by
 refine Ak.walk w1 Z4 rfl λF=>?_
 have cE:=tP;have cL:=mv;have cP:AK C0 11 [cA,.prim (.string ⟨#[119,104,101,97,116]⟩)] (.tup [(J5 16).D,i64 0]):=nC;have cD:=ll;have cM:=my;have cS:=kL;have cF:AK C0 49 [DM,i64 0,.prim (.string ⟨#[98]⟩)] (.tup [i64 2,i64 0]):=kK;have cLa:AK C0 50 [DM,i64 0,.prim (.string ⟨#[98]⟩)] (.tup [i64 8,i64 0]):=lx;have cEm:=kJ;have cSh:=iH;have pA:AA cA:=AI;have pB:AA cB:=AI;have pX:AA DM:=AI;unfold DM at cE cD cM cS cF cLa cEm pX;have hA:∃T,cA=.sl false 3 T:=⟨_,rfl⟩
 have hB:∃T,cB=.sl false 3 T:=⟨_,rfl⟩
 obtain⟨TA,hA⟩:=hA;obtain⟨TB,hB⟩:=hB;rw[hA,hB]at cE cD cM cS cF cLa cEm pX;rw[hA]at cL cP cSh pA;rw[hB]at pB;have hm:([.sl false 3 TA,.sl false 3 TB]:List D)[0]?=some (.sl false 3 TA):=rfl;have dP:(J5 16).D=.agg [str (sb Ed),i64 16,.sl false 2 [.agg [str (sb tA),str (sb Fo)],.agg [str (sb tB),str (sb Ft)]]]:=rfl;have dP2:(J5 15).D=.agg [str (sb Ed),i64 15,.sl false 2 [.agg [str (sb tA),str (sb Fo)],.agg [str (sb tB),str (sb Ft)]]]:=rfl;rw[dP]at cP;rw[dP2]at cSh;unfold bY at cD;refine AN Wh kB cE hm cL cP cD cM ?_;refine cI cS ?_;refine sR 700 ?_;refine cI cF ?_;refine sR 800 ?_;refine cI cLa ?_;refine sR 900 ?_;refine cI cEm ?_;refine sR 1000 ?_;refine Bo kT hm ?_;refine AE kB ?_;refine cI cSh ?_;have z0:IntKind.i64.wrap (0+0)=0:=rfl;have n0:((0:Int) != 0)=false:=rfl;have n1:((1:Int) != 1)=false:=rfl;have n23:((23:Int) != 23)=false:=rfl;have n2:((2:Int) != 2)=false:=rfl;have n2':(((2:Nat):Int) != 2)=false:=rfl;have s0:([.agg [i64 0,i64 16],.agg [i64 1,i64 5]]:List D)[0]?=some (.agg [i64 0,i64 16]):=rfl;have s1:([.agg [i64 0,i64 16],.agg [i64 1,i64 5]]:List D)[1]?=some (.agg [i64 1,i64 5]):=rfl;have n8:((8:Int) != 8)=false:=rfl;obtain⟨C1,hC1⟩:∃d,Ai false [CY 9,Ct 4]=d:=⟨_,rfl⟩
 obtain⟨O1,hO1⟩:∃d,Ai false [Ct 2,CY 1]=d:=⟨_,rfl⟩
 rw[hC1,hO1];refine AC.weak ⟨[(2,.sl false 2 [.agg [str (sb tA),str (sb Q0)],.agg [str (sb tB),str (sb t3)]]),(3,i64 0),(4,.optr 308 22 3 0 0),(5,i64 0),(6,.optr 406 31 5 0 0),(7,O1),(8,i64 0),(9,i64 1),(10,i64 0),(11,i64 23),(12,i64 0),(13,i64 2),(14,i64 0),(15,i64 8),(16,i64 0),(17,.sl false 2 [.agg [i64 0,i64 16],.agg [i64 1,i64 5]]),(18,i64 0),(19,.optr 1009 79 3 0 0),(20,.sl false 2 [.agg [str (sb tA),str (sb Fo)],.agg [str (sb tB),str (sb Ft)]]),(21,i64 0)],
  [⟨1009,79,27,3,[.agg [str (sb Ed),i64 15,.sl false 2 [.agg [str (sb tA),str (sb Fo)],.agg [str (sb tB),str (sb Ft)]]]]⟩,⟨406,31,48,5,[.agg [str (sb Lh),i64 4,i64 30,i64 12,.sl false 1 [C1,Ai false [CY 5]]]]⟩,⟨308,22,27,3,[.agg [str (sb Ed),i64 16,.sl false 2 [.agg [str (sb tA),str (sb Fo)],.agg [str (sb tB),str (sb Ft)]]]]⟩],_⟩ AJ ?_
 refine AC.seq ?_;refine AC.seq ?_;refine ur w1 1100 [([0,1,2,3,4,5,6,7,8,9,10,11,12,13,14,15,16,17,18,19,20,21,22,23,24,25,26,27,28,29,30,31,32,33,34,35,36,37,38,39,40,41,42,43],44),([45,46,47,48,49,50],51)] [52] rfl (by kernel_rfl) ?_;change Cg _ _ _ _ _ _ _ _;refine AE (Cj z0 n0 n1 n23 n2 n2' (Av n8 kT kF)) ?_;refine AE (Cj z0 n0 n1 n23 n2 n2' (Av n8 kT kF)) ?_;refine AE (Cj z0 n0 n1 n23 n2 n2' (Av n8 kT kF)) ?_;refine AE (Cj z0 n0 n1 n23 n2 n2' (Av n8 kT kF)) ?_;refine AE (Cj z0 n0 n1 n23 n2 n2' (Av n8 kT kF)) ?_;refine AE (Av n2' kT kF) ?_;refine Bo kF s0 ?_;refine AE (Av n2' kT kF) ?_;refine AE (Av n2' kT kF) ?_;refine⟨Au false,λos K' hk=>bO (a1:=0) (a2:=16) (b1:=0) (b2:=16) rfl rfl Xa rfl rfl hk,?_⟩;change Cg _ _ _ _ _ ⟨(124,Au false)::_,_,_⟩ _ _;refine At ?_;refine AE (Av n2' kT kF) ?_;refine AE (Av n2' kT kF) ?_;refine Bo kF s1 ?_;refine AE (Av n2' kT kF) ?_;refine AE (Av n2' kT kF) ?_;refine⟨Au false,λos K' hk=>bO (a1:=1) (a2:=5) (b1:=1) (b2:=5) rfl rfl Xa rfl rfl hk,?_⟩;change Cg _ _ _ _ _ ⟨(131,Au false)::_,_,_⟩ _ _;refine At ?_;refine AE (Av n2' kT kF) ?_;refine AL ?_;refine Am ?_;refine AC.weak ⟨[(2,.sl false 2 [.agg [.prim (.string ⟨#[97]⟩),.prim (.string ⟨#[49,51]⟩)],.agg [.prim (.string ⟨#[98]⟩),.prim (.string ⟨#[51]⟩)]]),(4,.optr 308 22 3 0 0),(6,.optr 406 31 5 0 0),(7,O1),(19,.optr 1009 79 3 0 0),(20,.sl false 2 [.agg [.prim (.string ⟨#[97]⟩),.prim (.string ⟨#[49,51,47,49,54]⟩)],.agg [.prim (.string ⟨#[98]⟩),.prim (.string ⟨#[51,47,49,54]⟩)]])],
  [⟨1009,79,27,3,[.agg [str (sb Ed),i64 15,.sl false 2 [.agg [.prim (.string ⟨#[97]⟩),.prim (.string ⟨#[49,51,47,49,54]⟩)],.agg [.prim (.string ⟨#[98]⟩),.prim (.string ⟨#[51,47,49,54]⟩)]]]]⟩,⟨406,31,48,5,[.agg [str (sb Lh),i64 4,i64 30,i64 12,.sl false 1 [C1,Ai false [CY 5]]]]⟩,⟨308,22,27,3,[.agg [str (sb Ed),i64 16,.sl false 2 [.agg [.prim (.string ⟨#[97]⟩),.prim (.string ⟨#[49,51,47,49,54]⟩)],.agg [.prim (.string ⟨#[98]⟩),.prim (.string ⟨#[51,47,49,54]⟩)]]]]⟩],_⟩ AJ ?_
 have h1:AK C0 52 [.sl false 2 [.agg [.prim (.string ⟨#[97]⟩),.prim (.string ⟨#[49,51,47,49,54]⟩)],.agg [.prim (.string ⟨#[98]⟩),.prim (.string ⟨#[51,47,49,54]⟩)]],.sl true 2 [.agg [.prim (.string ⟨#[97]⟩),.prim (.string ⟨#[49,51,47,49,54]⟩)],.agg [.prim (.string ⟨#[98]⟩),.prim (.string ⟨#[51,47,49,54]⟩)]]] (Au true):=tg 0;have h2:AK C0 22 [.sl false 2 [.agg [.prim (.string ⟨#[97]⟩),.prim (.string ⟨#[49,51,47,49,54]⟩)],.agg [.prim (.string ⟨#[98]⟩),.prim (.string ⟨#[51,47,49,54]⟩)]],.sl true 2 [.agg [.prim (.string ⟨#[97]⟩),.prim (.string ⟨#[49,51,47,49,54]⟩)],.agg [.prim (.string ⟨#[98]⟩),.prim (.string ⟨#[51,47,49,54]⟩)]]] (Au true):=qK;have e1:Bh ⟨#[97]⟩ ⟨#[97]⟩=true:=KZ _;have e2:Bh ⟨#[49,51]⟩ ⟨#[49,51]⟩=true:=KZ _;have e3:Bh ⟨#[98]⟩ ⟨#[98]⟩=true:=KZ _;have e4:Bh ⟨#[51]⟩ ⟨#[51]⟩=true:=KZ _;have x0:([.agg [.prim (.string ⟨#[97]⟩),.prim (.string ⟨#[49,51]⟩)],.agg [.prim (.string ⟨#[98]⟩),.prim (.string ⟨#[51]⟩)]]:List D)[0]?=some (.agg [.prim (.string ⟨#[97]⟩),.prim (.string ⟨#[49,51]⟩)]):=rfl;have x1:([.agg [.prim (.string ⟨#[97]⟩),.prim (.string ⟨#[49,51]⟩)],.agg [.prim (.string ⟨#[98]⟩),.prim (.string ⟨#[51]⟩)]]:List D)[1]?=some (.agg [.prim (.string ⟨#[98]⟩),.prim (.string ⟨#[51]⟩)]):=rfl;have b1:(!(true&&(true&&true)))=false:=rfl;have n16:((16:Int) != 16)=false:=rfl;have n15:((15:Int) != 15)=false:=rfl;have k1:=t6;have k2:=t7;have k3:=t8;have k4:=tc;have k5:=td;have k6:=tf;have pA1:Ag [Ai false [Ct 2,CY 1],.sl true 3 [Em (Ct 2),Em (CY 1)]]:=⟨λd hd=>by
  simp only[BA,DK,or_false]at hd;rcases hd with rfl|rfl
  ·exact(AI:AA (Ai false [Ct 2,CY 1])).out
  ·exact GZ (n:=30) (by kernel_rfl)⟩
 have pA2:Ag [Ai false [CY 9,Ct 4],.sl true 3 [Em (CY 9),Em (Ct 4)]]:=⟨λd hd=>by
  simp only[BA,DK,or_false]at hd;rcases hd with rfl|rfl
  ·exact(AI:AA (Ai false [CY 9,Ct 4])).out
  ·exact GZ (n:=30) (by kernel_rfl)⟩
 rw[hO1]at k5 pA1;rw[hC1]at k6 pA2;obtain⟨u1,u2,u3,hu⟩:∃a b c,Em (Ct 2)=.agg [a,b,c]:=⟨_,_,_,rfl⟩
 obtain⟨v1,v2,v3,hv⟩:∃a b c,Em (CY 1)=.agg [a,b,c]:=⟨_,_,_,rfl⟩
 obtain⟨y1,y2,y3,hy⟩:∃a b c,Em (CY 9)=.agg [a,b,c]:=⟨_,_,_,rfl⟩
 obtain⟨z1,z2,z3,hz⟩:∃a b c,Em (Ct 4)=.agg [a,b,c]:=⟨_,_,_,rfl⟩
 rw[hu]at k1;rw[hv]at k2;rw[hy]at k3;rw[hz]at k4;rw[hu,hv]at k5 pA1;rw[hy,hz]at k6 pA2;obtain⟨C2,hC2⟩:∃d,Ai false [CY 5]=d:=⟨_,rfl⟩
 obtain⟨C1L,hC1L⟩:∃T,C1=.sl false 3 T:=⟨_,hC1.symm⟩
 rw[hC2,hC1L];rw[hC1L]at k6 pA2;have q0:([.sl false 3 C1L,C2]:List D)[0]?=some (.sl false 3 C1L):=rfl;have n2e:(((2:Nat):Int)==2)=true:=rfl;refine AN Wh (Cj b1 n2' n16 n15 e1 e2 (Bk e3 e4 kT kF)) x0 x1 h1 h2 AB AB ?_;refine BT.same _ (k1) AI ?_;refine BN ?_;refine AE (Av n2e kT kF) ?_;refine BT.same _ (k2) AI ?_;refine BN ?_;refine AE (Av n2e kT kF) ?_;refine BT.same _ k5 pA1 ?_;refine At ?_;refine AE (Av n2e kT kF) ?_;refine AE (Av n2e kT kF) ?_;refine AE (Av n2e kT kF) ?_;refine Bo kT q0 ?_;refine AE (Av n2e kT kF) ?_;refine AE (Av n2e kT kF) ?_;refine Mh kT ?_;refine BT.same _ (k3) AI ?_;refine BN ?_;refine Mh kT ?_;refine BT.same _ (k4) AI ?_;refine BN ?_;refine AE (Av n2e kT kF) ?_;refine AE (Av n2e kT kF) ?_;refine AE (Av n2e kT kF) ?_;refine Mh kT ?_;refine A9.same _ k6 pA2 ?_;refine At ?_;refine AE (Av n2e kT kF) ?_;refine AE (Av n2e kT kF) ?_;refine Af ?_;exact AQ rfl AA.out
end Go.Ide
