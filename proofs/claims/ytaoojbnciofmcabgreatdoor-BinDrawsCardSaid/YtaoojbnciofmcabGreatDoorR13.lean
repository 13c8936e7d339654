/- The layer of own lemmas and contracts, part 13. -/
import Derived.Test.YtaoojbnciofmcabGreatDoorR12
import Derived.Test.YtaoojbnciofmcabGreatDoorR4
import Derived.Test.YtaoojbnciofmcabGreatDoorR7
import Derived.Laws.StructEq
import Derived.Test.YtaoojbnciofmcabGreatDoorR11
import Derived.Test.YtaoojbnciofmcabGreatDoorR10
set_option linter.unusedVariables false
set_option linter.unusedSimpArgs false
namespace Go.Ide
open Go.Proofs Go.RowKit
set_option maxRecDepth 20000
set_option maxHeartbeats 4000000
def FP (x:Aq)(f t m:Int):Int:=Ck [Cp x [f,t],if decide (m<0)then 3 else 0,if f==t then 9 else 0]
def Gk (x:Aq)(f t m:Int):Int:=if FP x f t m≠0 then FP x f t m else if Cv x f m≠0 then Cv x f m else E3 (Bj x f m) t (CQ x f m)
def IF (x:Aq)(f t m:Int):Aq:=if Gk x f t m≠0 then EB else GS (Bj x f m) t (CQ x f m)
theorem aN {x:Aq}{i m:Int}(h:Cv x i m=0)(hc:∀c∈x.cells,∀y∈c,y.lite/\y.modr)(hn:∀c∈x.cells,c.length<=80):
  (∀c∈(Bj x i m).cells,c.length<=80/\∀y∈c,y.lite/\y.modr)/\(CQ x i m).length<=64/\∀y∈CQ x i m,y.lite/\y.modr:=by
 have v:=So h;have ok:=Mh v.one;have hk:=zG (x:=x) (i:=i) (m:=m) ok.at_;have hm:=Ax ok.at_;refine⟨λc hq=>?_,by have:=v.f64;omega,λy hy=>⟨Vz (hk.2 y hy) λz hz=>(hc _ hm z hz).1,fO (hk.2 y hy) λz hz=>(hc _ hm z hz).2⟩⟩;obtain⟨d,hd,hl⟩:=qK v.one c hq;obtain⟨e,he,hke⟩:=hk.1 c hq;exact⟨BY hl (hn d hd),λy hy=>⟨Vz (hke y hy) λz hz=>(hc e he z hz).1,fO (hke y hy) λz hz=>(hc e he z hz).2⟩⟩
theorem xX (x:Aq)(i m:Int)(h1:D4 x i m=0)(hsm:AZ (BC x i)<=100000):AL C0 11 [x.D,i64 i,i64 m] (.tup [(Ha x i m).D,AV false (G8 x i m),i64 (Cv x i m)]):=by
 refine Af.walk w1 zL rfl λF=>?_
 have ok:=Mh h1;have hE:Cv x i m=if AZ (BC x i)<m then 13 else JF x i m:=AH λq=>q h1
 have hB:Ha x i m=if Cv x i m≠0 then EB else Bj x i m:=rfl
 have hL:G8 x i m=if Cv x i m≠0 then[]else CQ x i m:=rfl
 have hE3:JF x i m=if Dc x.side (Cj (Bj x i m))then 17 else if 64<(CQ x i m).length then 5 else 0:=rfl
 have hz:EB.D=.agg [str (sb []),i64 0,i64 0,i64 0,.sl false 1 []]:=rfl;have pz:AA (.tup [EB.D,AV false [],i64 (Cv x i m)]):=AJ;rw[hz]at pz;obtain⟨s1,s2,s3,s4⟩:=Ub ok.bin;have hcb:=ok.cel;have hpn:=DW ok.par;have hnn:=Pr (l:=BC x i) λy hy=>by have:=(hpn.2.1 y hy).1;omega
 have cLv:=SK x i.toNat (BC x i) ok.at_ hpn.2.2 (by omega);rw[<-ok.ii]at cLv;have hmass:∀y∈BC x i,0<=y.mass/\y.mass<=100000:=λy hy=>by
  have h0:∀z∈BC x i,0<=z.mass:=λz hz=>by have:=(hpn.2.1 z hz).1;omega
  have:=Tp h0 hy
  exact⟨h0 y hy,by omega⟩
 have hN:∀d∈x.cells,AL C0 82 [AV false d] (AV false (A9 d)):=λd hq=>by
  have:=DW (HT (hcb d hq)).1
  exact PX false d (by omega) this.2.1
 have cD:=d8s x i.toNat (BC x i) ok.at_ (by omega) (by omega) hmass (λy hy=>(hpn.2.1 y hy).2.2) (aB ok.bin) (by omega) hN m.toNat;rw[<-ok.ii,<-ok.mm]at cD;have hOd:Fh x i.toNat (A9 (EA x (BC x i) m.toNat))=Bj x i m:=rfl;have hFd:A9 (HX x (BC x i) m.toNat)=CQ x i m:=rfl;rw[hOd,hFd]at cD;have hS:¬AZ (BC x i)<m->AL C0 46 [(Bj x i m).D] (Al (!Dc x.side (Cj (Bj x i m)))):=λhq=>by
  refine Wg (Bj x i m) (by rw[show(Bj x i m).cells.length=x.cells.length from NW ..];omega) (RX (P:=λc=>Ib c/\0<=AZ c/\AZ c<=999999999) (λe he=>?_) ?_) ⟨s1,s2⟩
  ·have pe:=HT (hcb e he)
   have:=UB (DW pe.1).2.1 (by have:=(DW pe.1).1;omega) (by omega)
   exact⟨this.1,this.2.1,by omega⟩
  ·have hkn:m.toNat<=(BN (BC x i)).length:=by have:=ok.mm;omega
   obtain⟨g1,g2⟩:=WA (L:=EA x (BC x i) m.toNat) ok.par NT (by rw[RT hkn];omega);have g3:=RL (x:=x) (c:=BC x i) (m:=m.toNat) λy hy=>(hpn.2.1 y hy).1
   have g4:=RT (x:=x) (c:=BC x i) (m:=m.toNat) hkn;exact⟨⟨by omega,λy hy=>by have:=g1 y hy;omega⟩,by omega,by omega⟩
 have hoD:(Bj x i m).D=.agg [str (sb x.flow),i64 x.core,i64 x.room,i64 x.side,.sl false 1 ((Bj x i m).cells.map (AV false))]:=rfl;have po:AA (.tup [(Bj x i m).D,AV false (CQ x i m),i64 (Cv x i m)]):=AJ;have Ew:AA (Bj x i m).D:=AJ;have coD:AS (Bj x i m).D:=AJ;rw[hoD]at cD hS po Ew coD;obtain⟨OD,hOD⟩:∃O,(Bj x i m).cells.map (AV false)=O:=⟨_,rfl⟩
 rw[hOD]at cD hS po Ew coD hoD;have el:((((CQ x i m).map AE.D).length:Nat):Int)=((CQ x i m).length:Int):=by rw[Ab]
 have pX:AA x.D:=AJ;have cX:AS x.D:=AJ;rw[sn]at cLv cD pX cX⊢;obtain⟨XD,hXD⟩:∃X,x.cells.map (AV false)=X:=⟨_,rfl⟩
 rw[hXD]at cLv cD pX cX⊢
 by_cases h0:AZ (BC x i)<m
 ·have k1:decide (m>AZ (BC x i))=true:=BR
  rw[AI h0]at hE;rw[hE,AI (by decide)]at hB hL;rw[hE]at pz;rw[hB,hL,hE,hz];refine AF AY k1 cLv AB AB AB AB AB ?_;exact⟨_,NZ (F6 (.nil 1)) (.nil 3),pz.out,rfl⟩
 have k1:decide (m>AZ (BC x i))=false:=Bd;rw[AH h0]at hE;have cD:=cD (by have:=ok.mm;omega);have cS:=hS h0;cases hst:Dc x.side (Cj (Bj x i m))
 rotate_left
 ·rw[hst]at cS
  rw[hst,AI rfl]at hE3;rw[hE3]at hE;rw[hE,AI (by decide)]at hB hL;rw[hE]at pz;rw[hB,hL,hE,hz];refine AF AY (Ao k1 kT kF) cLv cD cS AB AB AB ?_;exact⟨_,NZ (F6 (.nil 1)) (.nil 3),pz.out,rfl⟩
 rw[hst]at cS;rw[hst,AH (by decide)]at hE3
 by_cases h64:64<(CQ x i m).length
 ·have k4:decide (((CQ x i m).length:Int)>64)=true:=BR
  rw[AI h64]at hE3;rw[hE3]at hE;rw[hE,AI (by decide)]at hB hL;rw[hE]at pz;rw[hB,hL,hE,hz];refine AF AY (CS k1 k4 el kT kF) cLv cD cS AB AB AB ?_;exact⟨_,NZ (F6 (.nil 1)) (.nil 3),pz.out,rfl⟩
 ·have k4:decide (((CQ x i m).length:Int)>64)=false:=Bd
  rw[AH h64]at hE3;rw[hE3]at hE;rw[hE,AH (λh=>h rfl)]at hB hL;rw[hE]at po;rw[hB,hL,hE,hoD];refine AF AY (CS k1 k4 el kT kF) cLv cD cS AB AB AB ?_;exact AM rfl po.out
theorem zx (x:Aq)(hl:x.cells.length<=20)(hc:∀c∈x.cells,c.length<=80/\∀y∈c,y.lite/\y.modr)(f t m:Int):AL C0 7 [x.D,i64 f,i64 t,i64 m] (.tup [(IF x f t m).D,i64 (Gk x f t m)]):=by
 refine Af.walk w1 il rfl λF=>?_
 have hfw:∀c∈x.cells,c.length<=1000000/\∀y∈c,y.few:=λc hq=>⟨by have:=(hc c hq).1;omega,λy hy=>((hc c hq).2 y hy).1.1⟩
 have cC:=WW x (by omega) hfw [f,t] (by simp);have cW:=GQ (decide (m<0)) 3;have cW2:=GQ (f==t) 9;have cF1:=I6 [Cp x [f,t],if decide (m<0)then 3 else 0,if f==t then 9 else 0] (by simp);rw[show Ck [Cp x [f,t],if decide (m<0)then 3 else 0,if f==t then 9 else 0]=FP x f t m from rfl]at cF1;have cD:=iU x (by omega) hfw f m;have hE:Gk x f t m=if FP x f t m≠0 then FP x f t m else if Cv x f m≠0 then Cv x f m else E3 (Bj x f m) t (CQ x f m):=rfl
 have hB:IF x f t m=if Gk x f t m≠0 then EB else GS (Bj x f m) t (CQ x f m):=rfl
 have hDB:Ha x f m=if Cv x f m≠0 then EB else Bj x f m:=rfl
 have hDL:G8 x f m=if Cv x f m≠0 then[]else CQ x f m:=rfl
 have hz:EB.D=.agg [str (sb []),i64 0,i64 0,i64 0,.sl false 1 []]:=rfl;have pz:AA (.tup [EB.D,i64 (Gk x f t m)]):=AJ;have hFi:Cv x f m=0->AL C0 43 [(Bj x f m).D,i64 t,AV false (CQ x f m)] (.tup [(GS (Bj x f m) t (CQ x f m)).D,i64 (E3 (Bj x f m) t (CQ x f m))]):=λh=>by
  have hd:=aN h (λc hq=>(hc c hq).2) (λc hq=>(hc c hq).1);exact zv (Bj x f m) (by rw[show(Bj x f m).cells.length=x.cells.length from NW ..];omega) (λc hq=>⟨by have:=(hd.1 c hq).1;omega,λy hy=>((hd.1 c hq).2 y hy).1.1⟩) t (CQ x f m) (by omega) λy hy=>(hd.2.2 y hy).1.1
 have hoD:∃a b c d e,(Bj x f m).D=.agg [a,b,c,d,e]:=⟨_,_,_,_,_,rfl⟩
 have Ew:AA (Bj x f m).D:=AJ;have coD:AS (Bj x f m).D:=AJ;obtain⟨o1,o2,o3,o4,o5,hoD⟩:=hoD;have hrD:∃a b c d e,(GS (Bj x f m) t (CQ x f m)).D=.agg [a,b,c,d,e]:=⟨_,_,_,_,_,rfl⟩
 have po:AA (.tup [(GS (Bj x f m) t (CQ x f m)).D,i64 (Gk x f t m)]):=AJ;have prD:AA (GS (Bj x f m) t (CQ x f m)).D:=AJ;have crD:AS (GS (Bj x f m) t (CQ x f m)).D:=AJ;have hfz:E3 (Bj x f m) t (CQ x f m)≠0->GS (Bj x f m) t (CQ x f m)=EB:=λh=>AI h
 obtain⟨r1,r2,r3,r4,r5,hrD⟩:=hrD;rw[hrD]at po prD crD;rw[hoD]at Ew coD hFi;rw[hrD]at hFi;have hx:∃a b c d e,x.D=.agg [a,b,c,d,e]:=⟨_,_,_,_,_,rfl⟩
 have px:AA x.D:=AJ;have px2:AS x.D:=AJ;obtain⟨a1,a2,a3,a4,a5,hx⟩:=hx;rw[hx]at cC cD px px2⊢;rw[hz]at pz
 by_cases h1:FP x f t m=0
 rotate_left
 ·have k2:(FP x f t m != 0)=true:=FW h1
  rw[AI h1]at hE;rw[hE,AI h1]at hB;rw[hE]at pz;rw[hB,hE,hz];refine AF AY k2 cC cW cW2 cF1 AB AB ?_;exact⟨_,E9 (F6 (.nil 1)) (.refl _),pz.out,rfl⟩
 have k2:(FP x f t m != 0)=false:=by rw[h1];rfl
 rw[AH (λq=>q h1)]at hE
 by_cases h2:Cv x f m=0
 rotate_left
 ·have k3:(Cv x f m != 0)=true:=FW h2
  rw[AI h2]at hE;rw[hE,AI h2]at hB;rw[hE]at pz;rw[AI h2]at hDB hDL;rw[hDB,hDL,hz]at cD;rw[hB,hE,hz];refine AF AY (Aa k2 k3) cC cW cW2 cF1 cD AB ?_;exact⟨_,E9 (F6 (.nil 1)) (.refl _),pz.out,rfl⟩
 rw[AH (λq=>q h2)]at hE hDB hDL;have cFi:=hFi h2;have k3:((0:Int) != 0)=false:=rfl;rw[hDB,hDL,h2,hoD]at cD;have hBe:IF x f t m=GS (Bj x f m) t (CQ x f m):=by
  rw[hB,hE]
  by_cases h3:E3 (Bj x f m) t (CQ x f m)=0
  ·rw[AH (λq=>q h3)]
  ·rw[AI h3,hfz h3]
 rw[hBe,hrD,hE];rw[hE]at po;refine AF AY (Aa k2 k3) cC cW cW2 cF1 cD cFi ?_;exact AM rfl po.out
abbrev Ec:Dr:=[(5,[0,1,2,3,4,5],[6,7,8,9]),(12,[0,1,2,3,4,5,6,7,8,9],[10,11,12,13])]
open Go.Proofs Go.RowKit
set_option maxRecDepth 20000
set_option maxHeartbeats 4000000
theorem pj {y:Aq}(h:Cu y=0):AL C0 12 [y.D,y.D] (Al true):=Ut y (by have:=(Ub h).2.2.2;omega) λc hc=>by
 have:=DW (HT (PT h c hc)).1
 exact⟨by omega,λz hz=>(this.2.1 z hz).2.2⟩
theorem aj:AL C0 12 [EB.D,EB.D] (Al true):=Ut EB (by decide) λc hc=>by cases hc
theorem jA {x:Aq}{f t m:Int}:FP x f t m=if Ck [Cp x [f],Cp x [t],if m<0 then 3 else 0]≠0 then Ck [Cp x [f],Cp x [t],if m<0 then 3 else 0]else if f=t then 9 else 0:=by
 have e:∀a b c:Int,Ck [a,b,c]=if a≠0 then a else if b≠0 then b else if c≠0 then c else 0:=λ_ _ _=>rfl
 have e2:∀a b:Int,Ck [a,b]=if a≠0 then a else if b≠0 then b else 0:=λ_ _=>rfl
 unfold FP;rw[d9v,e,e,e2];have hd:(if decide (m<0)=true then(3:Int)else 0)=if m<0 then 3 else 0:=by
  by_cases h:m<0
  ·rw[AI h,AI (Aw h)]
  ·rw[AH h,AH (by simpa using h)]
 have hq:(if(f==t)=true then(9:Int)else 0)=if f=t then 9 else 0:=by
  by_cases h:f=t
  ·rw[AI h,AI (ED.2 h)]
  ·rw[AH h,AH (λq=>h (ED.1 q))]
 rw[hd,hq];generalize Cp x [f]=a;generalize Cp x [t]=b
 by_cases h1:a=0<;>by_cases h2:b=0<;>by_cases h3:m<0<;>by_cases h4:f=t<;>simp[h1,h2,h3,h4]
structure yG (x:Aq)(f t m:Int):Prop where
 d1:D4 x f m=0
 c:Cp x [t]=0
theorem yQ {x:Aq}{f t m:Int}(h:FP x f t m=0):yG x f t m:=by
 rw[jA]at h;have e:∀a b c:Int,Ck [a,b,c]=if a≠0 then a else if b≠0 then b else if c≠0 then c else 0:=λ_ _ _=>rfl
 by_cases h1:Ck [Cp x [f],Cp x [t],if m<0 then 3 else 0]=0
 rotate_left
 ·rw[AI h1]at h;exact Ak h h1
 rw[e]at h1
 by_cases ha:Cp x [f]=0
 rotate_left
 ·rw[AI ha]at h1;exact Ak h1 ha
 rw[AH (λq=>q ha)]at h1
 by_cases hb:Cp x [t]=0
 rotate_left
 ·rw[AI hb]at h1;exact Ak h1 hb
 rw[AH (λq=>q hb)]at h1;refine⟨?_,hb⟩
 by_cases hm:m<0
 ·rw[AI hm]at h1;cases h1
 ·unfold D4
  rw[ha,Az hm];rfl
theorem lx {x:Aq}{f t m:Int}(h:Cv x f m=0)(hc:Cp x [t]=0):HW (Bj x f m) t (CQ x f m)=0:=by
 have v:=So h;obtain⟨g1,g2,g3⟩:=VZ hc;have e:Cp (Bj x f m) [t]=0:=by
  obtain⟨k,rfl⟩:∃k:Nat,t=(k:Int):=⟨t.toNat,by omega⟩
  have hl:(Bj x f m).cells.length=x.cells.length:=NW ..;unfold Cp;rw[AH (λq=>q v.bin)]
  have:Gu (Bj x f m) (k:Int)=true:=by
   unfold Gu EI;rw[BZ,decide_eq_true_iff,decide_eq_true_iff,hl];omega
  simp[this]
 unfold HW;rw[e,v.par];rfl
theorem xB (ha:AL C0 5 [] (Al true))(x:Aq)(hl:x.cells.length<=9223372036854775807)(hs:∀c∈x.cells,c.length<=9223372036854775807/\∀y∈c,y.shs.length<=9223372036854775807)(f t m:Int):AL C0 3 [x.D,.agg [i64 f,i64 t,i64 m]] (Al true):=by
 refine Af.walk w1 d9B rfl λF=>?_
 have cS:=xM x hl hs;have hk:=@zp x;have hk2:=@dw x;have cD:=iU x;have cT:=zx x;have cC:=rY x;have cB:=xK m 0;have cF1:=fJ [Cp x [f],if m<0 then 3 else 0] (by simp);have cF2:=fJ [Cp x [f],Cp x [t],if m<0 then 3 else 0] (by simp);have hd:(if decide (m<0)=true then(3:Int)else 0)=if m<0 then 3 else 0:=by
  by_cases h:m<0
  ·rw[AI h,AI (Aw h)]
  ·rw[AH h,AH (by simpa using h)]
 have hD1:Ck [Cp x [f],if m<0 then 3 else 0]=D4 x f m:=by unfold D4;rw[hd]
 rw[hD1]at cF1;have hT1:=@jA x f t m;have hTo:=@yQ x f t m;have cR:=xX x f m;have hE:Cv x f m=if D4 x f m≠0 then D4 x f m else if AZ (BC x f)<m then 13 else JF x f m:=rfl
 have hB:Ha x f m=if Cv x f m≠0 then EB else Bj x f m:=rfl
 have hL:G8 x f m=if Cv x f m≠0 then[]else CQ x f m:=rfl
 have hz:EB.D=.agg [str (sb []),i64 0,i64 0,i64 0,.sl false 1 []]:=rfl;have pX:AA x.D:=AJ;have cX:AS x.D:=AJ;have hx:∃a b c d e,x.D=.agg [a,b,c,d,e]:=⟨_,_,_,_,_,rfl⟩
 obtain⟨a1,a2,a3,a4,a5,hx⟩:=hx;rw[hx]at cS cD cT cC cR pX cX⊢;cases hsh:QI x
 ·rw[hsh]at cS
  refine AF Ec kB cS ha AB AB AB AB ?_;exact AM rfl AA.out
 rw[hsh]at cS;obtain⟨q1,q2⟩:=hk hsh;obtain⟨k1,k2,k3⟩:=hk2 q1;have cD:=cD (by omega) (λc q=>⟨by have:=(k3 c q).2;omega,λy h=>((k3 c q).1 y h).1.1⟩) f m;have cT:=cT (by omega) (λc q=>⟨(k3 c q).2,(k3 c q).1⟩) f t m;have cC1:=cC (by omega) (λc q=>⟨by have:=(k3 c q).2;omega,λy h=>((k3 c q).1 y h).2⟩) f;have cC2:=cC (by omega) (λc q=>⟨by have:=(k3 c q).2;omega,λy h=>((k3 c q).1 y h).2⟩) t;have cR:=λh:D4 x f m=0=>cR h (by
  have ok:=Mh h
  have:=(q2 ok.bin).mass _ (Ax ok.at_)
  omega)
 have sB:AL C0 12 [(Ha x f m).D,(Ha x f m).D] (Al true):=by
  by_cases h:Cv x f m=0
  ·rw[hB,AH (λq=>q h)];exact pj (So h).bin
  ·rw[hB,AI h];exact aj
 have sL:AL C0 13 [AV false (G8 x f m),AV false (G8 x f m)] (Al true):=by
  by_cases h:Cv x f m=0
  ·rw[hL,AH (λq=>q h)]
   have:=DW (So h).par
   exact VP false false _ (by omega) λy hy=>(this.2.1 y hy).2.2
  ·rw[hL,AI h];exact VP false false _ (by decide) λy hy=>by cases hy
 have cSL:=sL;have hLe:D4 x f m≠0->Cv x f m=D4 x f m:=λh=>by rw[hE,AI h]
 have hET1:FP x f t m≠0->Gk x f t m=FP x f t m:=λh=>AI h
 have hET2:FP x f t m=0->Cv x f m≠0->Gk x f t m=Cv x f m:=λh h2=>by
  unfold Gk;rw[AH (λq=>q h),AI h2]
 have hET3:FP x f t m=0->Cv x f m=0->Gk x f t m=E3 (Bj x f m) t (CQ x f m):=λh h2=>by
  unfold Gk;rw[AH (λq=>q h),AH (λq=>q h2)]
 have hBz:D4 x f m≠0->Ha x f m=EB/\G8 x f m=[]:=λh=>by
  have h2:Cv x f m≠0:=by rw[hLe h];exact h
  rw[hB,hL,AI h2,AI h2];exact⟨rfl,rfl⟩
 have hTz:Gk x f t m≠0->IF x f t m=EB:=λh=>AI h
 have hTo1:FP x f t m=0->D4 x f m=0:=λh=>(hTo h).d1
 have hTf:FP x f t m=0->Cv x f m=0->GS (Bj x f m) t (CQ x f m)=IF x f t m:=λh h2=>by
  unfold IF;rw[hET3 h h2]
  by_cases h3:E3 (Bj x f m) t (CQ x f m)=0
  ·rw[AH (λq=>q h3)]
  ·rw[AI h3];exact AI h3
 have hfew:=λh:Cv x f m=0=>aN h (λc q=>(k3 c q).1) (λc q=>(k3 c q).2)
 have cFi:FP x f t m=0->Cv x f m=0->AL C0 14 [(Ha x f m).D,i64 t,AV false (G8 x f m)] (.tup [(IF x f t m).D,i64 (Gk x f t m)]):=λh h2=>by
  have:=d8x (Bj x f m) t (CQ x f m) (lx h2 (hTo h).c) λc q=>by have:=((hfew h2).1 c q).1;omega
  rw[hTf h h2,<-hET3 h h2]at this;rw[hB,hL,AH (λq=>q h2),AH (λq=>q h2)];exact this
 have sT:AL C0 12 [(IF x f t m).D,(IF x f t m).D] (Al true):=by
  by_cases h:Gk x f t m=0
  ·have h1:FP x f t m=0:=by
    apply DH;intro q;exact q (by rw[<-hET1 q];exact h)
   have h2:Cv x f m=0:=by
    apply DH;intro q;exact q (by rw[<-hET2 h1 q];exact h)
   have h3:E3 (Bj x f m) t (CQ x f m)=0:=by rw[<-hET3 h1 h2];exact h
   have hs:=(@Xy (Bj x f m) t (CQ x f m) ⟨by rw[show(Bj x f m).cells.length=x.cells.length from NW ..];exact k1,λc q=>((hfew h2).1 c q).1⟩).2 h3;have hn:=(@Xy (Bj x f m) t (CQ x f m) ⟨by rw[show(Bj x f m).cells.length=x.cells.length from NW ..];exact k1,λc q=>((hfew h2).1 c q).1⟩).1;rw[hTf h1 h2]at hs hn;exact Ut _ (by omega) λc q=>by have:=hs c q;exact⟨by omega,this.2⟩
  ·rw[hTz h];exact aj
 have hD0:D4 x f m≠0->∃e,e=[]/\(Ha x f m).D=.agg [str (sb []),i64 0,i64 0,i64 0,.sl false 1 e]:=λh=>⟨[],rfl,by rw[(hBz h).1];exact hz⟩
 have hT0:Gk x f t m≠0->∃e,e=[]/\(IF x f t m).D=.agg [str (sb []),i64 0,i64 0,i64 0,.sl false 1 e]:=λh=>⟨[],rfl,by rw[hTz h];exact hz⟩
 have hL0:D4 x f m≠0->(G8 x f m).map AE.D=[]:=λh=>by rw[(hBz h).2];rfl
 have hLD:AV false (G8 x f m)=.sl false 3 ((G8 x f m).map AE.D):=rfl;have hdD:∃a b c d e,(Ha x f m).D=.agg [a,b,c,d,.sl false 1 e]:=⟨_,_,_,_,_,rfl⟩
 have htD:∃a b c d e,(IF x f t m).D=.agg [a,b,c,d,.sl false 1 e]:=⟨_,_,_,_,_,rfl⟩
 have pdD:AA (Ha x f m).D:=AJ;have cdD:AS (Ha x f m).D:=AJ;have XC:AA (IF x f t m).D:=AJ;have ctD:AS (IF x f t m).D:=AJ;have pLD:AA (AV false (G8 x f m)):=AJ;rw[hLD]at cD cR cFi cSL pLD;clear sL hTz hBz hTf hfew hB hL hLD hTo hz hd hET3 hk hk2 cC;obtain⟨d1,d2,d3,d4,d5,hdD⟩:=hdD;obtain⟨u1,u2,u3,u4,u5,htD⟩:=htD;rw[hdD]at cD cR cFi sB hD0 pdD cdD;rw[htD]at cT cFi sT hT0 XC ctD;obtain⟨LL,hLL⟩:∃L,(G8 x f m).map AE.D=L:=⟨_,rfl⟩
 rw[hLL]at cD cR cFi cSL pLD hL0;obtain⟨T0,hT00⟩:∃E,Ck [Cp x [f],Cp x [t],if m<0 then 3 else 0]=E:=⟨_,rfl⟩
 rw[hT00]at hT1 cF2;obtain⟨T1,hT11⟩:∃E,FP x f t m=E:=⟨_,rfl⟩
 rw[hT11]at hT1 hTo1 hET1 hET2 cFi;obtain⟨ET,hETT⟩:∃E,Gk x f t m=E:=⟨_,rfl⟩
 rw[hETT]at cT cFi hET1 hET2 hT0;obtain⟨E,hEE⟩:∃E,Cv x f m=E:=⟨_,rfl⟩
 rw[hEE]at cD cR cFi hET2 hLe;obtain⟨E1,hEE1⟩:∃E,D4 x f m=E:=⟨_,rfl⟩
 rw[hEE1]at cR cF1 hTo1 hLe hD0 hL0;clear hE hD1;have n1:(E != E)=false:=bne_self_eq_false _;have n2:(ET==ET)=true:=beq_self_eq_true _;refine sR 0 ?_;refine DA ⟨[(2,.optr 0 0 5 0 0),(3,.optr 1 1 3 0 0)],[⟨1,1,26,3,[.agg [i64 f,i64 t,i64 m]]⟩,⟨0,0,24,5,[.agg [a1,a2,a3,a4,a5]]⟩],100⟩ ?_ ?_
 ·refine AF Ec kB cS AB AB AB AB AB ?_
  exact⟨trivial,AK⟩
 refine DA ⟨[(2,.optr 0 0 5 0 0),(3,.optr 1 1 3 0 0),(5,.optr 310 110 5 0 0),(6,.sl false 3 LL),(7,i64 E)],[⟨310,110,24,5,[.agg [d1,d2,d3,d4,.sl false 1 d5]]⟩,⟨1,1,26,3,[.agg [i64 f,i64 t,i64 m]]⟩,⟨0,0,24,5,[.agg [a1,a2,a3,a4,a5]]⟩],200⟩ ?_ ?_
 ·refine AF Ec kB cD AB AB AB AB AB ?_
  exact⟨trivial,AK⟩
 refine DA ⟨[(2,.optr 0 0 5 0 0),(3,.optr 1 1 3 0 0),(5,.optr 310 110 5 0 0),(6,.sl false 3 LL),(7,i64 E),(8,.optr 411 211 5 0 0),(9,i64 ET)],[⟨411,211,24,5,[.agg [u1,u2,u3,u4,.sl false 1 u5]]⟩,⟨310,110,24,5,[.agg [d1,d2,d3,d4,.sl false 1 d5]]⟩,⟨1,1,26,3,[.agg [i64 f,i64 t,i64 m]]⟩,⟨0,0,24,5,[.agg [a1,a2,a3,a4,a5]]⟩],300⟩ ?_ ?_
 ·refine AF Ec kB cT AB AB AB AB AB ?_
  exact⟨trivial,AK⟩
 refine DA ⟨[(2,.optr 0 0 5 0 0),(3,.optr 1 1 3 0 0),(5,.optr 310 110 5 0 0),(6,.sl false 3 LL),(7,i64 E),(8,.optr 411 211 5 0 0),(9,i64 ET),(10,i64 E1)],[⟨411,211,24,5,[.agg [u1,u2,u3,u4,.sl false 1 u5]]⟩,⟨310,110,24,5,[.agg [d1,d2,d3,d4,.sl false 1 d5]]⟩,⟨1,1,26,3,[.agg [i64 f,i64 t,i64 m]]⟩,⟨0,0,24,5,[.agg [a1,a2,a3,a4,a5]]⟩],400⟩ ?_ ?_
 ·refine AF Ec kB cC1 cB cF1 AB AB AB ?_
  exact⟨trivial,AK⟩
 refine sR 600 ?_;refine sR 700 ?_;refine DA ⟨[(2,.optr 0 0 5 0 0),(3,.optr 1 1 3 0 0),(5,.optr 310 110 5 0 0),(6,.sl false 3 LL),(7,i64 E),(8,.optr 411 211 5 0 0),(9,i64 ET),(10,i64 E),(11,.optr 600 400 5 0 0),(12,.sl false 3 LL)],[⟨600,400,24,5,[.agg [d1,d2,d3,d4,.sl false 1 d5]]⟩,⟨411,211,24,5,[.agg [u1,u2,u3,u4,.sl false 1 u5]]⟩,⟨310,110,24,5,[.agg [d1,d2,d3,d4,.sl false 1 d5]]⟩,⟨1,1,26,3,[.agg [i64 f,i64 t,i64 m]]⟩,⟨0,0,24,5,[.agg [a1,a2,a3,a4,a5]]⟩],500⟩ ?_ ?_
 ·by_cases h1:E1=0
  ·have q0:(E1==0)=true:=by rw[h1];rfl
   have cR:=cR h1;refine AF Ec q0 cR AB AB AB AB AB ?_;exact⟨trivial,AK⟩
  ·have q0:(E1==0)=false:=Bo.2 h1
   obtain⟨e,rfl,he⟩:=hD0 h1;have hL0:=hL0 h1;have hLe:=hLe h1;simp only[D.agg.injEq,Eu,D.sl.injEq,true_and,and_true]at he;obtain⟨rfl,rfl,rfl,rfl,rfl⟩:=he;rw[hLe,hL0];refine AF Ec q0 AB AB AB AB AB AB ?_;exact⟨trivial,AK (a:=Rr (.nil 1) (.keep (.keep (.keep (.keep .nil))))) (b:=⟨.refl _,.refl _,.refl _,.refl _,.refl _,.refl _,.refl _,.refl _,.refl _,.nil 3,trivial⟩)⟩
 refine DA ⟨[(2,.optr 0 0 5 0 0),(3,.optr 1 1 3 0 0),(8,.optr 411 211 5 0 0),(9,i64 ET)],[⟨411,211,24,5,[.agg [u1,u2,u3,u4,.sl false 1 u5]]⟩,⟨1,1,26,3,[.agg [i64 f,i64 t,i64 m]]⟩,⟨0,0,24,5,[.agg [a1,a2,a3,a4,a5]]⟩],600⟩ ?_ ?_
 ·refine AF Ec (Ao n1 kT kF) sB cSL AB AB AB AB ?_
  exact⟨trivial,AK⟩
 refine DA ⟨[(2,.optr 0 0 5 0 0),(3,.optr 1 1 3 0 0),(8,.optr 411 211 5 0 0),(9,i64 ET),(10,i64 T0)],[⟨411,211,24,5,[.agg [u1,u2,u3,u4,.sl false 1 u5]]⟩,⟨1,1,26,3,[.agg [i64 f,i64 t,i64 m]]⟩,⟨0,0,24,5,[.agg [a1,a2,a3,a4,a5]]⟩],700⟩ ?_ ?_
 ·refine AF Ec kB cC1 cC2 cB cF2 AB AB ?_
  exact⟨trivial,AK⟩
 refine DA ⟨[(2,.optr 0 0 5 0 0),(3,.optr 1 1 3 0 0),(8,.optr 411 211 5 0 0),(9,i64 ET),(10,i64 T1)],[⟨411,211,24,5,[.agg [u1,u2,u3,u4,.sl false 1 u5]]⟩,⟨1,1,26,3,[.agg [i64 f,i64 t,i64 m]]⟩,⟨0,0,24,5,[.agg [a1,a2,a3,a4,a5]]⟩],800⟩ ?_ ?_
 ·by_cases h1:T0=0
  ·have q0:(T0==0)=true:=by rw[h1];rfl
   rw[AH (λq=>q h1)]at hT1
   by_cases h2:f=t
   ·have q1:(f==t)=true:=ED.2 h2
    rw[AI h2]at hT1;rw[hT1];refine AF Ec (Aa q0 q1) AB AB AB AB AB AB ?_;exact⟨trivial,AK⟩
   ·have q1:(f==t)=false:=Bo.2 h2
    rw[AH h2,<-h1]at hT1;rw[hT1];refine AF Ec (Aa q0 q1) AB AB AB AB AB AB ?_;exact⟨trivial,AK⟩
  ·have q0:(T0==0)=false:=Bo.2 h1
   rw[AI h1]at hT1;rw[hT1];refine AF Ec q0 AB AB AB AB AB AB ?_;exact⟨trivial,AK⟩
 refine sR 1500 ?_
 by_cases h1:T1=0
 rotate_left
 ·have q0:(T1==0)=false:=Bo.2 h1
  have q1:(T1 != 0)=true:=FW h1;have hET:=hET1 h1;subst hET;obtain⟨e,rfl,he⟩:=hT0 h1;simp only[D.agg.injEq,Eu,D.sl.injEq,true_and,and_true]at he;obtain⟨rfl,rfl,rfl,rfl,rfl⟩:=he;refine DA ⟨[(8,.optr 411 211 5 0 0),(9,i64 ET),(10,i64 ET),(13,.optr 1500 800 5 0 0)],[⟨1500,800,24,5,[.agg [.prim (.string ⟨#[]⟩),.prim (.int .i64 0),.prim (.int .i64 0),.prim (.int .i64 0),.prim (.slice none 0 0)]]⟩,⟨411,211,24,5,[.agg [str (sb []),i64 0,i64 0,i64 0,.sl false 1 []]]⟩],900⟩ ?_ ?_
  ·refine AF Ec q0 AB AB AB AB AB AB ?_
   exact⟨trivial,AK⟩
  refine DA ⟨[(8,.optr 411 211 5 0 0),(9,i64 ET),(10,i64 ET),(13,.optr 1500 800 5 0 0)],[⟨1500,800,24,5,[.agg [.prim (.string ⟨#[]⟩),.prim (.int .i64 0),.prim (.int .i64 0),.prim (.int .i64 0),.prim (.slice none 0 0)]]⟩,⟨411,211,24,5,[.agg [str (sb []),i64 0,i64 0,i64 0,.sl false 1 []]]⟩],1000⟩ ?_ ?_
  ·refine AF Ec q0 AB AB AB AB AB AB ?_
   exact⟨trivial,AK⟩
  refine DA ⟨[(8,.optr 411 211 5 0 0),(9,i64 ET),(10,i64 ET),(13,.optr 1500 800 5 0 0)],[⟨1500,800,24,5,[.agg [str (sb []),i64 0,i64 0,i64 0,.sl false 1 []]]⟩,⟨411,211,24,5,[.agg [str (sb []),i64 0,i64 0,i64 0,.sl false 1 []]]⟩],1100⟩ ?_ ?_
  ·refine AF Ec q1 AB AB AB AB AB AB ?_
   exact⟨trivial,AK (a:=Rr (.nil 1) (.keep .nil))⟩
  refine AF Ec n2 sT ha AB AB AB AB ?_;exact AM rfl AA.out
 have q0:(T1==0)=true:=by rw[h1];rfl
 have cR:=cR (hTo1 h1);refine DA ⟨[(3,.optr 1 1 3 0 0),(8,.optr 411 211 5 0 0),(9,i64 ET),(10,i64 E),(12,.sl false 3 LL),(13,.optr 1500 800 5 0 0)],[⟨1500,800,24,5,[.agg [d1,d2,d3,d4,.sl false 1 d5]]⟩,⟨411,211,24,5,[.agg [u1,u2,u3,u4,.sl false 1 u5]]⟩,⟨1,1,26,3,[.agg [i64 f,i64 t,i64 m]]⟩],900⟩ ?_ ?_
 ·refine AF Ec q0 cR AB AB AB AB AB ?_
  exact⟨trivial,AK⟩
 have hfin:∀F:Ad,True:=λ_=>trivial
 by_cases h2:E=0
 rotate_left
 ·have q2:(E==0)=false:=Bo.2 h2
  have q1:(E != 0)=true:=FW h2;have hET:=hET2 h1 h2;subst hET;obtain⟨e,rfl,he⟩:=hT0 h2;simp only[D.agg.injEq,Eu,D.sl.injEq,true_and,and_true]at he;obtain⟨rfl,rfl,rfl,rfl,rfl⟩:=he;refine DA ⟨[(8,.optr 411 211 5 0 0),(9,i64 ET),(10,i64 ET),(13,.optr 1500 800 5 0 0)],[⟨1500,800,24,5,[.agg [d1,d2,d3,d4,.sl false 1 d5]]⟩,⟨411,211,24,5,[.agg [str (sb []),i64 0,i64 0,i64 0,.sl false 1 []]]⟩],1000⟩ ?_ ?_
  ·refine AF Ec q2 AB AB AB AB AB AB ?_
   exact⟨trivial,AK⟩
  refine DA ⟨[(8,.optr 411 211 5 0 0),(9,i64 ET),(10,i64 ET),(13,.optr 1500 800 5 0 0)],[⟨1500,800,24,5,[.agg [str (sb []),i64 0,i64 0,i64 0,.sl false 1 []]]⟩,⟨411,211,24,5,[.agg [str (sb []),i64 0,i64 0,i64 0,.sl false 1 []]]⟩],1100⟩ ?_ ?_
  ·refine AF Ec q1 AB AB AB AB AB AB ?_
   exact⟨trivial,AK (a:=Rr (.nil 1) (.keep .nil))⟩
  refine AF Ec n2 sT ha AB AB AB AB ?_;exact AM rfl AA.out
 have q2:(E==0)=true:=by rw[h2];rfl
 have cFi:=cFi h1 h2;refine DA ⟨[(8,.optr 411 211 5 0 0),(9,i64 ET),(10,i64 ET),(13,.optr 1500 800 5 0 0)],[⟨1500,800,24,5,[.agg [u1,u2,u3,u4,.sl false 1 u5]]⟩,⟨411,211,24,5,[.agg [u1,u2,u3,u4,.sl false 1 u5]]⟩],1000⟩ ?_ ?_
 ·refine AF Ec q2 cFi AB AB AB AB AB ?_
  exact⟨trivial,AK⟩
 by_cases h3:ET=0
 ·have q1:(ET != 0)=false:=by rw[h3];rfl
  refine AF Ec (Aa q1 n2) sT ha AB AB AB AB ?_;exact AM rfl AA.out
 have q1:(ET != 0)=true:=FW h3;obtain⟨e,rfl,he⟩:=hT0 h3;simp only[D.agg.injEq,Eu,D.sl.injEq,true_and,and_true]at he;obtain⟨rfl,rfl,rfl,rfl,rfl⟩:=he;refine DA ⟨[(8,.optr 411 211 5 0 0),(9,i64 ET),(10,i64 ET),(13,.optr 1500 800 5 0 0)],[⟨1500,800,24,5,[.agg [str (sb []),i64 0,i64 0,i64 0,.sl false 1 []]]⟩,⟨411,211,24,5,[.agg [str (sb []),i64 0,i64 0,i64 0,.sl false 1 []]]⟩],1100⟩ ?_ ?_
 ·refine AF Ec q1 AB AB AB AB AB AB ?_
  exact⟨trivial,AK (a:=Rr (.nil 1) (.keep .nil))⟩
 refine AF Ec n2 sT ha AB AB AB AB ?_;exact AM rfl AA.out
open Go.Sort
def tA:List UInt8:=[97]
def tB:List UInt8:=[98]
def Fd:List UInt8:=[119,104,101,97,116]
def Nf:List UInt8:=[102,117,110,110,101,108]
def C9 (m:Int):AE:=⟨Fd,m,[⟨tA,[49]⟩]⟩
def DV (m:Int):AE:=⟨Fd,m,[⟨tA,[49,47,50]⟩,⟨tB,[49,47,50]⟩]⟩
def Fv (x:AE):D:=.agg [str (sb x.grain),i64 x.mass,.sl true 2 (x.shs.map Au.D)]
def jT:D:=.agg [str (sb Nf),i64 4,i64 30,i64 12,.sl true 1 [.sl true 3 [Fv (C9 10),Fv (DV 6)],.sl true 3 [Fv (C9 5)]]]
theorem zI:AL C0 18 [] jT:=Ca Dx 400 40
def Lo (d d':D):Prop:=∀(ρ:Lk) (O:Nat->Prop) (w:World) (v:Value),AW ρ O w d v->AW ρ O w d' v
theorem Lo.refl (d:D):Lo d d:=λ_ _ _ _ h=>h
theorem Lo.agg {ds ds':List D}(hl:ds.length=ds'.length)(h:∀(i:Nat) (d d':D),ds[i]?=some d->ds'[i]?=some d'->Lo d d'):Lo (.agg ds) (.agg ds'):=λρ O w v hv=>by
 cases hv with
 |agg hn ho hd=>
  refine .agg (hn.trans hl) ho λi d' hd'=>?_
  have hi:i<ds.length:=by rw[hl];exact(BS.1 hd').1
  exact h i _ d' (Bs hi) hd' _ _ _ _ (hd i _ (Bs hi))
theorem Lo.tup {ds ds':List D}(hl:ds.length=ds'.length)(h:∀(i:Nat) (d d':D),ds[i]?=some d->ds'[i]?=some d'->Lo d d'):Lo (.tup ds) (.tup ds'):=λρ O w v hv=>by
 cases hv with
 |tup hn hd=>
  refine .tup (hn.trans hl) λi d' hd'=>?_
  have hi:i<ds.length:=by rw[hl];exact(BS.1 hd').1
  exact h i _ d' (Bs hi) hd' _ _ _ _ (hd i _ (Bs hi))
def Ov (e e':D):Prop:=e'.cells.length=e.cells.length/\∀(j:Nat) (d d':D),e.cells[j]?=some d->e'.cells[j]?=some d'->Lo d d'
theorem Lo.sl {b:Bool}{sz:Nat}{es es':List D}(hl:es.length=es'.length)(hc:∀(i:Nat) (e e':D),es[i]?=some e->es'[i]?=some e'->Ov e e'):Lo (.sl b sz es) (.sl false sz es'):=λρ O w v hv=>by
 cases hv with
 |nil=>
  have:es'=[]:=List.length_eq_zero_iff.1 hl.symm
  subst this;exact .nil sz
 |emp a=>
  have:es'=[]:=List.length_eq_zero_iff.1 hl.symm
  subst this;exact .emp a
 |sl f hl' hc' hO hb hz hcell ho h=>
  have hx:∀(i:Nat) (e':D),es'[i]?=some e'->∃e,es[i]?=some e/\Ov e e':=λi e' he'=>by
   have hi:i<es.length:=by rw[hl];exact(BS.1 he').1
   exact⟨_,Bs hi,hc i _ e' (Bs hi) he'⟩
  refine .sl f (hl.symm.trans hl') hc' hO hb (λi e' he'=>?_) hcell ho λi e' j d' he' hd'=>?_
  ·obtain⟨e,he,h1,h2⟩:=hx i e' he'
   rw[h1];exact hz i e he
  ·obtain⟨e,he,h1,h2⟩:=hx i e' he'
   have hj:j<e.cells.length:=by rw[<-h1];exact(BS.1 hd').1
   exact h2 j _ d' (Bs hj) hd' _ _ _ _ (h i e j _ he (Bs hj))
def loosen:Nat->D->D
 | 0,d=>d
 |n+1,.agg ds=>.agg (ds.map (loosen n))
 |n+1,.tup ds=>.tup (ds.map (loosen n))
 |n+1,.sl _ sz es=>.sl false sz (es.map (loosen n))
 |_+1,d=>d
theorem V0 {f:D->D}(hf:∀d,Lo d (f d))(ds:List D)(i:Nat)(d d':D)(h:ds[i]?=some d)(h':(ds.map f)[i]?=some d'):Lo d d':=by
 rw[Ay,h]at h';cases h';exact hf d
theorem Y2:∀n:Nat,(∀d,Lo d (loosen n d))/\∀e,Ov e (loosen n e)
 | 0=>⟨λd=>.refl d,λe=>⟨rfl,λj d d' h h'=>by
   have:d=d':=by
    have:=h.symm.trans h'
    injection this
   subst this;exact .refl d⟩⟩
 |n+1=>by
  obtain⟨h1,h2⟩:=Y2 n;have hs:∀(es:List D) (i:Nat) (e e':D),es[i]?=some e->(es.map (loosen n))[i]?=some e'->Ov e e':=λes i e e' h h'=>by
   rw[Ay,h]at h';cases h';exact h2 e
  have hL:∀d,Lo d (loosen (n+1) d):=λd=>by
   cases d with
   |agg ds=>exact .agg (by simp) (V0 h1 ds)
   |tup ds=>exact .tup (by simp) (V0 h1 ds)
   |sl b sz es=>exact .sl (by simp) (hs es)
   |_=>exact .refl _
  refine⟨hL,λe=>?_⟩;have one:e.cells=[e]->(loosen (n+1) e).cells=[loosen (n+1) e]->Ov e (loosen (n+1) e):=λa b=>by
   refine⟨by rw[a,b];rfl,λj d d' h h'=>?_⟩;rw[a]at h;rw[b]at h'
   match j with
   | 0=>cases h;cases h';exact hL e
   |j+1=>cases h
  cases e with
  |agg ds=>exact⟨by simp[loosen,D.cells],λj d d' h h'=>V0 h1 ds j d d' h h'⟩
  |_=>exact one rfl rfl
theorem AL.loosen {C:BA}{f:Nat}{args:List D}{d:D}(h:AL C f args d)(n:Nat):AL C f args (loosen n d):=
 ⟨h.1,λX w vs a b c e g=>(h.2 X w vs a b c e g).mono λ_ _ ⟨v,d,h1,h2,h3,h4⟩=>⟨v,_,h1,h2,rfl,by subst h3;exact(Y2 n).1 _ _ _ _ _ h4⟩⟩
section
variable {C:BA} {F B:Ad} {ops:Array Oper} {rd:Option Nat}
theorem oE {K1:St->Prop}{Q:Exit->Act->World->Prop}{l2:List Nat}(h2:∀(s1:St) (ρ:Lk) (a:Act) (w:World),K1 s1->Br C F ρ s1 a w->wpOps C.P ops Q l2 a w):∀(l:List Nat) (a:Act) (w:World),wpOps C.P ops (K5 C F K1) l a w->wpOps C.P ops Q (l++l2) a w:=by
 intro l
 induction l with
 |nil=>rintro a w ⟨_,s',ρ',hq,hs'⟩;exact h2 s' ρ' a w hq hs'
 |cons i l ih=>
  intro a w h;simp only[EU,wpOps]at h⊢;cases ho:ops[i]? with
  |none=>simp only[ho]at h⊢;exact ih a w h
  |some o=>
   simp only[ho]at h⊢;split
   ·rename_i hw
    rw[AI hw]at h;rcases h with h|⟨_,⟨a0,w0,h0⟩⟩
    ·refine .inl ?_
     unfold Oper.wp Oper.upon at h⊢;split<;>rename_i hr<;>simp only[hr]at h
     ·exact ih _ _ h
     ·exact ih _ _ h
     ·exact ih _ _ h
     ·refine Calls.mono h λe w'' he=>?_
      cases e with
      |returned v=>exact ih _ _ he
      |panicked c=>cases he.1
      |outgrown=>obtain⟨a0,w0,h0⟩:=he;cases h0.1
     ·exact Rows.mono h λ_ _ he=>ih _ _ he
     ·cases h.1
    ·cases h0.1
   ·rename_i hw
    rw[AH hw]at h;exact ih _ _ h
theorem e0M {K:St->Prop}{os1 os2:List Oper}{s:St}(h:BK C F ops os1 s (λs1=>BK C F ops os2 s1 K)):BK C F ops (os1++os2) s K:=by
 intro hd l hl ρ a w hs;rw[Ks,BZ]at hd;have hlen:l.length=os1.length+os2.length:=by
  have:=congrArg List.length hl
  simpa using this
 obtain⟨l1,l2,rfl,e1⟩:∃l1 l2,l=l1++l2/\l1.length=os1.length:=⟨l.take os1.length,l.drop os1.length,(Fq _ _).symm,by rw[Bc];omega⟩
 rw[Cz,Cz]at hl;obtain⟨h1,h2⟩:=List.append_inj hl (by simpa using e1);exact oE (λs1 ρ a w hk hs=>hk hd.2 l2 h2 ρ a w hs) l1 a w (h hd.1 l1 h1 ρ a w hs)
theorem e1b {X:EV}{i:Nat}{s:St}{Q:Exit->Ad->St->Prop}(hX:Dg C X)(hnd:Eo ops.toList=true)(h:BK C F ops ((List.range ops.size).map λj=>ops.getD j default) s (Q .normal F)):AC C B rd F (.region i ops false) s Q:=by
 refine⟨λhB hd ρ a w hs=>wpIn_region ?_⟩;have hd:=KL hB hd;have h1:=BK.run h (λj hj=>List.mem_range.1 hj) hd hs
 have:=GN (rd:=rd) (Q:=F8 C B Q) (l2:=[]) (λ_ _ _ h=>KC hB (λ_ h=>h) h) (IX hnd) _ a w h1
 rwa [De]at this
def Wu (C:BA)(F:Ad)(X:EV)(kb:Nat)(ops:Array Oper):List (List Nat×Nat)->List Nat->St->(St->Prop)->Prop
 | [],l,s,K=>C7 C X kb ops l s True λacc s=>acc/\K s
 |(l1,i)::r,l,s,K=>C7 C X kb ops l1 s True λacc s1=>acc/\∃d,(∀(os:List Oper) (K':St->Prop),BK C F ops os ⟨Bh s1.env (ops.getD i default).dst d,s1.H,s1.n+1⟩ K'->BK C F ops (ops.getD i default::os) s1 K')/\Wu C F X kb ops r l ⟨Bh s1.env (ops.getD i default).dst d,s1.H,s1.n+1⟩ K
def Qg:List (List Nat×Nat)->List Nat->List Nat
 | [],l=>l
 |(l1,i)::r,l=>l1++i::Qg r l
theorem bE {X:EV}(hX:Dg C X){kb:Nat}{K:St->Prop}:∀(r:List (List Nat×Nat)) (l:List Nat) (s:St),Wu C F X kb ops r l s K->BK C F ops ((Qg r l).map λj=>ops.getD j default) s K
 | [],l,s,h=>(F5 hX (λacc s h=>h) h).2
 |(l1,i)::r,l,s,h=>by
  show BK C F ops ((l1++i::Qg r l).map _) s K;rw[Cz,Cx];refine e0M ?_;refine(F5 (K':=λs1=>BK C F ops (ops.getD i default::(Qg r l).map λj=>ops.getD j default) s1 K) hX (λacc s1 h=>⟨h.1,?_⟩) h).2;obtain⟨d,h1,h2⟩:=h.2;exact h1 _ _ (bE hX r l _ h2)
theorem e1c {X:EV}{i:Nat}{s:St}{Q:Exit->Ad->St->Prop}(hX:Dg C X)(kb:Nat)(r:List (List Nat×Nat))(l:List Nat)(hl:List.range ops.size=Qg r l)(hnd:Eo ops.toList=true)(h:Wu C F X kb ops r l s (Q .normal F)):AC C B rd F (.region i ops false) s Q:=
 e1b hX hnd (by rw[hl];exact bE hX r l s h)
def T2 (P:Program) (t:Nat):Prop:=∃(f1 f2:Field) (k1 k2:IntKind),P.underlying t=some (.struct #[f1,f2])/\P.stoodInHeld t=false/\P.eqGuardType P.depth t=false/\f1.name ≠ "_"/\f1.offset=0/\P.underlying f1.type=some (.int k1)/\f2.name ≠ "_"/\f2.offset=1/\P.underlying f2.type=some (.int k2)
theorem Xn {P:Program} {w:World} (d:Nat) {xs ys:Array Value} {f:Field} {fs:List Field} {i:Nat} {ka k:IntKind} {x y:Int} {b:Bool} (f1:f.name ≠ "_") (f2:f.offset=i) (f3:P.underlying f.type=some (.int k)) (hxa:xs[i]?=some (.int ka x)) (hya:ys[i]?=some (.int ka y))
  (ih:(Op.eqFields (d+1) xs ys fs).run P w=.ok b w):(Op.eqFields (d+1) xs ys (f::fs)).run P w=.ok (x==y&&b) w:=by
 have ag:(isAgg f.type).run P w=.ok false w:=by
  unfold isAgg;rw[run_bind,C6 f3];rfl
 have part1:(part f.type xs f.offset).run P w=.ok (.int ka x) w:=by
  unfold part;rw[run_bind,ag];dsimp only;rw[AH (by simp),f2];simp only[hxa];rfl
 have part2:(part f.type ys f.offset).run P w=.ok (.int ka y) w:=by
  unfold part;rw[run_bind,ag];dsimp only;rw[AH (by simp),f2];simp only[hya];rfl
 simp only[Op.eqFields];rw[AI f1,run_bind,part1];dsimp only;rw[run_bind,part2];dsimp only;rw[run_bind,run_equalIn_int w d f.type ka k x y f3];dsimp only;cases hb:x==y with
 |true=>simpa using ih
 |false=>rfl
theorem jH {o:Oper}{os:List Oper}{s:St}{K:St->Prop}{t tt:Nat}{x y:Operand}{a1 a2 b1 b2:Int}(hw:CJ ops s.env o=some true)(ho:o.op=.binOp .neq t x y tt)(hT:T2 C.P t)(hx:BG s.env x=.agg [i64 a1,i64 a2])(hy:BG s.env y=.agg [i64 b1,i64 b2])
  (h:BK C F ops os ⟨Bh s.env o.dst (Al (!(a1==b1&&(a2==b2&&true)))),s.H,s.n+1⟩ K):BK C F ops (o::os) s K:=
 BK.step hw (λρ a w hs=>by
  refine⟨_,ρ,w,.inl ?_,Qn.pure hs (.prim _),λe he=>Dd (hs.gen e he)⟩;have rx:=Dh hs.env x;have ry:=Dh hs.env y;rw[hx]at rx;rw[hy]at ry;unfold execOp;simp only[ho];generalize a.eval x=vx at rx⊢;generalize a.eval y=vy at ry⊢;cases rx with
  |agg n1 o1 r1=>
   cases ry with
   |agg n2 o2 r2=>
    rename_i xs ys;obtain⟨f1,f2,k1,k2,c1,c2,c3,c4,c5,c6,c7,c8,c9⟩:=hT;have at_:∀ {vs:Array Value} {u1 u2:Int},vs.size=[i64 u1,i64 u2].length->(∀(i:Nat) (d:D),[i64 u1,i64 u2][i]?=some d->AW ρ (AN F.X ρ s.H) w d (vs.getD i undef))->vs[0]?=some (.int .i64 u1)/\vs[1]?=some (.int .i64 u2):=λ{vs u1 u2} n r=>by
     have q0:=r 0 _ rfl;have q1:=r 1 _ rfl;have m0:0<vs.size:=by rw[n];exact Nat.zero_lt_succ _
     have m1:1<vs.size:=by rw[n];exact IM _
     rw[Av,B3 m0,JT]at q0;rw[Av,B3 m1,JT]at q1;rw[B3 m0,B3 m1];generalize vs[0]=z0 at q0;generalize vs[1]=z1 at q1;cases q0;cases q1;exact⟨rfl,rfl⟩
    obtain⟨x0,x1⟩:=at_ n1 r1;obtain⟨y0,y1⟩:=at_ n2 r2;have eqf:C.P.fieldsOf t = #[f1,f2]:=by unfold Program.fieldsOf;rw[c1]
    have run:(Op.equalIn 10000 t (.agg xs) (.agg ys)).run C.P w=.ok (a1==b1&&(a2==b2&&true)) w:=by
     rw[show(10000:Nat)=9998+1+1 from rfl,run_equalIn_struct w _ t xs ys (by rw[eqf];exact c1) c2,eqf];exact Xn 9998 c4 c5 c6 x0 y0 (Xn 9998 c7 c8 c9 x1 y1 rfl)
    have r3:(do eqGuard .neq t x y (.agg xs) (.agg ys);binOp .neq t (.agg xs) (.agg ys):Sem Value).run C.P w=.ok (.bool (!(a1==b1&&(a2==b2&&true)))) w:=by
     rw[run_bind,run_eqGuard_agg w .neq t x y xs ys c3];dsimp only;rw[run_neq_struct,run];rfl
    rw[run_bind,r3];rfl) h
end
def TH (P:Program)(t:Nat):Bool:=match P.underlying t with
 |some (.int _)=>true
 |_=>false
theorem aW {P:Program}{t:Nat}(h:TH P t=true):∃k,P.underlying t=some (.int k):=by
 unfold TH at h;split at h
 ·rename_i k hk;exact⟨k,hk⟩
 ·cases h
def jZ (P:Program):List Field->Bool
 | [f1,f2]=>(f1.name != "_")&&Nat.beq f1.offset 0&&TH P f1.type&&(f2.name != "_")&&Nat.beq f2.offset 1&&TH P f2.type
 |_=>false
def jY (P:Program)(t:Nat):Bool:=match P.underlying t with
 |some (.struct fs)=>!(P.stoodInHeld t) && !(P.eqGuardType P.depth t)&&jZ P fs.toList
 |_=>false
theorem xd {P:Program}{t:Nat}(h:jY P t=true):T2 P t:=by
 unfold jY at h;split at h<;>try(cases h;done)
 rename_i fs hu;simp only[BZ,Bq]at h;obtain⟨⟨h1,h2⟩,h3⟩:=h;obtain⟨l⟩:=fs
 match l,h3 with
 | [f1,f2],h3=>
  simp only[jZ,BZ,bne_iff_ne]at h3;obtain⟨⟨⟨⟨⟨g1,g2⟩,g3⟩,g4⟩,g5⟩,g6⟩:=h3;obtain⟨k1,e1⟩:=aW g3;obtain⟨k2,e2⟩:=aW g6;exact⟨f1,f2,k1,k2,hu,h1,h2,g1,CC g2,e1,g4,CC g5,e2⟩
theorem an:T2 C0.P 65:=xd (by kernel_rfl)
def lA:List AE:=[C9 10,DV 6]
def lB:List AE:=[C9 5]
def cA:D:=AV false lA
def cB:D:=AV false lB
def Dz:D:=.agg [str (sb Nf),i64 4,i64 30,i64 12,.sl false 1 [cA,cB]]
theorem d9u:AL C0 18 [] Dz:=by
 have h:=zI.loosen 10
 rwa [show loosen 10 jT=Dz from rfl]at h
theorem ae {x:AE}(h:decide (x.grain.length<=1000)&&decide (x.shs.length<=1000)&&x.shs.all (λs=>decide (s.lot.length<=1000)&&decide (s.part.length<=40))=true):x.lite:=by
 simp only[BZ,HJ,CW]at h;obtain⟨⟨h1,h2⟩,h3⟩:=h;exact⟨⟨by omega,by omega,λs hs=>⟨by have:=(h3 s hs).1;omega,by have:=(h3 s hs).2;omega⟩⟩,h3⟩
theorem SW:∀x∈lA,x.lite:=by
 intro x hx;simp only[lA,A8,Dq,or_false]at hx;rcases hx with rfl|rfl<;>exact ae rfl
theorem xL:∀x∈lB,x.lite:=by
 intro x hx;simp only[lB,A8,Dq,or_false]at hx;subst hx;exact ae rfl
theorem Sa:Bw lA=0:=by kernel_rfl
theorem yY:Bw lB=0:=by kernel_rfl
theorem rq:Li lA=[(tA,13),(tB,3)]:=by kernel_rfl
theorem Wc:GE (CU lA)=[(tA,13),(tB,3)]:=by rw[<-Zo];exact rq
theorem bA:(CU lA).any (λp=>EG p.2)=false:=by kernel_rfl
theorem rr:Sk lA=0:=by
 unfold Sk JB;rw[AH (by rw[Sa];exact λh=>h rfl),bA];rfl
theorem rt:Sl lA=[(tA,13),(tB,3)]:=by
 unfold Sl KV;rw[AH (by rw[Sa];exact λh=>h rfl),bA,Wc];rfl
def Tg:List UInt8:=[49,51]
def t3:List UInt8:=[51]
def G6:List UInt8:=[49,51,47,49,54]
def HF:List UInt8:=[51,47,49,54]
def Lv (m:Int):AE:=⟨Fd,m,[⟨tA,G6⟩,⟨tB,HF⟩]⟩
theorem zd:C8 (tA,13)=FQ (tA,Tg):=by unfold C8 FQ;rw[show BT 13=Tg by kernel_rfl]
theorem ze:C8 (tB,3)=FQ (tB,t3):=by unfold C8 FQ;rw[show BT 3=t3 by kernel_rfl]
theorem tD:AL C0 19 [cA] (.tup [.sl false 2 [FQ (tA,Tg),FQ (tB,t3)],i64 0]):=by
 have h:=zw false lA (by decide) SW;rw[rr,rt,Cx,Cx,List.map_nil,zd,ze]at h;exact h
theorem S6:lA.map (EN Fd)=lA:=rfl
theorem yW:IC lA=0:=by kernel_rfl
theorem zh:[((tA,13):List UInt8×Rat),(tB,3)].any (λp=>EG (p.2/(AZ lA:Rat)))=false:=by kernel_rfl
theorem zi:(CU lA).length=2:=by kernel_rfl
theorem eQ:Hb lA=0:=by
 unfold Hb;rw[AH (by rw[yW];exact λh=>h rfl),AH (by rw[zi];decide),Wc,zh];rfl
theorem WB:FS lA=[⟨tA,G6⟩,⟨tB,HF⟩]:=by
 unfold FS;rw[Wc];kernel_rfl
theorem Sx:AZ lA=16:=by kernel_rfl
theorem yX:Lw lA=Lv 16:=by rw[aS eQ,WB,Sx];rfl
theorem bB:H6 lA Fd=0:=by kernel_rfl
theorem bC:JE lA Fd=0:=by unfold JE;rw[bB,S6,eQ];rfl
theorem ru:Ms lA Fd=Lv 16:=by unfold Ms;rw[bB,S6,yX];rfl
theorem tI:AL C0 20 [cA,str (sb Fd)] (.tup [(Lv 16).D,i64 0]):=by
 have h:=iV false lA Fd (by decide) SW (by decide);rw[bC,ru]at h;exact h
theorem yV:Gg lA 15=⟨Fd,1,[⟨tA,G6⟩,⟨tB,HF⟩]⟩:=by
 unfold Gg;rw[Sx,show(CT lA 0).grain=Fd from rfl,S6,WB];rfl
theorem eO:IA (Gg lA 15)=[(tA,mkRat 13 16),(tB,mkRat 3 16)]:=by rw[yV];kernel_rfl
theorem eM:[((tA,mkRat 13 16):List UInt8×Rat),(tB,mkRat 3 16)].any (λp=>EG p.2)=false:=by kernel_rfl
theorem yU:JB (CU [Gg lA 15])=0:=by
 unfold JB;rw[(VC lA 15).1,eO,eM];rfl
theorem yZ:CI lA=true:=by kernel_rfl
theorem WC:Ju lA 15=0:=by
 unfold Ju;rw[Sa,AH (λh=>h rfl),AH (by decide),Sx,AH (by decide),yZ,AH (λh=>by cases h),show(CT lA 0).grain=Fd from rfl,bC,AH (λh=>h rfl),AH (by decide),yU]
theorem y6:S3 lA 15=Lv 15:=by
 unfold S3;rw[WC,AH (λh=>h rfl),show(CT lA 0).grain=Fd from rfl,S6,WB];rfl
theorem y5:S2 lA 15=[(tA,mkRat 13 16),(tB,mkRat 3 16)]:=by
 unfold S2 KV;rw[WC,AH (λh=>h rfl),Sx,AH (by decide),(VC lA 15).2,(VC lA 15).1,eO,eM];rfl
theorem zf:C8 (tA,mkRat 13 16)=FQ (tA,G6):=by unfold C8 FQ;rw[show BT (tA,mkRat 13 16).2=G6 by kernel_rfl]
theorem zg:C8 (tB,mkRat 3 16)=FQ (tB,HF):=by unfold C8 FQ;rw[show BT (tB,mkRat 3 16).2=HF by kernel_rfl]
theorem nk:AL C0 26 [cA,i64 15] (.tup [(Lv 15).D,.sl false 2 [FQ (tA,G6),FQ (tB,HF)],i64 0]):=by
 have h:=qx false lA 15 (by decide) SW;rw[WC,y6,y5,Cx,Cx,List.map_nil,zf,zg]at h;exact h
theorem tG:AL C0 54 [cA] (i64 0):=by
 have h:=M2 false lA (by decide) λx hx=>(SW x hx).1
 rw[Sa]at h;exact h
theorem tH:AL C0 54 [cB] (i64 0):=by
 have h:=M2 false lB (by decide) λx hx=>(xL x hx).1
 rw[yY]at h;exact h
theorem tF:AL C0 57 [str (sb tB)] (Al true):=by
 have h:=R2 tB;rw[show D3 tB=true by kernel_rfl]at h;exact h
theorem zu (x:AE)(h:x.shs.length<=1000000)(m:Int):AL C0 71 [x.D,i64 m] (x.w m).D:=Pl x m h
theorem Vy {l:List AE}(h:l.all (λx=>decide (x.shs.length<=1000000))=true):∀x∈l,∀m,AL C0 71 [x.D,i64 m] (x.w m).D:=λx hx m=>zu x (DN (CW.1 h x hx)) m
theorem VD {l:List AE}(h:l.all (λx=>decide (0<=x.mass)&&decide (x.mass<=1000000000))=true):∀x∈l,0<=x.mass/\x.mass<=1000000000:=λx hx=>by
 have:=CW.1 h x hx
 simpa using this
theorem n_1:AL C0 38 [AV false [DV 2]] (AV false [DV 2]):=Ca Dx 400 40
theorem n_2:AL C0 38 [AV false [C9 1]] (AV false [C9 1]):=Ca Dx 400 40
theorem n_3:AL C0 38 [AV false [C9 9,DV 4]] (AV false [C9 9,DV 4]):=Ca Dx 400 40
theorem ff:AL C0 33 [cA] (i64 16):=Ca Dx 400 40
theorem qc:AL C0 79 [cA,i64 2,Al true] (AV false [DV 2]):=VT false true lA 2 (by decide) (by decide) (VD rfl) (Vy rfl) _ n_1
theorem qf:AL C0 79 [cA,i64 1,Al false] (AV false [C9 1]):=VT false false lA 1 (by decide) (by decide) (VD rfl) (Vy rfl) _ n_2
theorem sr:AL C0 36 [cA,i64 1,i64 2] (AV false [C9 9,DV 4]):=YJ false lA 1 2 (by decide) (by decide) (by decide) 16 (by decide) (VD rfl) ff (Vy rfl) _ n_3
theorem yL:AL C0 101 [cA,str (sb tB)] (.sl false 2 [Gc (11,16)]):=by
 have h:=jq false lA tB (by decide) λx hx=>by
  simp only[lA,A8,Dq,or_false]at hx;rcases hx with rfl|rfl<;>exact⟨by decide,by decide,by decide⟩
 rw[show L9 tB lA 0=[(11,16)] by kernel_rfl]at h;exact h
theorem sx:AL C0 39 [.sl true 1 [AV false [DV 2],AV false [C9 1]]] (AV false [DV 2,C9 1]):=YY [[DV 2],[C9 1]] (by simp) (by decide) (by decide)
def QL:List (Nat×List D×D):=[(54,[cA],i64 0),(54,[cB],i64 0),(57,[str (sb tB)],Al true),
 (79,[cA,i64 2,Al true],AV false [DV 2]),(79,[cA,i64 1,Al false],AV false [C9 1]),(36,[cA,i64 1,i64 2],AV false [C9 9,DV 4]),
 (101,[cA,str (sb tB)],.sl false 2 [Gc (11,16)]),(39,[.sl true 1 [AV false [DV 2],AV false [C9 1]]],AV false [DV 2,C9 1])]
instance d9R:AA cA:=by unfold cA;exact AJ
instance d9S:AA cB:=by unfold cB;exact AJ
instance q_cA:AS cA:=by unfold cA;exact AJ
instance q_cB:AS cB:=by unfold cB;exact AJ
theorem ap:∀e∈QL,AL C0 e.1 e.2.1 e.2.2/\Ai e.2.1:=by
 intro e he;simp only[QL,A8,Dq,or_false]at he;rcases he with rfl|rfl|rfl|rfl|rfl|rfl|rfl|rfl
 ·exact⟨tG,AJ⟩
 ·exact⟨tH,AJ⟩
 ·exact⟨tF,AJ⟩
 ·exact⟨qc,AJ⟩
 ·exact⟨qf,AJ⟩
 ·exact⟨sr,AJ⟩
 ·exact⟨yL,AJ⟩
 ·exact⟨sx,AJ⟩
noncomputable def X5:EV:=⟨Ql,NK.get,Ol.get,λ_=>false,OE QL,Ta,Ly⟩
theorem Ep:Fk C0 X5:=⟨Wp,S5,Ky,Uf QL ap,by kernel_rfl,fQ,Rz⟩
def jU:D:=.agg [str (sb Nf),i64 4,i64 30,i64 12,.sl false 1 [AV false [C9 9,DV 4],AV false [C9 5]]]
theorem sy:AL C0 6 [Dz,i64 0,i64 3] (.tup [jU,AV false [DV 2,C9 1],i64 0]):=Ca Ep 400 40
abbrev Wa (ls:List Int)(i:Int):D:=.clo (.func 100) [] [.pptr (.sl false 1 (Cb ls)),.pptr (i64 i),.pptr Dz]
abbrev xc (ls:List Int)(i:Int):D:=.clo (.func 63) [] [.pptr Dz,.pptr (.sl false 1 (Cb ls)),.pptr (i64 i)]
theorem mR:AL C0 62 [.sl false 1 (Cb [16,5]),i64 ((0:Nat):Int),Wa [16,5] ((0:Nat):Int)] (.sl false 1 [i64 23]):=Ca Ep 400 40
theorem mS:AL C0 62 [.sl false 1 (Cb [16,5]),i64 ((1:Nat):Int),Wa [16,5] ((1:Nat):Int)] (.sl false 1 [i64 1]):=Ca Ep 400 40
theorem mT:AL C0 62 [.sl false 1 (Cb [0,5]),i64 ((1:Nat):Int),Wa [0,5] ((1:Nat):Int)] (.sl false 1 [i64 17]):=Ca Ep 400 40
theorem mU:AL C0 62 [.sl false 1 (Cb [16,5]),i64 ((1:Nat):Int),xc [16,5] ((1:Nat):Int)] (.sl false 1 [i64 23]):=Ca Ep 400 40
theorem l_1:AL C0 61 [i64 16,.sl false 1 [i64 23]] (i64 16):=Ca Ep 400 40
theorem l_2:AL C0 61 [i64 5,.sl false 1 [i64 1]] (i64 1):=Ca Ep 400 40
theorem l_3:AL C0 61 [i64 5,.sl false 1 [i64 17]] (i64 5):=Ca Ep 400 40
theorem l_4:AL C0 61 [i64 25,.sl false 1 [i64 23]] (i64 23):=Ca Ep 400 40
instance d9T:AA Dz:=by unfold Dz;exact AJ
instance d9W:AS Dz:=by unfold Dz;exact AJ
theorem m_1:AL C0 60 [Dz,.sl false 1 (Cb [16,5]),i64 ((0:Nat):Int)] (i64 16):=Vs Dz ⟨_,_,_,_,_,rfl⟩ false _ 0 16 rfl _ 16 mR l_1
theorem m_2:AL C0 60 [Dz,.sl false 1 (Cb [16,5]),i64 ((1:Nat):Int)] (i64 1):=Vs Dz ⟨_,_,_,_,_,rfl⟩ false _ 1 5 rfl _ 1 mS l_2
theorem m_3:AL C0 60 [Dz,.sl false 1 (Cb [0,5]),i64 ((1:Nat):Int)] (i64 5):=Vs Dz ⟨_,_,_,_,_,rfl⟩ false _ 1 5 rfl _ 5 mT l_3
theorem yK:AL C0 42 [Dz] (.sl false 1 (Cb [16,5])):=Ca Ep 400 40
theorem sw:AL C0 31 [Dz,.sl true 1 [i64 1]] (i64 0):=Ca Ep 400 40
theorem yJ:AL C0 69 [Dz] (i64 0):=Ca Ep 400 40
theorem q9:AL C0 22 [Dz,i64 1] (.tup [i64 23,i64 0]):=s6 Dz _ _ _ _ 30 rfl _ 1 5 rfl _ 23 sw yK mU 25 rfl l_4
def Wq:List (Nat×List D×D):=(60,[Dz,.sl false 1 (Cb [16,5]),i64 1],i64 1)::QL
theorem se:∀e∈Wq,AL C0 e.1 e.2.1 e.2.2/\Ai e.2.1:=by
 intro e he;rcases A8.1 he with rfl|he
 ·exact⟨m_2,AJ⟩
 ·exact ap e he
noncomputable def j7:EV:=⟨Ql,NK.get,Ol.get,λ_=>false,OE Wq,Ta,Ly⟩
theorem yH:Fk C0 j7:=⟨Wp,S5,Ky,Uf Wq se,by kernel_rfl,fQ,Rz⟩
theorem tE:AL C0 21 [Dz,i64 1] (.tup [i64 1,i64 0]):=Ca yH 400 40
theorem q8:AL C0 23 [Dz,i64 0,str (sb tB)] (.tup [i64 2,i64 0]):=Ca Ep 400 40
theorem tC:AL C0 24 [Dz,i64 0,str (sb tB)] (.tup [i64 8,i64 0]):=Ca Ep 400 40
def jW (l:List Int):Int:=if l=[16,5]then 16 else 5
theorem q7:AL C0 25 [Dz] (.tup [.sl false 2 [Ew (0,16),Ew (1,5)],i64 0]):=by
 have h:=qM (str (sb Nf)) (i64 4) (i64 30) (i64 12) false [cA,cB] [16,5] rfl (by simp) (by decide) (λi c m h1 h2=>by
  match i with
  | 0=>cases h1;cases h2;exact ff
  | 1=>cases h1;cases h2;exact Ca Ep 400 40
  |i+2=>cases h1) (λc hc=>by
  simp only[A8,Dq,or_false]at hc;rcases hc with rfl|rfl
  ·exact⟨_,_,rfl,d9R⟩
  ·exact⟨_,_,rfl,d9S⟩) yJ jW (λl=>l=[16,5]\/l=[0,5]\/l=[0,0]) (.inl rfl) (λl hl hn=>by
  rcases hl with rfl|rfl|rfl
  ·exact⟨m_1,rfl,.inr (.inl rfl)⟩
  ·exact⟨m_3,rfl,.inr (.inr rfl)⟩
  ·exact Ak rfl hn)
 rw[show L6 jW 257 [16,5] []=([(0,16),(1,5)],0) by kernel_rfl]at h;exact h
abbrev bS:Dr:=[(16,[0,1,2,3,4,5,6,7,8,9,10,11,12,13,14,15,16,17,18],[19,20,21])]
open Go.Proofs Go.RowKit Go.Sort
set_option maxRecDepth 20000
set_option maxHeartbeats 8000000
def e0k:D:=.sl true 2 [.agg [str (sb tA),str (sb G6)],.agg [str (sb tB),str (sb HF)]]
theorem d9O (m:Int):AL C0 27 [.sl false 2 [.agg [str (sb tA),str (sb G6)],.agg [str (sb tB),str (sb HF)]],e0k] (Al true):=Ca Ep 400 40
theorem xJ:AL C0 28 [.sl false 2 [FQ (tA,G6),FQ (tB,HF)],.sl true 2 [FQ (tA,G6),FQ (tB,HF)]] (Al true):=Ca Ep 400 40
theorem d9I:AL C0 29 [i64 2,Al true] (Fv (DV 2)):=Ca Ep 400 40
theorem d9J:AL C0 29 [i64 1,Al false] (Fv (C9 1)):=Ca Ep 400 40
theorem d9K:AL C0 29 [i64 9,Al false] (Fv (C9 9)):=Ca Ep 400 40
theorem d9L:AL C0 29 [i64 4,Al true] (Fv (DV 4)):=Ca Ep 400 40
theorem d9M:AL C0 13 [AV false [DV 2,C9 1],.sl true 3 [Fv (DV 2),Fv (C9 1)]] (Al true):=Ca Ep 400 40
theorem d9N:AL C0 13 [AV false [C9 9,DV 4],.sl true 3 [Fv (C9 9),Fv (DV 4)]] (Al true):=Ca Ep 400 40
theorem t6:AL C0 5 [] (Al true):=by
 refine Af.walk w1 ij rfl λF=>?_
 have cE:=d9u;have cL:=tD;have cP:AL C0 20 [cA,.prim (.string ⟨#[119,104,101,97,116]⟩)] (.tup [(Lv 16).D,i64 0]):=tI;have cD:=sy;have cM:=tE;have cS:=q9;have cF:AL C0 23 [Dz,i64 0,.prim (.string ⟨#[98]⟩)] (.tup [i64 2,i64 0]):=q8;have cLa:AL C0 24 [Dz,i64 0,.prim (.string ⟨#[98]⟩)] (.tup [i64 8,i64 0]):=tC;have cEm:=q7;have cSh:=nk;have pA:AA cA:=AJ;have pB:AA cB:=AJ;have pX:AA Dz:=AJ;unfold Dz at cE cD cM cS cF cLa cEm pX;have hA:∃T,cA=.sl false 3 T:=⟨_,rfl⟩
 have hB:∃T,cB=.sl false 3 T:=⟨_,rfl⟩
 obtain⟨TA,hA⟩:=hA;obtain⟨TB,hB⟩:=hB;rw[hA,hB]at cE cD cM cS cF cLa cEm pX;rw[hA]at cL cP cSh pA;rw[hB]at pB;have hm:([.sl false 3 TA,.sl false 3 TB]:List D)[0]?=some (.sl false 3 TA):=rfl;have dP:(Lv 16).D=.agg [str (sb Fd),i64 16,.sl false 2 [.agg [str (sb tA),str (sb G6)],.agg [str (sb tB),str (sb HF)]]]:=rfl;have dP2:(Lv 15).D=.agg [str (sb Fd),i64 15,.sl false 2 [.agg [str (sb tA),str (sb G6)],.agg [str (sb tB),str (sb HF)]]]:=rfl;rw[dP]at cP;rw[dP2]at cSh;unfold jU at cD;refine AF bS kB cE hm cL cP cD cM ?_;refine cI cS ?_;refine sR 700 ?_;refine cI cF ?_;refine sR 800 ?_;refine cI cLa ?_;refine sR 900 ?_;refine cI cEm ?_;refine sR 1000 ?_;refine By kT hm ?_;refine AG kB ?_;refine cI cSh ?_;have z0:IntKind.i64.wrap (0+0)=0:=rfl;have n0:((0:Int) != 0)=false:=rfl;have n1:((1:Int) != 1)=false:=rfl;have n23:((23:Int) != 23)=false:=rfl;have n2:((2:Int) != 2)=false:=rfl;have n2':(((2:Nat):Int) != 2)=false:=rfl;have s0:([.agg [i64 0,i64 16],.agg [i64 1,i64 5]]:List D)[0]?=some (.agg [i64 0,i64 16]):=rfl;have s1:([.agg [i64 0,i64 16],.agg [i64 1,i64 5]]:List D)[1]?=some (.agg [i64 1,i64 5]):=rfl;have n8:((8:Int) != 8)=false:=rfl;obtain⟨C1,hC1⟩:∃d,AV false [C9 9,DV 4]=d:=⟨_,rfl⟩
 obtain⟨O1,hO1⟩:∃d,AV false [DV 2,C9 1]=d:=⟨_,rfl⟩
 rw[hC1,hO1];refine AC.weak ⟨[(2,.sl false 2 [.agg [str (sb tA),str (sb Tg)],.agg [str (sb tB),str (sb t3)]]),(3,i64 0),(4,.optr 308 22 3 0 0),(5,i64 0),(6,.optr 406 31 5 0 0),(7,O1),(8,i64 0),(9,i64 1),(10,i64 0),(11,i64 23),(12,i64 0),(13,i64 2),(14,i64 0),(15,i64 8),(16,i64 0),(17,.sl false 2 [.agg [i64 0,i64 16],.agg [i64 1,i64 5]]),(18,i64 0),(19,.optr 1009 79 3 0 0),(20,.sl false 2 [.agg [str (sb tA),str (sb G6)],.agg [str (sb tB),str (sb HF)]]),(21,i64 0)],
  [⟨1009,79,53,3,[.agg [str (sb Fd),i64 15,.sl false 2 [.agg [str (sb tA),str (sb G6)],.agg [str (sb tB),str (sb HF)]]]]⟩,⟨406,31,24,5,[.agg [str (sb Nf),i64 4,i64 30,i64 12,.sl false 1 [C1,AV false [C9 5]]]]⟩,⟨308,22,53,3,[.agg [str (sb Fd),i64 16,.sl false 2 [.agg [str (sb tA),str (sb G6)],.agg [str (sb tB),str (sb HF)]]]]⟩],_⟩ AK ?_
 refine AC.seq ?_;refine AC.seq ?_;refine e1c w1 1100 [([0,1,2,3,4,5,6,7,8,9,10,11,12,13,14,15,16,17,18,19,20,21,22,23,24,25,26,27,28,29,30,31,32,33,34,35,36,37,38,39,40,41,42,43],44),([45,46,47,48,49,50],51)] [52] rfl (by kernel_rfl) ?_;change C7 _ _ _ _ _ _ _ _;refine AG (CM z0 n0 n1 n23 n2 n2' (Ao n8 kT kF)) ?_;refine AG (CM z0 n0 n1 n23 n2 n2' (Ao n8 kT kF)) ?_;refine AG (CM z0 n0 n1 n23 n2 n2' (Ao n8 kT kF)) ?_;refine AG (CM z0 n0 n1 n23 n2 n2' (Ao n8 kT kF)) ?_;refine AG (CM z0 n0 n1 n23 n2 n2' (Ao n8 kT kF)) ?_;refine AG (Ao n2' kT kF) ?_;refine By kF s0 ?_;refine AG (Ao n2' kT kF) ?_;refine AG (Ao n2' kT kF) ?_;refine⟨Al false,λos K' hk=>jH (a1:=0) (a2:=16) (b1:=0) (b2:=16) rfl rfl an rfl rfl hk,?_⟩;change C7 _ _ _ _ _ ⟨(124,Al false)::_,_,_⟩ _ _;refine BO ?_;refine AG (Ao n2' kT kF) ?_;refine AG (Ao n2' kT kF) ?_;refine By kF s1 ?_;refine AG (Ao n2' kT kF) ?_;refine AG (Ao n2' kT kF) ?_;refine⟨Al false,λos K' hk=>jH (a1:=1) (a2:=5) (b1:=1) (b2:=5) rfl rfl an rfl rfl hk,?_⟩;change C7 _ _ _ _ _ ⟨(131,Al false)::_,_,_⟩ _ _;refine BO ?_;refine AG (Ao n2' kT kF) ?_;refine AO ?_;refine An ?_;refine AC.weak ⟨[(2,.sl false 2 [.agg [.prim (.string ⟨#[97]⟩),.prim (.string ⟨#[49,51]⟩)],.agg [.prim (.string ⟨#[98]⟩),.prim (.string ⟨#[51]⟩)]]),(4,.optr 308 22 3 0 0),(6,.optr 406 31 5 0 0),(7,O1),(19,.optr 1009 79 3 0 0),(20,.sl false 2 [.agg [.prim (.string ⟨#[97]⟩),.prim (.string ⟨#[49,51,47,49,54]⟩)],.agg [.prim (.string ⟨#[98]⟩),.prim (.string ⟨#[51,47,49,54]⟩)]])],
  [⟨1009,79,53,3,[.agg [str (sb Fd),i64 15,.sl false 2 [.agg [.prim (.string ⟨#[97]⟩),.prim (.string ⟨#[49,51,47,49,54]⟩)],.agg [.prim (.string ⟨#[98]⟩),.prim (.string ⟨#[51,47,49,54]⟩)]]]]⟩,⟨406,31,24,5,[.agg [str (sb Nf),i64 4,i64 30,i64 12,.sl false 1 [C1,AV false [C9 5]]]]⟩,⟨308,22,53,3,[.agg [str (sb Fd),i64 16,.sl false 2 [.agg [.prim (.string ⟨#[97]⟩),.prim (.string ⟨#[49,51,47,49,54]⟩)],.agg [.prim (.string ⟨#[98]⟩),.prim (.string ⟨#[51,47,49,54]⟩)]]]]⟩],_⟩ AK ?_
 have h1:AL C0 27 [.sl false 2 [.agg [.prim (.string ⟨#[97]⟩),.prim (.string ⟨#[49,51,47,49,54]⟩)],.agg [.prim (.string ⟨#[98]⟩),.prim (.string ⟨#[51,47,49,54]⟩)]],.sl true 2 [.agg [.prim (.string ⟨#[97]⟩),.prim (.string ⟨#[49,51,47,49,54]⟩)],.agg [.prim (.string ⟨#[98]⟩),.prim (.string ⟨#[51,47,49,54]⟩)]]] (Al true):=d9O 0;have h2:AL C0 28 [.sl false 2 [.agg [.prim (.string ⟨#[97]⟩),.prim (.string ⟨#[49,51,47,49,54]⟩)],.agg [.prim (.string ⟨#[98]⟩),.prim (.string ⟨#[51,47,49,54]⟩)]],.sl true 2 [.agg [.prim (.string ⟨#[97]⟩),.prim (.string ⟨#[49,51,47,49,54]⟩)],.agg [.prim (.string ⟨#[98]⟩),.prim (.string ⟨#[51,47,49,54]⟩)]]] (Al true):=xJ;have e1:BJ ⟨#[97]⟩ ⟨#[97]⟩=true:=MJ _;have e2:BJ ⟨#[49,51]⟩ ⟨#[49,51]⟩=true:=MJ _;have e3:BJ ⟨#[98]⟩ ⟨#[98]⟩=true:=MJ _;have e4:BJ ⟨#[51]⟩ ⟨#[51]⟩=true:=MJ _;have x0:([.agg [.prim (.string ⟨#[97]⟩),.prim (.string ⟨#[49,51]⟩)],.agg [.prim (.string ⟨#[98]⟩),.prim (.string ⟨#[51]⟩)]]:List D)[0]?=some (.agg [.prim (.string ⟨#[97]⟩),.prim (.string ⟨#[49,51]⟩)]):=rfl;have x1:([.agg [.prim (.string ⟨#[97]⟩),.prim (.string ⟨#[49,51]⟩)],.agg [.prim (.string ⟨#[98]⟩),.prim (.string ⟨#[51]⟩)]]:List D)[1]?=some (.agg [.prim (.string ⟨#[98]⟩),.prim (.string ⟨#[51]⟩)]):=rfl;have b1:(!(true&&(true&&true)))=false:=rfl;have n16:((16:Int) != 16)=false:=rfl;have n15:((15:Int) != 15)=false:=rfl;have k1:=d9I;have k2:=d9J;have k3:=d9K;have k4:=d9L;have k5:=d9M;have k6:=d9N;have pA1:Ai [AV false [DV 2,C9 1],.sl true 3 [Fv (DV 2),Fv (C9 1)]]:=⟨λd hd=>by
  simp only[A8,Dq,or_false]at hd;rcases hd with rfl|rfl
  ·exact(AJ:AA (AV false [DV 2,C9 1])).out
  ·exact H5 (n:=30) (by kernel_rfl)⟩
 have pA2:Ai [AV false [C9 9,DV 4],.sl true 3 [Fv (C9 9),Fv (DV 4)]]:=⟨λd hd=>by
  simp only[A8,Dq,or_false]at hd;rcases hd with rfl|rfl
  ·exact(AJ:AA (AV false [C9 9,DV 4])).out
  ·exact H5 (n:=30) (by kernel_rfl)⟩
 rw[hO1]at k5 pA1;rw[hC1]at k6 pA2;obtain⟨u1,u2,u3,hu⟩:∃a b c,Fv (DV 2)=.agg [a,b,c]:=⟨_,_,_,rfl⟩
 obtain⟨v1,v2,v3,hv⟩:∃a b c,Fv (C9 1)=.agg [a,b,c]:=⟨_,_,_,rfl⟩
 obtain⟨y1,y2,y3,hy⟩:∃a b c,Fv (C9 9)=.agg [a,b,c]:=⟨_,_,_,rfl⟩
 obtain⟨z1,z2,z3,hz⟩:∃a b c,Fv (DV 4)=.agg [a,b,c]:=⟨_,_,_,rfl⟩
 rw[hu]at k1;rw[hv]at k2;rw[hy]at k3;rw[hz]at k4;rw[hu,hv]at k5 pA1;rw[hy,hz]at k6 pA2;obtain⟨C2,hC2⟩:∃d,AV false [C9 5]=d:=⟨_,rfl⟩
 obtain⟨C1L,hC1L⟩:∃T,C1=.sl false 3 T:=⟨_,hC1.symm⟩
 rw[hC2,hC1L];rw[hC1L]at k6 pA2;have q0:([.sl false 3 C1L,C2]:List D)[0]?=some (.sl false 3 C1L):=rfl;have n2e:(((2:Nat):Int)==2)=true:=rfl;refine AF bS (CM b1 n2' n16 n15 e1 e2 (Bb e3 e4 kT kF)) x0 x1 h1 h2 AB AB ?_;refine Bf.same _ (k1) AJ ?_;refine BU ?_;refine AG (Ao n2e kT kF) ?_;refine Bf.same _ (k2) AJ ?_;refine BU ?_;refine AG (Ao n2e kT kF) ?_;refine Bf.same _ k5 pA1 ?_;refine BO ?_;refine AG (Ao n2e kT kF) ?_;refine AG (Ao n2e kT kF) ?_;refine AG (Ao n2e kT kF) ?_;refine By kT q0 ?_;refine AG (Ao n2e kT kF) ?_;refine AG (Ao n2e kT kF) ?_;refine Oq kT ?_;refine Bf.same _ (k3) AJ ?_;refine BU ?_;refine Oq kT ?_;refine Bf.same _ (k4) AJ ?_;refine BU ?_;refine AG (Ao n2e kT kF) ?_;refine AG (Ao n2e kT kF) ?_;refine AG (Ao n2e kT kF) ?_;refine Oq kT ?_;refine BF.same _ k6 pA2 ?_;refine BO ?_;refine AG (Ao n2e kT kF) ?_;refine AG (Ao n2e kT kF) ?_;refine Aj ?_;exact AM rfl AA.out
end Go.Ide
