/- The layer of own lemmas and contracts, part 13. -/
import Derived.Test.YtpghcedmmpcfeaaGreatDoorS12
import Derived.Test.YtpghcedmmpcfeaaGreatDoorS11
import Derived.Test.YtpghcedmmpcfeaaGreatDoorS4
import Derived.Test.YtpghcedmmpcfeaaGreatDoorS7
import Derived.Laws.StructEq
import Derived.Test.YtpghcedmmpcfeaaGreatDoorS10
set_option linter.unusedVariables false
set_option linter.unusedSimpArgs false
namespace Go.Ide
open Go.Proofs Go.RowKit Go.Sort
set_option maxRecDepth 20000
set_option maxHeartbeats 4000000
theorem bU {A:BQ}(h:EE A)(k:Nat):EE (A.take k):=h.sublist (List.take_sublist k A)
theorem Wn {p:List UInt8}{N D:Nat}(hD:1<=D):∀ {Q:BQ},(∀z∈Q,nb z.2 N D)->nb ((Ct p Q).getD 0) N D
 | [],_=>VV.mono (BT _) hD
 |a::Q,h=>by
  unfold Ct
  by_cases e:a.1=p
  ·rw[AI e];exact h a (B1 ..)
  ·rw[AG e];exact Wn hD λz hz=>h z (B9 _ hz)
theorem rT {A B:BQ}{N D:Nat}(hD:1<=D)(hA:EE A)(hB:EE B)(hn:∀z∈A++B,nb z.2 N D)(k:Nat):∀z∈Eo ((A++B).take k) [],nb z.2 (N*D+N*D) (D*D):=λz hz=>by
 have h1:=Vn (Z8 List.Pairwise.nil) hz;rw[RC List.Pairwise.nil]at h1;split at h1
 ·have e:(0:Rat)+DK z.1 ((A++B).take k)=z.2:=FY h1
  rw[Rat.zero_add,List.take_append,RT,(O5 (bU hA k)).2,(O5 (bU hB _)).2]at e;rw[<-e];exact gS (Wn hD λy hy=>hn y (HO _ (E3 hy))) (Wn hD λy hy=>hn y (List.mem_append_right _ (E3 hy)))
 ·cases h1
theorem UV:∀ {ts Q:BQ},(Eo ts Q).length<=Q.length+ts.length
 | [],Q=>An _
 |t::ts,Q=>by
  have h1:=UV (ts:=ts) (Q:=DX t.1 t.2 Q);have h2:=Zf (lot:=t.1) (r:=t.2) (l:=Q);show(Eo ts (DX t.1 t.2 Q)).length<=_;rw[Br];omega
theorem d9o {r:Rat}(h:nb r (12*IR*Cg^12*Cg^12+12*IR*Cg^12*Cg^12) (Cg^12*Cg^12)):rk r 60:=Wh h (by decide) (by decide)
theorem e0Q {r:Rat}(h:nb r (12*IR*Cg^12) (Cg^12)):rk r 60:=Wh h (by decide) (by decide)
theorem xd (b1 b2:Bool)(A B:BQ)(hA:EE A)(hB:EE B)(hl:A.length<=1000/\B.length<=1000)(hn:∀z∈A++B,DJ z.2=false/\nb z.2 (12*IR*Cg^12) (Cg^12))(ht:∀z∈A++B,(A0 z.2).length<=100000):
  AL C0 16 [.sl b1 2 (A.map Bl),.sl b2 2 (B.map Bl)] (.sl false 2 ((Eo (A++B) []).map Bl)):=by
 refine Ad.walk w1 zw rfl λF=>?_
 have hAl:(A.map Bl).length=A.length:=Ae ..;have hBl:(B.map Bl).length=B.length:=Ae ..;have hAB:A.map Bl++B.map Bl=(A++B).map Bl:=DA.symm;have hfn:=rT (by decide) hA hB λz hz=>(hn z hz).2
 have hlen:(A++B).length<=2000:=by rw[Be];omega
 obtain⟨W,hW⟩:∃W,A++B=W:=⟨_,rfl⟩
 rw[hW]at hAB hn ht hfn hlen⊢;have hWl:W.length=A.length+B.length:=by rw[<-hW,Be]
 have hfl:∀k,(Eo (W.take k) []).length<=2000:=λk=>by
  have:=UV (ts:=W.take k) (Q:=[])
  rw[Bd]at this;simp at this;omega
 obtain⟨AD,hAD⟩:∃T,A.map Bl=T:=⟨_,rfl⟩
 have pAD:AA (.sl b1 2 AD):=by rw[<-hAD];exact AJ
 obtain⟨BD,hBD⟩:∃T,B.map Bl=T:=⟨_,rfl⟩
 have pBD:AA (.sl b2 2 BD):=by rw[<-hBD];exact AJ
 rw[hAD]at hAl hAB⊢;rw[hBD]at hBl hAB⊢;have f1:∀l:List D,([]:List D)++l=l:=FS;have f2:∀n,List.take n ([]:List D)=[]:=λn=>List.take_nil
 refine AH AW (Ar f1 f2 BW) AB AB AB AB AB AB ?_;have hWD:AD++BD=W.map Bl:=hAB;obtain⟨WD,hWD2⟩:∃T,W.map Bl=T:=⟨_,rfl⟩
 have hWDl:WD.length=AD.length+BD.length:=by rw[<-hWD2,<-hWD,Be]
 have hWDn:WD.length=W.length:=by rw[<-hWD2,Ae]
 have pWD:AA (.sl false 2 WD):=by rw[<-hWD2];exact AJ
 have tk0:AD.take AD.length=AD:=Cz;rw[tk0,hWD,hWD2];have hx0:((AD.length:Int)+(BD.length:Int))=(W.length:Int):=by omega
 have hx1:(((AD.length+BD.length:Nat):Int))=(W.length:Int):=by omega
 have hx2:AD.length+BD.length=W.length:=by omega
 try rw[hx1]
 try rw[hx0]
 refine AC.loop (α:=Nat×Nat) (λp=>⟨[(5,.sl false 2 ((Eo (W.take p.1) []).map Bl)),(15,.sl false 2 WD),(16,i64 (W.length:Int)),(17,i64 (p.1:Int))],[],p.2⟩) (λp=>W.length-p.1) (λq=>q.1<=W.length) (0,_) (BT _) (AK (b:=⟨.nil 2,Vy rfl rfl hWDl.symm,.refl _,.refl _,trivial⟩)) ?_;rintro⟨i,n⟩ F hi;dsimp only at hi⊢;rcases BC i W.length with h2|h2
 rotate_left
 ·have e1:=Cc h2
  have:i=W.length:=by omega
  subst this;rw[Cz];have hFl0:=hfl W.length;rw[Cz]at hFl0;obtain⟨Fl,hFl⟩:∃T,Eo W []=T:=⟨_,rfl⟩
  rw[hFl]at hFl0⊢;obtain⟨FD,hFD⟩:∃T,Fl.map Bl=T:=⟨_,rfl⟩
  have hFDl:FD.length=Fl.length:=by rw[<-hFD,Ae]
  have pFD:AA (.sl false 2 FD):=by rw[<-hFD];exact AJ
  have el:((FD.length:Nat):Int)=(Fl.length:Int):=by rw[hFDl]
  have hF0:FD.take 0=[]:=rfl;rw[hFD];refine AH AW (Ab e1 el) AB AB AB AB AB AB ?_;refine AC.ghost 1307 68 2 [(8,.osl 1307 _ 2 0 0),(32,.sl false 2 FD),(33,i64 (Fl.length:Int)),(34,i64 ((0:Nat):Int))] ⟨.inr ⟨rfl,rfl⟩,.inl rfl,.inl rfl,.inl rfl,trivial⟩ ?_;refine AC.loop (α:=Nat×Nat×Nat) (λp=>⟨[(8,.osl 1307 p.2.1 2 0 p.1),(32,.sl false 2 FD),(33,i64 (Fl.length:Int)),(34,i64 (p.1:Int))],[⟨1307,p.2.1,68,2,FD.take p.1⟩],p.2.2⟩) (λp=>Fl.length-p.1) (λq=>q.1<=Fl.length) (0,_,_) (BT _) AK ?_;rintro⟨j,g,n2⟩ F hj;dsimp only at hj⊢;rcases BC j Fl.length with h3|h3
  rotate_left
  ·have e2:=Cc h3
   have:j=Fl.length:=by omega
   subst this;have htk:FD.take Fl.length=FD:=by rw[<-hFDl];exact Cz
   rw[htk];have hf:=GZ (H:=[⟨1307,g,68,2,FD⟩]) (Hf:=[]) (k:=1307) (g:=g) (T:=68) (sz:=2) (l:=FD) rfl;rw[hFDl]at hf;refine AH AW e2 AB AB AB AB AB AB ?_;exact⟨_,hf,AA.out,rfl⟩
  have e2:=CZ h3;have wj:=Ce (i:=j) (by omega);obtain⟨p,hp⟩:=CJ h3;have hm:FD[j]?=some (.agg [str (sb p.1),str (sb (A0 p.2))]):=by rw[<-hFD,Az,hp];rfl
  have htk:(FD.take j).take j=FD.take j:=by rw[List.take_take,Nat.min_self]
  have htk1:FD.take (j+1)=FD.take j++[.agg [str (sb p.1),str (sb (A0 p.2))]]:=by rw[Du,hm];rfl
  have hlj:(FD.take j).length=j:=by rw[Bd,hFDl];omega
  refine AH AW (CN e2 wj htk hlj kN) hm AB AB AB AB AB ?_;refine⟨(j+1,?ga,n2+1000),h3,by dsimp only;omega,?_⟩
  rotate_left
  ·dsimp only
   rw[htk1];exact AK
 have e1:=CZ h2;have wi:=Ce (i:=i) (by omega);obtain⟨p,hp⟩:=CJ h2;have hpm:=Au hp;have hm:WD[i]?=some (.agg [str (sb p.1),str (sb (A0 p.2))]):=by rw[<-hWD2,Az,hp];rfl
 have cC:=g9 (A0 p.2) (ht p hpm);rw[an (hn p hpm).1]at cC;have z0:(((0:Nat):Int) != 0)=false:=rfl;have z1:((0:Int) != 0)=false:=rfl;have hs:Eo (W.take (i+1)) []=DX p.1 p.2 (Eo (W.take i) []):=by
  rw[Du,hp,Y6];rfl
 have hfi:=hfn i;have hli:=hfl i;obtain⟨Q,hQ⟩:∃Q,Eo (W.take i) []=Q:=⟨_,rfl⟩
 rw[hQ]at hs hfi hli⊢;have cP:=e1a Q p.1 p.2 60 (by omega) (λz hz=>d9o (hfi z hz)) (e0Q (hn p hpm).2) (by decide);rw[<-hs]at cP;unfold rR at cP;refine AH AW (CN e1 wi z0 z1 kN) hm cC cP AB AB AB ?_;exact⟨(i+1,_),h2,by dsimp only;omega,AK⟩
theorem qz {r:Rat}(h:DJ r=false):(A0 r).length<=1300:=by
 unfold DJ at h;simp only[Hj,Hh]at h;have h1:(Lib.itoa r.num).length<=(Lib.decDigits r.num.natAbs).length+1:=by
  have:=MU r.num
  have h2:=congrArg List.length this.2;unfold Bw at h2;split at h2
  ·rw[D3]at h2;omega
  ·omega
 unfold A0;split
 ·omega
 ·rw[Be,Br];omega
theorem aS:∀ {l:List AE},(∀x∈l,x.shs.length<=64)->(Ke l).length<=l.length*64
 | [],_=>An _
 |x::l,h=>by
  have h1:=aS (l:=l) λy hy=>h y (B9 _ hy)
  have h2:=h x (B1 ..);show((x.shs.map _)++Ke l).length<=_;rw[Be,Ae,Br];omega
structure Lm (l:List AE):Prop where
 par:Bz l=0
 len:l.length<=12
 lite:∀y∈l,y.lite
theorem Uc {l:List AE}(h:Lm l):(DC l).length<=1000:=by
 rw[YX];have h1:=UV (ts:=Ke l) (Q:=[]);have h2:=aS (l:=l) λx hx=>(UD (az ((JD h.par).2.1 x hx))).2.1
 have:=h.len
 simp at h1;omega
theorem Wo {l:List AE}(h:Lm l):AL C0 14 [Aj false l] (.tup [.sl false 2 ((DC l).map Bl),i64 0]):=by
 have h1:=jZ false l (by have:=h.len;omega) h.lite;obtain⟨h2,h3,_⟩:=Ut h.par h.len h.lite;rw[h2,h3]at h1;exact h1
theorem e0e {A B:List AE}(hA:Lm A)(hB:Lm B):AL C0 16 [.sl false 2 ((DC A).map Bl),.sl false 2 ((DC B).map Bl)] (.sl false 2 ((Eo (DC A++DC B) []).map Bl)):=by
 have h:∀z∈DC A++DC B,DJ z.2=false/\nb z.2 (12*IR*Cg^12) (Cg^12):=λz hz=>by
  rcases Bn.1 hz with q|q
  ·exact(Ut hA.par hA.len hA.lite).2.2 z q
  ·exact(Ut hB.par hB.len hB.lite).2.2 z q
 exact xd false false _ _ (MV A) (MV B) ⟨Uc hA,Uc hB⟩ h λz hz=>by have:=qz (h z hz).1;omega
theorem d9s {l:List AE}(h:Lm l):AL C0 15 [.sl false 2 ((DC l).map Bl),.sl false 2 ((DC l).map Bl)] (Ap true):=by
 have h1:=zl false false ((DC l).map λp=>(p.1,A0 p.2)) (by rw[Ae];have:=Uc h;omega);rw[List.map_map]at h1;exact h1
theorem Z0 {x:Av}{i m:Int}(h:EM x i m=0)(hc:∀c∈x.cells,∀y∈c,y.lite/\y.modr):(∀c∈(CT x i m).cells,∀y∈c,y.lite/\y.modr)/\∀y∈Dp x i m,y.lite/\y.modr:=by
 have v:=WS h;have ok:=Nl v.one;have hk:=zH (x:=x) (i:=i) (m:=m) ok.at_;have hm:=Au ok.at_;refine⟨λc hq=>?_,λy hy=>⟨Vm (hk.2 y hy) λz hz=>(hc _ hm z hz).1,gQ (hk.2 y hy) λz hz=>(hc _ hm z hz).2⟩⟩;obtain⟨e,he,hke⟩:=hk.1 c hq;exact λy hy=>⟨Vm (hke y hy) λz hz=>(hc e he z hz).1,gQ (hke y hy) λz hz=>(hc e he z hz).2⟩
theorem sj {x:Av}{k:Nat}{m:Int}(hv:Wx x)(hk:k<x.cells.length)(hm:0<=m)(h:EM x (k:Int) m≠0):m≠Hz x.side (Bq x) k/\Lh x (k:Int) m=[]/\(EM x (k:Int) m=13/\Ai (CC x (k:Int))<m\/(EM x (k:Int) m=17\/EM x (k:Int) m=5)/\¬Ai (CC x (k:Int))<m):=by
 refine⟨λq=>h ?_,AI h,?_⟩
 ·exact(pE hv.sm.bin hk (λc hc=>by have:=hv.sm.len c hc;omega) ⟨hm,by rw[q];exact Int.le_refl _⟩).1
 ·unfold EM at h⊢
  rw[AG (λq=>q (aa hv.sm.bin hk hm))]at h⊢
  by_cases h2:Ai (CC x (k:Int))<m
  ·rw[AI h2];exact .inl ⟨rfl,h2⟩
  ·rw[AG h2]at h⊢
   refine .inr ⟨?_,h2⟩;unfold Jq at h⊢;split
   ·exact .inl rfl
   ·rename_i h3
    rw[AG h3]at h;split
    ·exact .inr rfl
    ·rename_i h4
     rw[AG h4]at h;exact Ak rfl h
structure yr (x:Av)(k:Nat)(m:Int):Prop where
 le:m<=Hz x.side (Bq x) k
 bin:C9 (CT x (k:Int) m)=0
 flow:Lm (Dp x (k:Int) m)
 fsum:Ai (Dp x (k:Int) m)=m
 rest:Lm (CC (CT x (k:Int) m) (k:Int))
 rsum:Ai (CC (CT x (k:Int) m) (k:Int))=Ai (CC x (k:Int))-m
 cel:Lm (CC x (k:Int))
 oth:∀i c,i≠k->x.cells[i]?=some c->(CT x (k:Int) m).cells[i]?=some (BZ c)
theorem qV {x:Av}{k:Nat}{m:Int}(hv:Wx x)(hk:k<x.cells.length)(hm:0<=m)(h:EM x (k:Int) m=0):yr x k m:=by
 have v:=WS h;have ok:=Nl v.one;have hat:=Nm hk;have hmem:=Au hat;have hpn:=EJ ok.par;have hnn:=ok.nn;have hmm:=ok.mm;have hmle:=v.mle;have hl6:=hv.sm.len _ hmem;have hpos:∀y∈CC x (k:Int),1<=y.mass:=λy hy=>(hpn.2.1 y hy).1
 have hf2:=Z0 h hv.few;obtain⟨s1,s2,s3,s4⟩:=RW hv.sm.bin;have hkO:k<(CT x (k:Int) m).cells.length:=by rw[show(CT x (k:Int) m).cells.length=x.cells.length from PP ..];exact hk
 have hatO:=Nm hkO;have hmO:=Au hatO;have hrl:=RH (x:=x) (c:=CC x (k:Int)) (m:=m.toNat) hpos;have hfl:=Y5 (x:=x) (c:=CC x (k:Int)) (m:=m.toNat) hpos;have hrs:=(bu (x:=x) (c:=CC x (k:Int)) (m:=m.toNat) hpos (by omega)).2.2;have hi:k<(Bq x).length:=by unfold Bq;rw[Ae];exact hk
 refine⟨?_,v.bin,⟨v.par,by unfold Dp;omega,λy hy=>(hf2.2 y hy).1⟩,?_,⟨(GY (IU v.bin _ hmO)).1,by rw[VC hk];omega,λy hy=>(hf2.1 _ hmO y hy).1⟩,by rw[VC hk,hrs];omega,⟨ok.par,by omega,λy hy=>(hv.few _ hmem y hy).1⟩,λi c hik hc=>?_⟩
 ·refine(Vb (m:=m) ⟨s1,by omega⟩ (λv hv2=>by have:=(Nw hv.sm.bin).2 v hv2;omega) hi (Ph hv.sm.bin).2 ⟨hm,by rw[Rx hv.sm.bin hat];omega⟩).1 ?_
  have:=v.stp
  rwa [show Bq (CT x (k:Int) m)=(Bq x).set k ((Bq x).getD k 0-m) by
   show Bq (JJ x ((k:Int).toNat) _)=_;rw[HG,Zn hv.sm.bin hat (by omega),show((m.toNat:Nat):Int)=m by omega]]at this
 ·show Ai (BZ (GN x (CC x (k:Int)) m.toNat))=m
  rw[Z7 (by omega)];omega
 ·show((x.cells.map BZ).set ((k:Int).toNat) _)[i]?=_
  rw[HG,In (λq=>hik q.symm),Az,hc];rfl
abbrev F6:Dr:=[(8,[0,1,2,3,4,5,6,7,8,9,10,11,12,13,14,15,16],[17,18,19,20,21,22,23,24,25,26,27,28]),(9,[0,1,2,3,4,5,6,7,8,9,10,11,12,13,14,15,16,17,18,19,20,21,22,23,24,25,26,27,28,29,30,31,32,33,34,35,36,37,38,39,40],[41,42,43]),(14,[0,1,2,3,4,5,6,7,8,9,10,11,12,13,14,15],[16,17,18])]
open Go.Proofs Go.RowKit Go.Sort
set_option maxRecDepth 20000
set_option maxHeartbeats 4000000
theorem rX (ha:AL C0 5 [] (Ap true))(x:Av)(hl:x.cells.length<=9223372036854775807)(hs:∀c∈x.cells,c.length<=9223372036854775807/\∀y∈c,y.shs.length<=9223372036854775807)(f t m:Int):AL C0 3 [x.D,.agg [i64 f,i64 t,i64 m]] (Ap true):=by
 refine Ad.walk w1 e0s rfl λF=>?_
 have cS:=e0G x hl hs;have hk:=@xi x;have cD:=d9d x;have cM:=d9e x;have cLv:=λk c h1 h2 h3=>Sg x k c h1 h2 h3
 have hmR:∀i,Wq x i=if HZ x [i]≠0 then 0 else Hz x.side (Bq x) i.toNat:=λ_=>rfl
 have el:(((x.cells.map (Aj false)).length:Nat):Int)=(x.cells.length:Int):=by rw[Ae]
 have pX:AA x.D:=AJ;have cX:AX x.D:=AJ;have hxi:∀(i:Nat) (c:List AE),x.cells[i]?=some c->(x.cells.map (Aj false))[i]?=some (D.sl false 3 (c.map AE.D)):=λi c h=>by rw[Az,h];rfl
 have hx:∃a b c d,x.D=.agg [a,b,c,d,.sl false 1 (x.cells.map (Aj false))]:=⟨_,_,_,_,rfl⟩
 obtain⟨a1,a2,a3,a4,hx⟩:=hx;rw[hx]at cS cD cM pX cX cLv⊢;obtain⟨XD,hXD⟩:∃T,x.cells.map (Aj false)=T:=⟨_,rfl⟩
 rw[hXD]at cS cD cM pX cX cLv el hxi⊢;cases hsh:QH x
 ·rw[hsh]at cS
  refine AH F6 kB cS ha AB AB AB AB ?_;exact AM rfl AA.out
 rw[hsh]at cS
 by_cases g1:f<0
 ·have k1:decide (f<0)=true:=Ax g1
  refine AH F6 (Ar k1 kT kF) cS ha AB AB AB AB ?_;exact AM rfl AA.out
 have k1:decide (f<0)=false:=A8 g1
 by_cases g2:f>=(x.cells.length:Int)
 ·have k2:decide (f>=(x.cells.length:Int))=true:=Ax g2
  refine AH F6 (CN k1 k2 el kT kF) cS ha AB AB AB AB ?_;exact AM rfl AA.out
 have k2:decide (f>=(x.cells.length:Int))=false:=A8 g2
 by_cases g3:m<0
 ·have k3:decide (m<0)=true:=Ax g3
  refine AH F6 (EP k1 k2 k3 el kT kF) cS ha AB AB AB AB ?_;exact AM rfl AA.out
 have k3:decide (m<0)=false:=A8 g3;have hv:=hk hsh;obtain⟨k,rfl⟩:∃k:Nat,f=(k:Int):=⟨f.toNat,by omega⟩
 have hkl:k<x.cells.length:=by omega
 have hn4:=hv.sm.n;have hfw:∀c∈x.cells,c.length<=1000000/\∀y∈c,y.few:=λc hc=>⟨by have:=hv.sm.len c hc;omega,λy hy=>(hv.few c hc y hy).1.1⟩
 have cD:=cD (by omega) hfw (k:Int) m;have cM:=cM (k:Int) (by omega) hfw;have hc0:=dX hv.sm.bin hkl;rw[hmR,hc0,AG (λq=>q rfl),HG]at cM;have hat:=Nm hkl;have cL:=cLv k _ hat (EJ (GY (IU hv.sm.bin _ (Au hat))).1).2.2 (by omega);have hml:=b6 x.side (Bq x) k;rw[Rx hv.sm.bin hat]at hml;obtain⟨s1,s2,s3,s4⟩:=RW hv.sm.bin;have hmn:=sx (side:=x.side) (ls:=Bq x) (i:=k) ⟨s1,by omega⟩ (λv hv2=>by have:=(Nw hv.sm.bin).2 v hv2;omega) (by unfold Bq;rw[Ae];exact hkl) (Ph hv.sm.bin).2;have hno:=sj (m:=m) hv hkl (by omega);have hyes:=qV (m:=m) hv hkl (by omega);have hB:IA x (k:Int) m=if EM x (k:Int) m≠0 then P7 else CT x (k:Int) m:=rfl
 have hL:Lh x (k:Int) m=if EM x (k:Int) m≠0 then[]else Dp x (k:Int) m:=rfl
 have hlk:=λh:EM x (k:Int) m=0=>nU h hkl
 have hf2:=λh:EM x (k:Int) m=0=>Z0 h hv.few
 obtain⟨M,hM⟩:∃M,Hz x.side (Bq x) k=M:=⟨_,rfl⟩
 rw[hM]at cM hml hmn hno;obtain⟨S,hS⟩:∃S,Ai (CC x (k:Int))=S:=⟨_,rfl⟩
 rw[hS]at cL hml hno;have z0:((0:Int) != 0)=false:=rfl;have y1:decide (M>S)=false:=Bc;have y2:decide (M<0)=false:=Bc;have hdD:∃a b c d e,(IA x (k:Int) m).D=.agg [a,b,c,d,.sl false 1 e]:=⟨_,_,_,_,_,rfl⟩
 have pdD:AA (IA x (k:Int) m).D:=AJ;have cdD:AX (IA x (k:Int) m).D:=AJ;have hOm:(IA x (k:Int) m).D=.agg [str (sb (IA x (k:Int) m).flow),i64 (IA x (k:Int) m).core,i64 (IA x (k:Int) m).room,i64 (IA x (k:Int) m).side,.sl false 1 ((IA x (k:Int) m).cells.map (Aj false))]:=rfl;obtain⟨d1,d2,d3,d4,OD,hdD⟩:=hdD;have hODe:(IA x (k:Int) m).cells.map (Aj false)=OD:=by
  rw[hOm]at hdD;simp only[D.agg.injEq,FW,D.sl.injEq,true_and,and_true]at hdD;exact hdD.2.2.2.2
 clear hOm;have hLD:Aj false (Lh x (k:Int) m)=.sl false 3 ((Lh x (k:Int) m).map AE.D):=rfl;have pLD:AA (Aj false (Lh x (k:Int) m)):=AJ;rw[hdD]at cD pdD cdD;rw[hLD]at cD pLD;obtain⟨E,hEE⟩:∃E,EM x (k:Int) m=E:=⟨_,rfl⟩
 rw[hEE]at cD;obtain⟨LL,hLL⟩:∃L,(Lh x (k:Int) m).map AE.D=L:=⟨_,rfl⟩
 rw[hLL]at cD pLD;refine sR 0 ?_;refine EI ⟨[(2,.optr 0 0 5 0 0),(3,.optr 1 1 3 0 0)],[⟨1,1,26,3,[.agg [i64 (k:Int),i64 t,i64 m]]⟩,⟨0,0,24,5,[.agg [a1,a2,a3,a4,.sl false 1 XD]]⟩],100⟩ ?_ ?_
 ·refine AH F6 (EP k1 k2 k3 el kT kF) cS AB AB AB AB AB ?_
  exact⟨trivial,AK⟩
 refine EI ⟨[(2,.optr 0 0 5 0 0),(3,.optr 1 1 3 0 0),(5,.optr 310 110 5 0 0),(6,.sl false 3 LL),(7,i64 E)],[⟨310,110,24,5,[.agg [d1,d2,d3,d4,.sl false 1 OD]]⟩,⟨1,1,26,3,[.agg [i64 (k:Int),i64 t,i64 m]]⟩,⟨0,0,24,5,[.agg [a1,a2,a3,a4,.sl false 1 XD]]⟩],200⟩ ?_ ?_
 ·refine AH F6 kB cD AB AB AB AB AB ?_
  exact⟨trivial,AK⟩
 refine EI ⟨[(2,.optr 0 0 5 0 0),(3,.optr 1 1 3 0 0),(5,.optr 310 110 5 0 0),(6,.sl false 3 LL),(7,i64 E),(8,i64 M),(9,i64 0)],[⟨310,110,24,5,[.agg [d1,d2,d3,d4,.sl false 1 OD]]⟩,⟨1,1,26,3,[.agg [i64 (k:Int),i64 t,i64 m]]⟩,⟨0,0,24,5,[.agg [a1,a2,a3,a4,.sl false 1 XD]]⟩],300⟩ ?_ ?_
 ·refine AH F6 kB cM AB AB AB AB AB ?_
  exact⟨trivial,AK⟩
 refine EI ⟨[(2,.optr 0 0 5 0 0),(3,.optr 1 1 3 0 0),(5,.optr 310 110 5 0 0),(6,.sl false 3 LL),(7,i64 E),(8,i64 M)],[⟨310,110,24,5,[.agg [d1,d2,d3,d4,.sl false 1 OD]]⟩,⟨1,1,26,3,[.agg [i64 (k:Int),i64 t,i64 m]]⟩,⟨0,0,24,5,[.agg [a1,a2,a3,a4,.sl false 1 XD]]⟩],400⟩ ?_ ?_
 ·refine AH F6 (CN z0 y1 y2 kT kF) cL AB AB AB AB AB ?_
  exact⟨trivial,AK⟩
 by_cases h0:E=0
 rotate_left
 ·have e0:(E != 0)=true:=I7 h0
  obtain⟨n1,n2,n3⟩:=hno (by rw[hEE];exact h0);rw[n2]at hLL;have ln0:LL.length=0:=by rw[<-hLL];rfl
  have ln1:((0:Nat):Int)=0:=rfl;have z1:((0:Int)==0)=true:=rfl;have z2:(((0:Nat):Int)==0)=true:=rfl;have tt:(true==true)=true:=rfl;have ff:(false==false)=true:=rfl;have nm:(m != M)=true:=by simpa using n1
  rw[hEE]at n3;rcases n3 with⟨e1,e2⟩|⟨e1,e2⟩
  ·have q1:(E==13)=true:=by rw[e1];rfl
   have q2:(E==5)=false:=by rw[e1];rfl
   have q3:decide (m>S)=true:=BX;refine AH F6 (CP e0 q1 q2 q3 nm ln0 (Bb z1 z2 tt ff)) cL ha AB AB AB AB ?_;exact AM rfl AA.out
  ·have q1:(E==13)=false:=by rcases e1 with e1|e1<;>rw[e1]<;>rfl
   have q3:decide (m>S)=false:=Bc;rcases e1 with e1|e1
   ·have q2:(E==5)=false:=by rw[e1];rfl
    refine AH F6 (CP e0 q1 q2 q3 nm ln0 (Bb z1 z2 tt ff)) cL ha AB AB AB AB ?_;exact AM rfl AA.out
   ·have q2:(E==5)=true:=by rw[e1];rfl
    refine AH F6 (CP e0 q1 q2 q3 nm ln0 (Bb z1 z2 tt ff)) cL ha AB AB AB AB ?_;exact AM rfl AA.out
 have e0:(E != 0)=false:=by rw[h0];rfl
 refine EI ⟨[(2,.optr 0 0 5 0 0),(3,.optr 1 1 3 0 0),(5,.optr 310 110 5 0 0),(6,.sl false 3 LL),(8,i64 M)],[⟨310,110,24,5,[.agg [d1,d2,d3,d4,.sl false 1 OD]]⟩,⟨1,1,26,3,[.agg [i64 (k:Int),i64 t,i64 m]]⟩,⟨0,0,24,5,[.agg [a1,a2,a3,a4,.sl false 1 XD]]⟩],500⟩ ?_ ?_
 ·refine AH F6 e0 AB AB AB AB AB AB ?_
  exact⟨trivial,AK⟩
 have hE0:EM x (k:Int) m=0:=by rw[hEE];exact h0
 have hy:=hyes hE0;have hlk:=hlk hE0;have hf2:=hf2 hE0;rw[AG (λq=>q hE0)]at hB hL;rw[hB]at hODe hdD;rw[hL]at hLL;have hkO:k<(CT x (k:Int) m).cells.length:=by rw[show(CT x (k:Int) m).cells.length=x.cells.length from PP ..];exact hkl
 have hatO:=Nm hkO;have hNO:(CT x (k:Int) m).cells.length=x.cells.length:=PP ..;have cB:=bX (CT x (k:Int) m) (by omega) λc hc=>⟨by have:=(EJ (GY (IU hy.bin c hc)).1).1;omega,λy hq=>(hf2.1 c hc y hq).2⟩
 rw[hy.bin]at cB;have cP:=XE false (Dp x (k:Int) m) (by have:=hy.flow.len;omega) λy hq=>(hf2.2 y hq).2
 rw[hy.flow.par,show((0:Nat):Int)=0 from rfl]at cP;have cMs:=Su false (Dp x (k:Int) m) (EJ hy.flow.par).2.2;rw[hy.fsum]at cMs;have cL2:=Sg (CT x (k:Int) m) k _ hatO (EJ hy.rest.par).2.2 (by omega);rw[hy.rsum,hS]at cL2;have cG1:=Wo hy.flow;have cG2:=Wo hy.rest;have cG3:=Wo hy.cel;have cA:=e0e hy.flow hy.rest;rw[hlk]at cA;have cSm:=d9s hy.cel;have hLDF:Aj false (Dp x (k:Int) m)=.sl false 3 ((Dp x (k:Int) m).map AE.D):=rfl;rw[hLDF,hLL]at cP cMs cG1;rw[hdD]at cB cL2;have elO:(((OD.length:Nat)):Int)=(x.cells.length:Int):=by rw[<-hODe,Ae,hNO]
 have hOk:OD[k]?=some (.sl false 3 ((CC (CT x (k:Int) m) (k:Int)).map AE.D)):=by rw[<-hODe,Az,hatO];rfl
 have hXk:=hxi k _ hat;have hoth:∀(i:Nat) (c:List AE),i≠k->x.cells[i]?=some c->OD[i]?=some (.sl false 3 ((BZ c).map AE.D)):=λi c h1 h2=>by rw[<-hODe,Az,hy.oth i c h1 h2];rfl
 have hcs:∀(i:Nat) (c:List AE),x.cells[i]?=some c->AL C0 13 [.sl false 3 (c.map AE.D)] (.sl false 3 ((BZ c).map AE.D))/\AL C0 12 [.sl false 3 ((BZ c).map AE.D),.sl false 3 ((BZ c).map AE.D)] (Ap true)/\AA (.sl false 3 (c.map AE.D))/\AA (.sl false 3 ((BZ c).map AE.D)):=λi c h=>by
  have hp:=EJ (GY (IU hv.sm.bin c (Au h))).1
  have:=Yr hp.2.1 (by have:=hp.1;omega) (by have:=(JD (GY (IU hv.sm.bin c (Au h))).1).2.2;omega)
  have hl2:=Mc c;have hk2:∀y∈BZ c,y.shs.length<=1000000:=λy hq=>by
   obtain⟨z,hz,q1,q2⟩:=LH y hq;rw[q2];exact(hp.2.1 z hz).2.2
  exact⟨tQ false c (by omega) hp.2.1,tV false false (BZ c) (by omega) hk2,(AJ:AA (Aj false c)),(AJ:AA (Aj false (BZ c)))⟩
 have p1:AA (.sl false 3 ((CC (CT x (k:Int) m) (k:Int)).map AE.D)):=(AJ:AA (Aj false (CC (CT x (k:Int) m) (k:Int))))
 have p2:AA (.sl false 3 ((CC x (k:Int)).map AE.D)):=(AJ:AA (Aj false (CC x (k:Int))))
 have hLR:Aj false (CC (CT x (k:Int) m) (k:Int))=.sl false 3 ((CC (CT x (k:Int) m) (k:Int)).map AE.D):=rfl;have hLX:Aj false (CC x (k:Int))=.sl false 3 ((CC x (k:Int)).map AE.D):=rfl;rw[hLR]at cG2;rw[hLX]at cG3;have p3:AA (.sl false 2 ((DC (Dp x (k:Int) m)).map Bl)):=AJ;have p4:AA (.sl false 2 ((DC (CC (CT x (k:Int) m) (k:Int))).map Bl)):=AJ;have p5:AA (.sl false 2 ((DC (CC x (k:Int))).map Bl)):=AJ;have hle:=hy.le;rw[hM]at hle;have hSw:S<=999999999:=by rw[<-hS];exact hv.sm.mass _ (Au hat)
 generalize(CC (CT x (k:Int) m) (k:Int)).map AE.D=RD at hOk cG2 p1;generalize(CC x (k:Int)).map AE.D=CD at hXk cG3 p2;generalize(DC (Dp x (k:Int) m)).map Bl=P1 at cG1 cA p3;generalize(DC (CC (CT x (k:Int) m) (k:Int))).map Bl=P2 at cG2 cA p4;generalize(DC (CC x (k:Int))).map Bl=P3 at cG3 cA cSm p5;have y3:decide (m>M)=false:=Bc;have y4:((x.cells.length:Int) != (x.cells.length:Int))=false:=bne_self_eq_false _;have y5:(m != m)=false:=bne_self_eq_false _;have y6:IntKind.i64.wrap (S-m)=S-m:=wI;have y7:(S-m != S-m)=false:=bne_self_eq_false _;refine EI ⟨[(2,.optr 0 0 5 0 0),(3,.optr 1 1 3 0 0),(5,.optr 310 110 5 0 0),(6,.sl false 3 LL)],[⟨310,110,24,5,[.agg [d1,d2,d3,d4,.sl false 1 OD]]⟩,⟨1,1,26,3,[.agg [i64 (k:Int),i64 t,i64 m]]⟩,⟨0,0,24,5,[.agg [a1,a2,a3,a4,.sl false 1 XD]]⟩],600⟩ ?_ ?_
 ·refine AH F6 (CP y3 z0 el elO y4 y5 (Ab y6 y7)) cB cP cMs cL2 cL AB ?_
  exact⟨trivial,AK⟩
 refine AH F6 elO AB AB AB AB AB AB ?_;refine AC.loop (α:=Nat×Nat) (λp=>⟨[(2,.optr 0 0 5 0 0),(3,.optr 1 1 3 0 0),(5,.optr 310 110 5 0 0),(6,.sl false 3 LL),(146,i64 (x.cells.length:Int)),(147,i64 (p.1:Int))],[⟨310,110,24,5,[.agg [d1,d2,d3,d4,.sl false 1 OD]]⟩,⟨1,1,26,3,[.agg [i64 (k:Int),i64 t,i64 m]]⟩,⟨0,0,24,5,[.agg [a1,a2,a3,a4,.sl false 1 XD]]⟩],p.2⟩) (λp=>x.cells.length-p.1) (λq=>q.1<=x.cells.length) (0,_) (BT _) AK ?_;rintro⟨i,n⟩ F hi;dsimp only at hi⊢;rcases BC i x.cells.length with h2|h2
 rotate_left
 ·have e1:=Cc h2
  have ws:IntKind.i64.wrap (0+0)=0:=rfl;have z1:((0:Int)==0)=true:=rfl;refine AH F6 (Bb e1 ws z1 kN) cG1 hOk cG2 hXk cG3 AB ?_;refine AH F6 kB cA cSm ha AB AB AB ?_;exact AM rfl AA.out
 have e1:=CZ h2;have wi:=Ce (i:=i) (by omega)
 by_cases hik:i=k
 ·have q1:((i:Int) != (k:Int))=false:=by rw[hik];exact bne_self_eq_false _
  refine AH F6 (CN e1 wi q1 kT kF) AB AB AB AB AB AB ?_;exact⟨(i+1,_),h2,by dsimp only;omega,AK⟩
 ·have q1:((i:Int) != (k:Int))=true:=by
   have:(i:Int)≠(k:Int):=by omega
   simpa using this
  obtain⟨c,hc⟩:=CJ h2;have hmO:=hoth i c hik hc;have hmX:=hxi i c hc;obtain⟨cN,cE,p6,p7⟩:=hcs i c hc;refine AH F6 (EP e1 wi q1 kN kT kF) hmO hmX cN cE AB AB ?_;exact⟨(i+1,_),h2,by dsimp only;omega,AK⟩
def tA:List UInt8:=[97]
def tB:List UInt8:=[98]
def Fg:List UInt8:=[119,104,101,97,116]
def NY:List UInt8:=[102,117,110,110,101,108]
def C7 (m:Int):AE:=⟨Fg,m,[⟨tA,[49]⟩]⟩
def DY (m:Int):AE:=⟨Fg,m,[⟨tA,[49,47,50]⟩,⟨tB,[49,47,50]⟩]⟩
def Fv (x:AE):D:=.agg [str (sb x.grain),i64 x.mass,.sl true 2 (x.shs.map As.D)]
def kI:D:=.agg [str (sb NY),i64 4,i64 30,i64 12,.sl true 1 [.sl true 3 [Fv (C7 10),Fv (DY 6)],.sl true 3 [Fv (C7 5)]]]
theorem zp:AL C0 19 [] kI:=Cb D5 400 40
def Lo (d d':D):Prop:=∀(ρ:Lk) (O:Nat->Prop) (w:World) (v:Value),AU ρ O w d v->AU ρ O w d' v
theorem Lo.refl (d:D):Lo d d:=λ_ _ _ _ h=>h
theorem Lo.agg {ds ds':List D}(hl:ds.length=ds'.length)(h:∀(i:Nat) (d d':D),ds[i]?=some d->ds'[i]?=some d'->Lo d d'):Lo (.agg ds) (.agg ds'):=λρ O w v hv=>by
 cases hv with
 |agg hn ho hd=>
  refine .agg (hn.trans hl) ho λi d' hd'=>?_
  have hi:i<ds.length:=by rw[hl];exact(BS.1 hd').1
  exact h i _ d' (Bx hi) hd' _ _ _ _ (hd i _ (Bx hi))
theorem Lo.tup {ds ds':List D}(hl:ds.length=ds'.length)(h:∀(i:Nat) (d d':D),ds[i]?=some d->ds'[i]?=some d'->Lo d d'):Lo (.tup ds) (.tup ds'):=λρ O w v hv=>by
 cases hv with
 |tup hn hd=>
  refine .tup (hn.trans hl) λi d' hd'=>?_
  have hi:i<ds.length:=by rw[hl];exact(BS.1 hd').1
  exact h i _ d' (Bx hi) hd' _ _ _ _ (hd i _ (Bx hi))
def Ou (e e':D):Prop:=e'.cells.length=e.cells.length/\∀(j:Nat) (d d':D),e.cells[j]?=some d->e'.cells[j]?=some d'->Lo d d'
theorem Lo.sl {b:Bool}{sz:Nat}{es es':List D}(hl:es.length=es'.length)(hc:∀(i:Nat) (e e':D),es[i]?=some e->es'[i]?=some e'->Ou e e'):Lo (.sl b sz es) (.sl false sz es'):=λρ O w v hv=>by
 cases hv with
 |nil=>
  have:es'=[]:=List.length_eq_zero_iff.1 hl.symm
  subst this;exact .nil sz
 |emp a=>
  have:es'=[]:=List.length_eq_zero_iff.1 hl.symm
  subst this;exact .emp a
 |sl f hl' hc' hO hb hz hcell ho h=>
  have hx:∀(i:Nat) (e':D),es'[i]?=some e'->∃e,es[i]?=some e/\Ou e e':=λi e' he'=>by
   have hi:i<es.length:=by rw[hl];exact(BS.1 he').1
   exact⟨_,Bx hi,hc i _ e' (Bx hi) he'⟩
  refine .sl f (hl.symm.trans hl') hc' hO hb (λi e' he'=>?_) hcell ho λi e' j d' he' hd'=>?_
  ·obtain⟨e,he,h1,h2⟩:=hx i e' he'
   rw[h1];exact hz i e he
  ·obtain⟨e,he,h1,h2⟩:=hx i e' he'
   have hj:j<e.cells.length:=by rw[<-h1];exact(BS.1 hd').1
   exact h2 j _ d' (Bx hj) hd' _ _ _ _ (h i e j _ he (Bx hj))
def loosen:Nat->D->D
 | 0,d=>d
 |n+1,.agg ds=>.agg (ds.map (loosen n))
 |n+1,.tup ds=>.tup (ds.map (loosen n))
 |n+1,.sl _ sz es=>.sl false sz (es.map (loosen n))
 |_+1,d=>d
theorem Vo {f:D->D}(hf:∀d,Lo d (f d))(ds:List D)(i:Nat)(d d':D)(h:ds[i]?=some d)(h':(ds.map f)[i]?=some d'):Lo d d':=by
 rw[Az,h]at h';cases h';exact hf d
theorem ZL:∀n:Nat,(∀d,Lo d (loosen n d))/\∀e,Ou e (loosen n e)
 | 0=>⟨λd=>.refl d,λe=>⟨rfl,λj d d' h h'=>by
   have:d=d':=by
    have:=h.symm.trans h'
    injection this
   subst this;exact .refl d⟩⟩
 |n+1=>by
  obtain⟨h1,h2⟩:=ZL n;have hs:∀(es:List D) (i:Nat) (e e':D),es[i]?=some e->(es.map (loosen n))[i]?=some e'->Ou e e':=λes i e e' h h'=>by
   rw[Az,h]at h';cases h';exact h2 e
  have hL:∀d,Lo d (loosen (n+1) d):=λd=>by
   cases d with
   |agg ds=>exact .agg (by simp) (Vo h1 ds)
   |tup ds=>exact .tup (by simp) (Vo h1 ds)
   |sl b sz es=>exact .sl (by simp) (hs es)
   |_=>exact .refl _
  refine⟨hL,λe=>?_⟩;have one:e.cells=[e]->(loosen (n+1) e).cells=[loosen (n+1) e]->Ou e (loosen (n+1) e):=λa b=>by
   refine⟨by rw[a,b];rfl,λj d d' h h'=>?_⟩;rw[a]at h;rw[b]at h'
   match j with
   | 0=>cases h;cases h';exact hL e
   |j+1=>cases h
  cases e with
  |agg ds=>exact⟨by simp[loosen,D.cells],λj d d' h h'=>Vo h1 ds j d d' h h'⟩
  |_=>exact one rfl rfl
theorem AL.loosen {C:BA}{f:Nat}{args:List D}{d:D}(h:AL C f args d)(n:Nat):AL C f args (loosen n d):=
 ⟨h.1,λX w vs a b c e g=>(h.2 X w vs a b c e g).mono λ_ _ ⟨v,d,h1,h2,h3,h4⟩=>⟨v,_,h1,h2,rfl,by subst h3;exact(ZL n).1 _ _ _ _ _ h4⟩⟩
section
variable {C:BA} {F B:AZ} {ops:Array Oper} {rd:Option Nat}
theorem pN {K1:St->Prop}{Q:Exit->Act->World->Prop}{l2:List Nat}(h2:∀(s1:St) (ρ:Lk) (a:Act) (w:World),K1 s1->Bu C F ρ s1 a w->wpOps C.P ops Q l2 a w):∀(l:List Nat) (a:Act) (w:World),wpOps C.P ops (K7 C F K1) l a w->wpOps C.P ops Q (l++l2) a w:=by
 intro l
 induction l with
 |nil=>rintro a w ⟨_,s',ρ',hq,hs'⟩;exact h2 s' ρ' a w hq hs'
 |cons i l ih=>
  intro a w h;simp only[E2,wpOps]at h⊢;cases ho:ops[i]? with
  |none=>simp only[ho]at h⊢;exact ih a w h
  |some o=>
   simp only[ho]at h⊢;split
   ·rename_i hw
    rw[AI hw]at h;rcases h with h|⟨_,⟨a0,w0,h0⟩⟩
    ·refine .inl ?_
     unfold Oper.wp Oper.upon at h⊢;split<;>rename_i hr<;>simp only[hr]at h
     ·exact ih _ _ h
     ·exact ih _ _ h
     ·exact ih _ _ h
     ·refine Calls.mono h λe w'' he=>?_
      cases e with
      |returned v=>exact ih _ _ he
      |panicked c=>cases he.1
      |outgrown=>obtain⟨a0,w0,h0⟩:=he;cases h0.1
     ·exact Rows.mono h λ_ _ he=>ih _ _ he
     ·cases h.1
    ·cases h0.1
   ·rename_i hw
    rw[AG hw]at h;exact ih _ _ h
theorem e1G {K:St->Prop}{os1 os2:List Oper}{s:St}(h:BJ C F ops os1 s (λs1=>BJ C F ops os2 s1 K)):BJ C F ops (os1++os2) s K:=by
 intro hd l hl ρ a w hs;rw[Ky,BU]at hd;have hlen:l.length=os1.length+os2.length:=by
  have:=congrArg List.length hl
  simpa using this
 obtain⟨l1,l2,rfl,e1⟩:∃l1 l2,l=l1++l2/\l1.length=os1.length:=⟨l.take os1.length,l.drop os1.length,(FB _ _).symm,by rw[Bd];omega⟩
 rw[DA,DA]at hl;obtain⟨h1,h2⟩:=List.append_inj hl (by simpa using e1);exact pN (λs1 ρ a w hk hs=>hk hd.2 l2 h2 ρ a w hs) l1 a w (h hd.1 l1 h1 ρ a w hs)
theorem e1V {X:EV}{i:Nat}{s:St}{Q:Exit->AZ->St->Prop}(hX:Dj C X)(hnd:Er ops.toList=true)(h:BJ C F ops ((List.range ops.size).map λj=>ops.getD j default) s (Q .normal F)):AC C B rd F (.region i ops false) s Q:=by
 refine⟨λhB hd ρ a w hs=>wpIn_region ?_⟩;have hd:=KO hB hd;have h1:=BJ.run h (λj hj=>List.mem_range.1 hj) hd hs
 have:=GK (rd:=rd) (Q:=F8 C B Q) (l2:=[]) (λ_ _ _ h=>KF hB (λ_ h=>h) h) (IZ hnd) _ a w h1
 rwa [Dh]at this
def W7 (C:BA)(F:AZ)(X:EV)(kb:Nat)(ops:Array Oper):List (List Nat×Nat)->List Nat->St->(St->Prop)->Prop
 | [],l,s,K=>C6 C X kb ops l s True λacc s=>acc/\K s
 |(l1,i)::r,l,s,K=>C6 C X kb ops l1 s True λacc s1=>acc/\∃d,(∀(os:List Oper) (K':St->Prop),BJ C F ops os ⟨Bh s1.env (ops.getD i default).dst d,s1.H,s1.n+1⟩ K'->BJ C F ops (ops.getD i default::os) s1 K')/\W7 C F X kb ops r l ⟨Bh s1.env (ops.getD i default).dst d,s1.H,s1.n+1⟩ K
def Qg:List (List Nat×Nat)->List Nat->List Nat
 | [],l=>l
 |(l1,i)::r,l=>l1++i::Qg r l
theorem cJ {X:EV}(hX:Dj C X){kb:Nat}{K:St->Prop}:∀(r:List (List Nat×Nat)) (l:List Nat) (s:St),W7 C F X kb ops r l s K->BJ C F ops ((Qg r l).map λj=>ops.getD j default) s K
 | [],l,s,h=>(F5 hX (λacc s h=>h) h).2
 |(l1,i)::r,l,s,h=>by
  show BJ C F ops ((l1++i::Qg r l).map _) s K;rw[DA,Ci];refine e1G ?_;refine(F5 (K':=λs1=>BJ C F ops (ops.getD i default::(Qg r l).map λj=>ops.getD j default) s1 K) hX (λacc s1 h=>⟨h.1,?_⟩) h).2;obtain⟨d,h1,h2⟩:=h.2;exact h1 _ _ (cJ hX r l _ h2)
theorem e1W {X:EV}{i:Nat}{s:St}{Q:Exit->AZ->St->Prop}(hX:Dj C X)(kb:Nat)(r:List (List Nat×Nat))(l:List Nat)(hl:List.range ops.size=Qg r l)(hnd:Er ops.toList=true)(h:W7 C F X kb ops r l s (Q .normal F)):AC C B rd F (.region i ops false) s Q:=
 e1V hX hnd (by rw[hl];exact cJ hX r l s h)
def T2 (P:Program) (t:Nat):Prop:=∃(f1 f2:Field) (k1 k2:IntKind),P.underlying t=some (.struct #[f1,f2])/\P.stoodInHeld t=false/\P.eqGuardType P.depth t=false/\f1.name ≠ "_"/\f1.offset=0/\P.underlying f1.type=some (.int k1)/\f2.name ≠ "_"/\f2.offset=1/\P.underlying f2.type=some (.int k2)
theorem Xp {P:Program} {w:World} (d:Nat) {xs ys:Array Value} {f:Field} {fs:List Field} {i:Nat} {ka k:IntKind} {x y:Int} {b:Bool} (f1:f.name ≠ "_") (f2:f.offset=i) (f3:P.underlying f.type=some (.int k)) (hxa:xs[i]?=some (.int ka x)) (hya:ys[i]?=some (.int ka y))
  (ih:(Op.eqFields (d+1) xs ys fs).run P w=.ok b w):(Op.eqFields (d+1) xs ys (f::fs)).run P w=.ok (x==y&&b) w:=by
 have ag:(isAgg f.type).run P w=.ok false w:=by
  unfold isAgg;rw[run_bind,C5 f3];rfl
 have part1:(part f.type xs f.offset).run P w=.ok (.int ka x) w:=by
  unfold part;rw[run_bind,ag];dsimp only;rw[AG (by simp),f2];simp only[hxa];rfl
 have part2:(part f.type ys f.offset).run P w=.ok (.int ka y) w:=by
  unfold part;rw[run_bind,ag];dsimp only;rw[AG (by simp),f2];simp only[hya];rfl
 simp only[Op.eqFields];rw[AI f1,run_bind,part1];dsimp only;rw[run_bind,part2];dsimp only;rw[run_bind,run_equalIn_int w d f.type ka k x y f3];dsimp only;cases hb:x==y with
 |true=>simpa using ih
 |false=>rfl
theorem jv {o:Oper}{os:List Oper}{s:St}{K:St->Prop}{t tt:Nat}{x y:Operand}{a1 a2 b1 b2:Int}(hw:CS ops s.env o=some true)(ho:o.op=.binOp .neq t x y tt)(hT:T2 C.P t)(hx:BF s.env x=.agg [i64 a1,i64 a2])(hy:BF s.env y=.agg [i64 b1,i64 b2])
  (h:BJ C F ops os ⟨Bh s.env o.dst (Ap (!(a1==b1&&(a2==b2&&true)))),s.H,s.n+1⟩ K):BJ C F ops (o::os) s K:=
 BJ.step hw (λρ a w hs=>by
  refine⟨_,ρ,w,.inl ?_,Qn.pure hs (.prim _),λe he=>Dg (hs.gen e he)⟩;have rx:=Dk hs.env x;have ry:=Dk hs.env y;rw[hx]at rx;rw[hy]at ry;unfold execOp;simp only[ho];generalize a.eval x=vx at rx⊢;generalize a.eval y=vy at ry⊢;cases rx with
  |agg n1 o1 r1=>
   cases ry with
   |agg n2 o2 r2=>
    rename_i xs ys;obtain⟨f1,f2,k1,k2,c1,c2,c3,c4,c5,c6,c7,c8,c9⟩:=hT;have at_:∀ {vs:Array Value} {u1 u2:Int},vs.size=[i64 u1,i64 u2].length->(∀(i:Nat) (d:D),[i64 u1,i64 u2][i]?=some d->AU ρ (AN F.X ρ s.H) w d (vs.getD i undef))->vs[0]?=some (.int .i64 u1)/\vs[1]?=some (.int .i64 u2):=λ{vs u1 u2} n r=>by
     have q0:=r 0 _ rfl;have q1:=r 1 _ rfl;have m0:0<vs.size:=by rw[n];exact Nat.zero_lt_succ _
     have m1:1<vs.size:=by rw[n];exact IN _
     rw[Aw,B8 m0,JV]at q0;rw[Aw,B8 m1,JV]at q1;rw[B8 m0,B8 m1];generalize vs[0]=z0 at q0;generalize vs[1]=z1 at q1;cases q0;cases q1;exact⟨rfl,rfl⟩
    obtain⟨x0,x1⟩:=at_ n1 r1;obtain⟨y0,y1⟩:=at_ n2 r2;have eqf:C.P.fieldsOf t = #[f1,f2]:=by unfold Program.fieldsOf;rw[c1]
    have run:(Op.equalIn 10000 t (.agg xs) (.agg ys)).run C.P w=.ok (a1==b1&&(a2==b2&&true)) w:=by
     rw[show(10000:Nat)=9998+1+1 from rfl,run_equalIn_struct w _ t xs ys (by rw[eqf];exact c1) c2,eqf];exact Xp 9998 c4 c5 c6 x0 y0 (Xp 9998 c7 c8 c9 x1 y1 rfl)
    have r3:(do eqGuard .neq t x y (.agg xs) (.agg ys);binOp .neq t (.agg xs) (.agg ys):Sem Value).run C.P w=.ok (.bool (!(a1==b1&&(a2==b2&&true)))) w:=by
     rw[run_bind,run_eqGuard_agg w .neq t x y xs ys c3];dsimp only;rw[run_neq_struct,run];rfl
    rw[run_bind,r3];rfl) h
end
def TD (P:Program)(t:Nat):Bool:=match P.underlying t with
 |some (.int _)=>true
 |_=>false
theorem ar {P:Program}{t:Nat}(h:TD P t=true):∃k,P.underlying t=some (.int k):=by
 unfold TD at h;split at h
 ·rename_i k hk;exact⟨k,hk⟩
 ·cases h
def kP (P:Program):List Field->Bool
 | [f1,f2]=>(f1.name != "_")&&Nat.beq f1.offset 0&&TD P f1.type&&(f2.name != "_")&&Nat.beq f2.offset 1&&TD P f2.type
 |_=>false
def kO (P:Program)(t:Nat):Bool:=match P.underlying t with
 |some (.struct fs)=>!(P.stoodInHeld t) && !(P.eqGuardType P.depth t)&&kP P fs.toList
 |_=>false
theorem yO {P:Program}{t:Nat}(h:kO P t=true):T2 P t:=by
 unfold kO at h;split at h<;>try(cases h;done)
 rename_i fs hu;simp only[BU,Bs]at h;obtain⟨⟨h1,h2⟩,h3⟩:=h;obtain⟨l⟩:=fs
 match l,h3 with
 | [f1,f2],h3=>
  simp only[kP,BU,bne_iff_ne]at h3;obtain⟨⟨⟨⟨⟨g1,g2⟩,g3⟩,g4⟩,g5⟩,g6⟩:=h3;obtain⟨k1,e1⟩:=ar g3;obtain⟨k2,e2⟩:=ar g6;exact⟨f1,f2,k1,k2,hu,h1,h2,g1,CH g2,e1,g4,CH g5,e2⟩
theorem bi:T2 C0.P 61:=yO (by kernel_rfl)
def lA:List AE:=[C7 10,DY 6]
def lB:List AE:=[C7 5]
def cA:D:=Aj false lA
def cB:D:=Aj false lB
def D7:D:=.agg [str (sb NY),i64 4,i64 30,i64 12,.sl false 1 [cA,cB]]
theorem e0m:AL C0 19 [] D7:=by
 have h:=zp.loosen 10
 rwa [show loosen 10 kI=D7 from rfl]at h
theorem bB {x:AE}(h:decide (x.grain.length<=1000)&&decide (x.shs.length<=1000)&&x.shs.all (λs=>decide (s.lot.length<=1000)&&decide (s.part.length<=40))=true):x.lite:=by
 simp only[BU,HH,CY]at h;obtain⟨⟨h1,h2⟩,h3⟩:=h;exact⟨⟨by omega,by omega,λs hs=>⟨by have:=(h3 s hs).1;omega,by have:=(h3 s hs).2;omega⟩⟩,h3⟩
theorem SE:∀x∈lA,x.lite:=by
 intro x hx;simp only[lA,A9,Dv,or_false]at hx;rcases hx with rfl|rfl<;>exact bB rfl
theorem xe:∀x∈lB,x.lite:=by
 intro x hx;simp only[lB,A9,Dv,or_false]at hx;subst hx;exact bB rfl
theorem Sa:Bz lA=0:=by kernel_rfl
theorem zL:Bz lB=0:=by kernel_rfl
theorem tE:DC lA=[(tA,13),(tB,3)]:=by kernel_rfl
theorem Wt:GE (CU lA)=[(tA,13),(tB,3)]:=by rw[<-Us];exact tE
theorem bq:(CU lA).any (λp=>DJ p.2)=false:=by kernel_rfl
theorem tF:OK lA=0:=by
 unfold OK Id;rw[AG (by rw[Sa];exact λh=>h rfl),bq];rfl
theorem tG:OL lA=[(tA,13),(tB,3)]:=by
 unfold OL Jp;rw[AG (by rw[Sa];exact λh=>h rfl),bq,Wt];rfl
def Tk:List UInt8:=[49,51]
def t3:List UInt8:=[51]
def G6:List UInt8:=[49,51,47,49,54]
def HE:List UInt8:=[51,47,49,54]
def Lt (m:Int):AE:=⟨Fg,m,[⟨tA,G6⟩,⟨tB,HE⟩]⟩
theorem d9z:Bl (tA,13)=Cf (tA,Tk):=by unfold Bl Cf;rw[show A0 13=Tk by kernel_rfl]
theorem d9A:Bl (tB,3)=Cf (tB,t3):=by unfold Bl Cf;rw[show A0 3=t3 by kernel_rfl]
theorem tv:AL C0 14 [cA] (.tup [.sl false 2 [Cf (tA,Tk),Cf (tB,t3)],i64 0]):=by
 have h:=jZ false lA (by decide) SE;rw[tF,tG,Ci,Ci,List.map_nil,d9z,d9A]at h;exact h
theorem S0:lA.map (EQ Fg)=lA:=rfl
theorem zJ:IG lA=0:=by kernel_rfl
theorem d9D:[((tA,13):List UInt8×Rat),(tB,3)].any (λp=>DJ (p.2/(Ai lA:Rat)))=false:=by kernel_rfl
theorem d9E:(CU lA).length=2:=by kernel_rfl
theorem gI:Ha lA=0:=by
 unfold Ha;rw[AG (by rw[zJ];exact λh=>h rfl),AG (by rw[d9E];decide),Wt,d9D];rfl
theorem WH:FQ lA=[⟨tA,G6⟩,⟨tB,HE⟩]:=by
 unfold FQ;rw[Wt];kernel_rfl
theorem Sy:Ai lA=16:=by kernel_rfl
theorem zK:Lu lA=Lt 16:=by rw[b5 gI,WH,Sy];rfl
theorem br:H3 lA Fg=0:=by kernel_rfl
theorem bs:JH lA Fg=0:=by unfold JH;rw[br,S0,gI];rfl
theorem tH:Mt lA Fg=Lt 16:=by unfold Mt;rw[br,S0,zK];rfl
theorem uC:AL C0 20 [cA,str (sb Fg)] (.tup [(Lt 16).D,i64 0]):=by
 have h:=j0 false lA Fg (by decide) SE (by decide);rw[bs,tH]at h;exact h
theorem yX:Gc lA 15=⟨Fg,1,[⟨tA,G6⟩,⟨tB,HE⟩]⟩:=by
 unfold Gc;rw[Sy,show(CX lA 0).grain=Fg from rfl,S0,WH];rfl
theorem gH:Hy (Gc lA 15)=[(tA,mkRat 13 16),(tB,mkRat 3 16)]:=by rw[yX];kernel_rfl
theorem gG:[((tA,mkRat 13 16):List UInt8×Rat),(tB,mkRat 3 16)].any (λp=>DJ p.2)=false:=by kernel_rfl
theorem yW:Id (CU [Gc lA 15])=0:=by
 unfold Id;rw[(VS lA 15).1,gH,gG];rfl
theorem zM:Ca lA=true:=by kernel_rfl
theorem WI:Jw lA 15=0:=by
 unfold Jw;rw[Sa,AG (λh=>h rfl),AG (by decide),Sy,AG (by decide),zM,AG (λh=>by cases h),show(CX lA 0).grain=Fg from rfl,bs,AG (λh=>h rfl),AG (by decide),yW]
theorem zO:TK lA 15=Lt 15:=by
 unfold TK;rw[WI,AG (λh=>h rfl),show(CX lA 0).grain=Fg from rfl,S0,WH];rfl
theorem zN:TJ lA 15=[(tA,mkRat 13 16),(tB,mkRat 3 16)]:=by
 unfold TJ Jp;rw[WI,AG (λh=>h rfl),Sy,AG (by decide),(VS lA 15).2,(VS lA 15).1,gH,gG];rfl
theorem d9B:Bl (tA,mkRat 13 16)=Cf (tA,G6):=by unfold Bl Cf;rw[show A0 (tA,mkRat 13 16).2=G6 by kernel_rfl]
theorem d9C:Bl (tB,mkRat 3 16)=Cf (tB,HE):=by unfold Bl Cf;rw[show A0 (tB,mkRat 3 16).2=HE by kernel_rfl]
theorem ph:AL C0 25 [cA,i64 15] (.tup [(Lt 15).D,.sl false 2 [Cf (tA,G6),Cf (tB,HE)],i64 0]):=by
 have h:=sI false lA 15 (by decide) SE;rw[WI,zO,zN,Ci,Ci,List.map_nil,d9B,d9C]at h;exact h
theorem uA:AL C0 46 [cA] (i64 0):=by
 have h:=OR false lA (by decide) λx hx=>(SE x hx).1
 rw[Sa]at h;exact h
theorem uB:AL C0 46 [cB] (i64 0):=by
 have h:=OR false lB (by decide) λx hx=>(xe x hx).1
 rw[zL]at h;exact h
theorem tz:AL C0 54 [str (sb tB)] (Ap true):=by
 have h:=R1 tB;rw[show D8 tB=true by kernel_rfl]at h;exact h
theorem d9c (x:AE)(h:x.shs.length<=1000000)(m:Int):AL C0 67 [x.D,i64 m] (x.w m).D:=Pk x m h
theorem V0 {l:List AE}(h:l.all (λx=>decide (x.shs.length<=1000000))=true):∀x∈l,∀m,AL C0 67 [x.D,i64 m] (x.w m).D:=λx hx m=>d9c x (DN (CY.1 h x hx)) m
theorem VT {l:List AE}(h:l.all (λx=>decide (0<=x.mass)&&decide (x.mass<=1000000000))=true):∀x∈l,0<=x.mass/\x.mass<=1000000000:=λx hx=>by
 have:=CY.1 h x hx
 simpa using this
theorem n_1:AL C0 36 [Aj false [DY 2]] (Aj false [DY 2]):=Cb D5 400 40
theorem n_2:AL C0 36 [Aj false [C7 1]] (Aj false [C7 1]):=Cb D5 400 40
theorem n_3:AL C0 36 [Aj false [C7 9,DY 4]] (Aj false [C7 9,DY 4]):=Cb D5 400 40
theorem gj:AL C0 31 [cA] (i64 16):=Cb D5 400 40
theorem rm:AL C0 74 [cA,i64 2,Ap true] (Aj false [DY 2]):=Ve false true lA 2 (by decide) (by decide) (VT rfl) (V0 rfl) _ n_1
theorem rn:AL C0 74 [cA,i64 1,Ap false] (Aj false [C7 1]):=Ve false false lA 1 (by decide) (by decide) (VT rfl) (V0 rfl) _ n_2
theorem ub:AL C0 34 [cA,i64 1,i64 2] (Aj false [C7 9,DY 4]):=YZ false lA 1 2 (by decide) (by decide) (by decide) 16 (by decide) (VT rfl) gj (V0 rfl) _ n_3
theorem zC:AL C0 99 [cA,str (sb tB)] (.sl false 2 [GW (11,16)]):=by
 have h:=kq false lA tB (by decide) λx hx=>by
  simp only[lA,A9,Dv,or_false]at hx;rcases hx with rfl|rfl<;>exact⟨by decide,by decide,by decide⟩
 rw[show L7 tB lA 0=[(11,16)] by kernel_rfl]at h;exact h
theorem ud:AL C0 37 [.sl true 1 [Aj false [DY 2],Aj false [C7 1]]] (Aj false [DY 2,C7 1]):=Ym [[DY 2],[C7 1]] (by simp) (by decide) (by decide)
def QN:List (Nat×List D×D):=[(46,[cA],i64 0),(46,[cB],i64 0),(54,[str (sb tB)],Ap true),
 (74,[cA,i64 2,Ap true],Aj false [DY 2]),(74,[cA,i64 1,Ap false],Aj false [C7 1]),(34,[cA,i64 1,i64 2],Aj false [C7 9,DY 4]),
 (99,[cA,str (sb tB)],.sl false 2 [GW (11,16)]),(37,[.sl true 1 [Aj false [DY 2],Aj false [C7 1]]],Aj false [DY 2,C7 1])]
instance e0J:AA cA:=by unfold cA;exact AJ
instance e0K:AA cB:=by unfold cB;exact AJ
instance q_cA:AX cA:=by unfold cA;exact AJ
instance q_cB:AX cB:=by unfold cB;exact AJ
theorem bj:∀e∈QN,AL C0 e.1 e.2.1 e.2.2/\Ah e.2.1:=by
 intro e he;simp only[QN,A9,Dv,or_false]at he;rcases he with rfl|rfl|rfl|rfl|rfl|rfl|rfl|rfl
 ·exact⟨uA,AJ⟩
 ·exact⟨uB,AJ⟩
 ·exact⟨tz,AJ⟩
 ·exact⟨rm,AJ⟩
 ·exact⟨rn,AJ⟩
 ·exact⟨ub,AJ⟩
 ·exact⟨zC,AJ⟩
 ·exact⟨ud,AJ⟩
noncomputable def X5:EV:=⟨Ql,NI.get,Oi.get,λ_=>false,OI QN,Tf,Lv⟩
theorem Es:Fj C0 X5:=⟨XF,Sz,K0,Uk QN bj,by kernel_rfl,gR,Ry⟩
def kJ:D:=.agg [str (sb NY),i64 4,i64 30,i64 12,.sl false 1 [Aj false [C7 9,DY 4],Aj false [C7 5]]]
theorem tq:AL C0 6 [D7,i64 0,i64 3] (.tup [kJ,Aj false [DY 2,C7 1],i64 0]):=Cb Es 400 40
abbrev Wp (ls:List Int)(i:Int):D:=.clo (.func 75) [] [.pptr (.sl false 1 (Bi ls)),.pptr (i64 i),.pptr D7]
abbrev yN (ls:List Int)(i:Int):D:=.clo (.func 59) [] [.pptr D7,.pptr (.sl false 1 (Bi ls)),.pptr (i64 i)]
theorem nN:AL C0 58 [.sl false 1 (Bi [16,5]),i64 ((0:Nat):Int),Wp [16,5] ((0:Nat):Int)] (.sl false 1 [i64 23]):=Cb Es 400 40
theorem nO:AL C0 58 [.sl false 1 (Bi [16,5]),i64 ((1:Nat):Int),Wp [16,5] ((1:Nat):Int)] (.sl false 1 [i64 1]):=Cb Es 400 40
theorem nP:AL C0 58 [.sl false 1 (Bi [0,5]),i64 ((1:Nat):Int),Wp [0,5] ((1:Nat):Int)] (.sl false 1 [i64 17]):=Cb Es 400 40
theorem nQ:AL C0 58 [.sl false 1 (Bi [16,5]),i64 ((1:Nat):Int),yN [16,5] ((1:Nat):Int)] (.sl false 1 [i64 23]):=Cb Es 400 40
theorem l_1:AL C0 57 [i64 16,.sl false 1 [i64 23]] (i64 16):=Cb Es 400 40
theorem l_2:AL C0 57 [i64 5,.sl false 1 [i64 1]] (i64 1):=Cb Es 400 40
theorem l_3:AL C0 57 [i64 5,.sl false 1 [i64 17]] (i64 5):=Cb Es 400 40
theorem l_4:AL C0 57 [i64 25,.sl false 1 [i64 23]] (i64 23):=Cb Es 400 40
instance e0L:AA D7:=by unfold D7;exact AJ
instance e0O:AX D7:=by unfold D7;exact AJ
theorem m_1:AL C0 41 [D7,.sl false 1 (Bi [16,5]),i64 ((0:Nat):Int)] (i64 16):=SG D7 ⟨_,_,_,_,_,rfl⟩ false _ 0 16 rfl _ 16 nN l_1
theorem m_2:AL C0 41 [D7,.sl false 1 (Bi [16,5]),i64 ((1:Nat):Int)] (i64 1):=SG D7 ⟨_,_,_,_,_,rfl⟩ false _ 1 5 rfl _ 1 nO l_2
theorem m_3:AL C0 41 [D7,.sl false 1 (Bi [0,5]),i64 ((1:Nat):Int)] (i64 5):=SG D7 ⟨_,_,_,_,_,rfl⟩ false _ 1 5 rfl _ 5 nP l_3
theorem zB:AL C0 40 [D7] (.sl false 1 (Bi [16,5])):=Cb Es 400 40
theorem uc:AL C0 29 [D7,.sl true 1 [i64 1]] (i64 0):=Cb Es 400 40
theorem zA:AL C0 65 [D7] (i64 0):=Cb Es 400 40
theorem rl:AL C0 21 [D7,i64 1] (.tup [i64 23,i64 0]):=t6 D7 _ _ _ _ 30 rfl _ 1 5 rfl _ 23 uc zB nQ 25 rfl l_4
def XG:List (Nat×List D×D):=(41,[D7,.sl false 1 (Bi [16,5]),i64 1],i64 1)::QN
theorem td:∀e∈XG,AL C0 e.1 e.2.1 e.2.2/\Ah e.2.1:=by
 intro e he;rcases A9.1 he with rfl|he
 ·exact⟨m_2,AJ⟩
 ·exact bj e he
noncomputable def kS:EV:=⟨Ql,NI.get,Oi.get,λ_=>false,OI XG,Tf,Lv⟩
theorem yx:Fj C0 kS:=⟨XF,Sz,K0,Uk XG td,by kernel_rfl,gR,Ry⟩
theorem tw:AL C0 7 [D7,i64 1] (.tup [i64 1,i64 0]):=Cb yx 400 40
theorem ri:AL C0 22 [D7,i64 0,str (sb tB)] (.tup [i64 2,i64 0]):=Cb Es 400 40
theorem tu:AL C0 23 [D7,i64 0,str (sb tB)] (.tup [i64 8,i64 0]):=Cb Es 400 40
def kL (l:List Int):Int:=if l=[16,5]then 16 else 5
theorem rh:AL C0 24 [D7] (.tup [.sl false 2 [Iv (0,16),Iv (1,5)],i64 0]):=by
 have h:=rJ (str (sb NY)) (i64 4) (i64 30) (i64 12) false [cA,cB] [16,5] rfl (by simp) (by decide) (λi c m h1 h2=>by
  match i with
  | 0=>cases h1;cases h2;exact gj
  | 1=>cases h1;cases h2;exact Cb Es 400 40
  |i+2=>cases h1) (λc hc=>by
  simp only[A9,Dv,or_false]at hc;rcases hc with rfl|rfl
  ·exact⟨_,_,rfl,e0J⟩
  ·exact⟨_,_,rfl,e0K⟩) zA kL (λl=>l=[16,5]\/l=[0,5]\/l=[0,0]) (.inl rfl) (λl hl hn=>by
  rcases hl with rfl|rfl|rfl
  ·exact⟨m_1,rfl,.inr (.inl rfl)⟩
  ·exact⟨m_3,rfl,.inr (.inr rfl)⟩
  ·exact Ak rfl hn)
 rw[show L4 kL 257 [16,5] []=([(0,16),(1,5)],0) by kernel_rfl]at h;exact h
abbrev cU:Dr:=[(16,[0,1,2,3,4,5,6,7,8,9,10,11,12,13,14,15,16,17,18],[19,20,21])]
open Go.Proofs Go.RowKit Go.Sort
set_option maxRecDepth 20000
set_option maxHeartbeats 8000000
def e1e:D:=.sl true 2 [.agg [str (sb tA),str (sb G6)],.agg [str (sb tB),str (sb HE)]]
theorem e0F (m:Int):AL C0 26 [.sl false 2 [.agg [str (sb tA),str (sb G6)],.agg [str (sb tB),str (sb HE)]],e1e] (Ap true):=Cb Es 400 40
theorem xc:AL C0 15 [.sl false 2 [Cf (tA,G6),Cf (tB,HE)],.sl true 2 [Cf (tA,G6),Cf (tB,HE)]] (Ap true):=Cb Es 400 40
theorem e0z:AL C0 27 [i64 2,Ap true] (Fv (DY 2)):=Cb Es 400 40
theorem e0A:AL C0 27 [i64 1,Ap false] (Fv (C7 1)):=Cb Es 400 40
theorem e0B:AL C0 27 [i64 9,Ap false] (Fv (C7 9)):=Cb Es 400 40
theorem e0C:AL C0 27 [i64 4,Ap true] (Fv (DY 4)):=Cb Es 400 40
theorem e0D:AL C0 12 [Aj false [DY 2,C7 1],.sl true 3 [Fv (DY 2),Fv (C7 1)]] (Ap true):=Cb Es 400 40
theorem e0E:AL C0 12 [Aj false [C7 9,DY 4],.sl true 3 [Fv (C7 9),Fv (DY 4)]] (Ap true):=Cb Es 400 40
theorem uZ:AL C0 5 [] (Ap true):=by
 refine Ad.walk w1 jg rfl λF=>?_
 have cE:=e0m;have cL:=tv;have cP:AL C0 20 [cA,.prim (.string ⟨#[119,104,101,97,116]⟩)] (.tup [(Lt 16).D,i64 0]):=uC;have cD:=tq;have cM:=tw;have cS:=rl;have cF:AL C0 22 [D7,i64 0,.prim (.string ⟨#[98]⟩)] (.tup [i64 2,i64 0]):=ri;have cLa:AL C0 23 [D7,i64 0,.prim (.string ⟨#[98]⟩)] (.tup [i64 8,i64 0]):=tu;have cEm:=rh;have cSh:=ph;have pA:AA cA:=AJ;have pB:AA cB:=AJ;have pX:AA D7:=AJ;unfold D7 at cE cD cM cS cF cLa cEm pX;have hA:∃T,cA=.sl false 3 T:=⟨_,rfl⟩
 have hB:∃T,cB=.sl false 3 T:=⟨_,rfl⟩
 obtain⟨TA,hA⟩:=hA;obtain⟨TB,hB⟩:=hB;rw[hA,hB]at cE cD cM cS cF cLa cEm pX;rw[hA]at cL cP cSh pA;rw[hB]at pB;have hm:([.sl false 3 TA,.sl false 3 TB]:List D)[0]?=some (.sl false 3 TA):=rfl;have dP:(Lt 16).D=.agg [str (sb Fg),i64 16,.sl false 2 [.agg [str (sb tA),str (sb G6)],.agg [str (sb tB),str (sb HE)]]]:=rfl;have dP2:(Lt 15).D=.agg [str (sb Fg),i64 15,.sl false 2 [.agg [str (sb tA),str (sb G6)],.agg [str (sb tB),str (sb HE)]]]:=rfl;rw[dP]at cP;rw[dP2]at cSh;unfold kJ at cD;refine AH cU kB cE hm cL cP cD cM ?_;refine cI cS ?_;refine sR 700 ?_;refine cI cF ?_;refine sR 800 ?_;refine cI cLa ?_;refine sR 900 ?_;refine cI cEm ?_;refine sR 1000 ?_;refine B3 kT hm ?_;refine AF kB ?_;refine cI cSh ?_;have z0:IntKind.i64.wrap (0+0)=0:=rfl;have n0:((0:Int) != 0)=false:=rfl;have n1:((1:Int) != 1)=false:=rfl;have n23:((23:Int) != 23)=false:=rfl;have n2:((2:Int) != 2)=false:=rfl;have n2':(((2:Nat):Int) != 2)=false:=rfl;have s0:([.agg [i64 0,i64 16],.agg [i64 1,i64 5]]:List D)[0]?=some (.agg [i64 0,i64 16]):=rfl;have s1:([.agg [i64 0,i64 16],.agg [i64 1,i64 5]]:List D)[1]?=some (.agg [i64 1,i64 5]):=rfl;have n8:((8:Int) != 8)=false:=rfl;obtain⟨C1,hC1⟩:∃d,Aj false [C7 9,DY 4]=d:=⟨_,rfl⟩
 obtain⟨O1,hO1⟩:∃d,Aj false [DY 2,C7 1]=d:=⟨_,rfl⟩
 rw[hC1,hO1];refine AC.weak ⟨[(2,.sl false 2 [.agg [str (sb tA),str (sb Tk)],.agg [str (sb tB),str (sb t3)]]),(3,i64 0),(4,.optr 308 22 3 0 0),(5,i64 0),(6,.optr 406 31 5 0 0),(7,O1),(8,i64 0),(9,i64 1),(10,i64 0),(11,i64 23),(12,i64 0),(13,i64 2),(14,i64 0),(15,i64 8),(16,i64 0),(17,.sl false 2 [.agg [i64 0,i64 16],.agg [i64 1,i64 5]]),(18,i64 0),(19,.optr 1009 79 3 0 0),(20,.sl false 2 [.agg [str (sb tA),str (sb G6)],.agg [str (sb tB),str (sb HE)]]),(21,i64 0)],
  [⟨1009,79,51,3,[.agg [str (sb Fg),i64 15,.sl false 2 [.agg [str (sb tA),str (sb G6)],.agg [str (sb tB),str (sb HE)]]]]⟩,⟨406,31,24,5,[.agg [str (sb NY),i64 4,i64 30,i64 12,.sl false 1 [C1,Aj false [C7 5]]]]⟩,⟨308,22,51,3,[.agg [str (sb Fg),i64 16,.sl false 2 [.agg [str (sb tA),str (sb G6)],.agg [str (sb tB),str (sb HE)]]]]⟩],_⟩ AK ?_
 refine AC.seq ?_;refine AC.seq ?_;refine e1W w1 1100 [([0,1,2,3,4,5,6,7,8,9,10,11,12,13,14,15,16,17,18,19,20,21,22,23,24,25,26,27,28,29,30,31,32,33,34,35,36,37,38,39,40,41,42,43],44),([45,46,47,48,49,50],51)] [52] rfl (by kernel_rfl) ?_;change C6 _ _ _ _ _ _ _ _;refine AF (CP z0 n0 n1 n23 n2 n2' (Ar n8 kT kF)) ?_;refine AF (CP z0 n0 n1 n23 n2 n2' (Ar n8 kT kF)) ?_;refine AF (CP z0 n0 n1 n23 n2 n2' (Ar n8 kT kF)) ?_;refine AF (CP z0 n0 n1 n23 n2 n2' (Ar n8 kT kF)) ?_;refine AF (CP z0 n0 n1 n23 n2 n2' (Ar n8 kT kF)) ?_;refine AF (Ar n2' kT kF) ?_;refine B3 kF s0 ?_;refine AF (Ar n2' kT kF) ?_;refine AF (Ar n2' kT kF) ?_;refine⟨Ap false,λos K' hk=>jv (a1:=0) (a2:=16) (b1:=0) (b2:=16) rfl rfl bi rfl rfl hk,?_⟩;change C6 _ _ _ _ _ ⟨(124,Ap false)::_,_,_⟩ _ _;refine BM ?_;refine AF (Ar n2' kT kF) ?_;refine AF (Ar n2' kT kF) ?_;refine B3 kF s1 ?_;refine AF (Ar n2' kT kF) ?_;refine AF (Ar n2' kT kF) ?_;refine⟨Ap false,λos K' hk=>jv (a1:=1) (a2:=5) (b1:=1) (b2:=5) rfl rfl bi rfl rfl hk,?_⟩;change C6 _ _ _ _ _ ⟨(131,Ap false)::_,_,_⟩ _ _;refine BM ?_;refine AF (Ar n2' kT kF) ?_;refine AO ?_;refine Am ?_;refine AC.weak ⟨[(2,.sl false 2 [.agg [.prim (.string ⟨#[97]⟩),.prim (.string ⟨#[49,51]⟩)],.agg [.prim (.string ⟨#[98]⟩),.prim (.string ⟨#[51]⟩)]]),(4,.optr 308 22 3 0 0),(6,.optr 406 31 5 0 0),(7,O1),(19,.optr 1009 79 3 0 0),(20,.sl false 2 [.agg [.prim (.string ⟨#[97]⟩),.prim (.string ⟨#[49,51,47,49,54]⟩)],.agg [.prim (.string ⟨#[98]⟩),.prim (.string ⟨#[51,47,49,54]⟩)]])],
  [⟨1009,79,51,3,[.agg [str (sb Fg),i64 15,.sl false 2 [.agg [.prim (.string ⟨#[97]⟩),.prim (.string ⟨#[49,51,47,49,54]⟩)],.agg [.prim (.string ⟨#[98]⟩),.prim (.string ⟨#[51,47,49,54]⟩)]]]]⟩,⟨406,31,24,5,[.agg [str (sb NY),i64 4,i64 30,i64 12,.sl false 1 [C1,Aj false [C7 5]]]]⟩,⟨308,22,51,3,[.agg [str (sb Fg),i64 16,.sl false 2 [.agg [.prim (.string ⟨#[97]⟩),.prim (.string ⟨#[49,51,47,49,54]⟩)],.agg [.prim (.string ⟨#[98]⟩),.prim (.string ⟨#[51,47,49,54]⟩)]]]]⟩],_⟩ AK ?_
 have h1:AL C0 26 [.sl false 2 [.agg [.prim (.string ⟨#[97]⟩),.prim (.string ⟨#[49,51,47,49,54]⟩)],.agg [.prim (.string ⟨#[98]⟩),.prim (.string ⟨#[51,47,49,54]⟩)]],.sl true 2 [.agg [.prim (.string ⟨#[97]⟩),.prim (.string ⟨#[49,51,47,49,54]⟩)],.agg [.prim (.string ⟨#[98]⟩),.prim (.string ⟨#[51,47,49,54]⟩)]]] (Ap true):=e0F 0;have h2:AL C0 15 [.sl false 2 [.agg [.prim (.string ⟨#[97]⟩),.prim (.string ⟨#[49,51,47,49,54]⟩)],.agg [.prim (.string ⟨#[98]⟩),.prim (.string ⟨#[51,47,49,54]⟩)]],.sl true 2 [.agg [.prim (.string ⟨#[97]⟩),.prim (.string ⟨#[49,51,47,49,54]⟩)],.agg [.prim (.string ⟨#[98]⟩),.prim (.string ⟨#[51,47,49,54]⟩)]]] (Ap true):=xc;have e1:BI ⟨#[97]⟩ ⟨#[97]⟩=true:=KH _;have e2:BI ⟨#[49,51]⟩ ⟨#[49,51]⟩=true:=KH _;have e3:BI ⟨#[98]⟩ ⟨#[98]⟩=true:=KH _;have e4:BI ⟨#[51]⟩ ⟨#[51]⟩=true:=KH _;have x0:([.agg [.prim (.string ⟨#[97]⟩),.prim (.string ⟨#[49,51]⟩)],.agg [.prim (.string ⟨#[98]⟩),.prim (.string ⟨#[51]⟩)]]:List D)[0]?=some (.agg [.prim (.string ⟨#[97]⟩),.prim (.string ⟨#[49,51]⟩)]):=rfl;have x1:([.agg [.prim (.string ⟨#[97]⟩),.prim (.string ⟨#[49,51]⟩)],.agg [.prim (.string ⟨#[98]⟩),.prim (.string ⟨#[51]⟩)]]:List D)[1]?=some (.agg [.prim (.string ⟨#[98]⟩),.prim (.string ⟨#[51]⟩)]):=rfl;have b1:(!(true&&(true&&true)))=false:=rfl;have n16:((16:Int) != 16)=false:=rfl;have n15:((15:Int) != 15)=false:=rfl;have k1:=e0z;have k2:=e0A;have k3:=e0B;have k4:=e0C;have k5:=e0D;have k6:=e0E;have pA1:Ah [Aj false [DY 2,C7 1],.sl true 3 [Fv (DY 2),Fv (C7 1)]]:=⟨λd hd=>by
  simp only[A9,Dv,or_false]at hd;rcases hd with rfl|rfl
  ·exact(AJ:AA (Aj false [DY 2,C7 1])).out
  ·exact Hx (n:=30) (by kernel_rfl)⟩
 have pA2:Ah [Aj false [C7 9,DY 4],.sl true 3 [Fv (C7 9),Fv (DY 4)]]:=⟨λd hd=>by
  simp only[A9,Dv,or_false]at hd;rcases hd with rfl|rfl
  ·exact(AJ:AA (Aj false [C7 9,DY 4])).out
  ·exact Hx (n:=30) (by kernel_rfl)⟩
 rw[hO1]at k5 pA1;rw[hC1]at k6 pA2;obtain⟨u1,u2,u3,hu⟩:∃a b c,Fv (DY 2)=.agg [a,b,c]:=⟨_,_,_,rfl⟩
 obtain⟨v1,v2,v3,hv⟩:∃a b c,Fv (C7 1)=.agg [a,b,c]:=⟨_,_,_,rfl⟩
 obtain⟨y1,y2,y3,hy⟩:∃a b c,Fv (C7 9)=.agg [a,b,c]:=⟨_,_,_,rfl⟩
 obtain⟨z1,z2,z3,hz⟩:∃a b c,Fv (DY 4)=.agg [a,b,c]:=⟨_,_,_,rfl⟩
 rw[hu]at k1;rw[hv]at k2;rw[hy]at k3;rw[hz]at k4;rw[hu,hv]at k5 pA1;rw[hy,hz]at k6 pA2;obtain⟨C2,hC2⟩:∃d,Aj false [C7 5]=d:=⟨_,rfl⟩
 obtain⟨C1L,hC1L⟩:∃T,C1=.sl false 3 T:=⟨_,hC1.symm⟩
 rw[hC2,hC1L];rw[hC1L]at k6 pA2;have q0:([.sl false 3 C1L,C2]:List D)[0]?=some (.sl false 3 C1L):=rfl;have n2e:(((2:Nat):Int)==2)=true:=rfl;refine AH cU (CP b1 n2' n16 n15 e1 e2 (Bb e3 e4 kT kF)) x0 x1 h1 h2 AB AB ?_;refine Bf.same _ (k1) AJ ?_;refine BR ?_;refine AF (Ar n2e kT kF) ?_;refine Bf.same _ (k2) AJ ?_;refine BR ?_;refine AF (Ar n2e kT kF) ?_;refine Bf.same _ k5 pA1 ?_;refine BM ?_;refine AF (Ar n2e kT kF) ?_;refine AF (Ar n2e kT kF) ?_;refine AF (Ar n2e kT kF) ?_;refine B3 kT q0 ?_;refine AF (Ar n2e kT kF) ?_;refine AF (Ar n2e kT kF) ?_;refine On kT ?_;refine Bf.same _ (k3) AJ ?_;refine BR ?_;refine On kT ?_;refine Bf.same _ (k4) AJ ?_;refine BR ?_;refine AF (Ar n2e kT kF) ?_;refine AF (Ar n2e kT kF) ?_;refine AF (Ar n2e kT kF) ?_;refine On kT ?_;refine BE.same _ k6 pA2 ?_;refine BM ?_;refine AF (Ar n2e kT kF) ?_;refine AF (Ar n2e kT kF) ?_;refine Ag ?_;exact AM rfl AA.out
end Go.Ide
