/- The layer of own lemmas and contracts, part 9. -/
import Derived.Test.YtaoojbnciofmcaaGreatDoorAA8
import Derived.Test.YtaoojbnciofmcaaGreatDoorAA7
import Derived.Test.YtaoojbnciofmcaaGreatDoorAA3
set_option linter.unusedVariables false
set_option linter.unusedSimpArgs false
namespace Go.Ide
open Go.Proofs Go.RowKit
set_option maxRecDepth 20000
set_option maxHeartbeats 2000000
theorem oD {n k:Nat}(hn:n≠0)(hk:k<10):Lib.decDigits (n*10+k)=Lib.decDigits n++[UInt8.ofNat (48+k)]:=by
 rw[Lib.decDigits,dif_neg (by omega)]
 congr 2
 ·omega
 ·congr 2;omega
theorem Y0 {c:UInt8}(h:Bj c=true):UInt8.ofNat (48+(c.toNat-48))=c:=by
 obtain⟨h1,h2⟩:=Lw h;rw[<-UInt8.toNat_inj,Q8 _ (by omega)];omega
theorem pJ (l:List UInt8)(c:UInt8):dv (l++[c])=dv l*10+(c.toNat-48):=by
 rw[OX];simp[dv,HO]
theorem ro:∀(n:Nat) (l:List UInt8),l.length=n->l≠[]->l.all Bj=true->l.head? ≠ some 48->dv l≠0/\Lib.decDigits (dv l)=l:=λn=>by
 induction n with
 |zero=>intro l h0 h1;exact Af (F6 h0) h1
 |succ n ih=>
  intro l h0 h1 h2 h3;rcases S7 l with rfl|⟨m,c,rfl⟩
  ·exact Af rfl h1
  ·rw[S6]at h0 h1 h2 h3⊢
   rw[KY,Ba]at h2;have hc:Bj c=true:=by simpa using h2.2
   obtain⟨c1,c2⟩:=Lw hc;rw[pJ]
   by_cases hm:m=[]
   ·subst hm
    have hc48:c≠48:=λh=>h3 (by rw[h];rfl)
    have hcn:c.toNat≠48:=λh=>hc48 (UInt8.toNat_inj.1 h)
    have e0:dv []*10+(c.toNat-48)=c.toNat-48:=by simp[dv,HO]
    rw[e0];refine⟨by omega,?_⟩;rw[Lib.decDigits,dif_pos (by omega),Y0 hc];rfl
   ·have hh:m.head? ≠ some 48:=by
     cases m with
     |nil=>exact Af rfl hm
     |cons a m=>exact h3
    obtain⟨i1,i2⟩:=ih m (by rw[Bp,GM]at h0;omega) hm h2.1 hh;refine⟨by omega,?_⟩;rw[oD i1 (by omega),i2,Y0 hc]
theorem T8 {l:List UInt8}(h:DR l=true):Lib.decDigits (dv l)=l/\(l≠[48]->dv l≠0):=by
 obtain⟨h1,h2⟩:=Kt h
 by_cases h0:l=[48]
 ·subst h0
  refine⟨?_,λhh=>Af rfl hh⟩;show Lib.decDigits 0=[48];rw[Lib.decDigits,dif_pos (by decide)];rfl
 ·have h3:l.head? ≠ some 48:=by
   unfold DR at h;rw[Ba,Av h0,Bool.false_or]at h
   have:=h.2
   simpa using this
  obtain⟨a,b⟩:=ro _ l rfl h1 h2 h3;exact⟨b,λ_=>a⟩
theorem ZL:∀ {l:List UInt8},BC l<l.length->l.drop (BC l)=47::l.drop (BC l+1)
 | [],h=>by cases h
 |c::l,h=>by
  by_cases hc:c=47
  ·subst hc;rfl
  ·have e1:BC (c::l)=BC l+1:=by
    unfold BC;rw[N9,AH (by simpa using hc),Bq]
   rw[e1,Bq]at h;rw[e1,TE,TE];exact ZL (by omega)
def HM (l:List UInt8):Nat:=if C5 l then dv (Be l)else 1
def Bd (l:List UInt8):Rat:=mkRat (rv (B6 l)) (HM l)
theorem ll {n:Int}{d:Nat}(hd:d≠0)(h:Nat.gcd n.natAbs d=1):(mkRat n d).num=n/\(mkRat n d).den=d:=by
 obtain⟨q1,q2⟩:=UL (x:=n) hd;rw[h,Nat.div_one]at q1 q2;rw[SN]at q1;exact⟨q1,q2⟩
theorem Q7 {l:List UInt8}(h:Cj l=0):J7 l=false/\(B9 l).length<=600/\(Be l).length<=600/\(C5 l=true->Nat.gcd (dv (B9 l)) (dv (Be l))=1):=by
 unfold Cj at h;cases hb:J7 l
 ·rw[hb,AG (by decide)]at h
  split at h
  ·cases h
  ·rename_i h1
   split at h
   ·cases h
   ·rename_i h2
    refine⟨rfl,by omega,by omega,λh3=>?_⟩;rcases Nat.decEq (Nat.gcd (dv (B9 l)) (dv (Be l))) 1 with h4|h4
    ·exact Af ⟨h3,h4⟩ h2
    ·exact h4
 ·rw[hb,AH rfl]at h;cases h
theorem M0 {l:List UInt8}(h:Cj l=0):(Bd l).num=rv (B6 l)/\(Bd l).den=HM l/\An (Bd l)=l/\(rv (B6 l)).natAbs=dv (B9 l):=by
 obtain⟨h1,h2,h3,h4⟩:=Q7 h;rw[Qa]at h1;simp only[I8]at h1;obtain⟨⟨b1,b2⟩,b3⟩:=h1;have p1:DR (B9 l)=true:=by simpa using b1
 obtain⟨d1,d2⟩:=T8 p1;have hab:(rv (B6 l)).natAbs=dv (B9 l):=by
  show(rv (B6 l)).natAbs=dv (Bs (B6 l));unfold rv;split<;>omega
 have hdd:C5 l=true->DR (Be l)=true/\Be l≠[48]/\Be l≠[49]:=λhs=>by
  rw[hs,Gc]at b3;simp only[I8]at b3;exact⟨by simpa using b3.1.1,Db b3.1.2,Db b3.2⟩
 have hd0:HM l≠0:=by
  unfold HM;cases hs:C5 l
  ·simp
  ·obtain⟨e1,e2,e3⟩:=hdd hs
   simpa using(T8 e1).2 e2
 have hg:Nat.gcd (rv (B6 l)).natAbs (HM l)=1:=by
  rw[hab];unfold HM;cases hs:C5 l
  ·simp
  ·simpa using h4 hs
 obtain⟨m1,m2⟩:=ll hd0 hg;refine⟨m1,m2,?_,hab⟩;have hi:Lib.itoa (rv (B6 l))=B6 l:=by
  cases hb:Dh (B6 l)
  ·have e1:B9 l=B6 l:=by unfold B9 Bs;rw[hb];rfl
   rw[e1]at d1;have e2:rv (B6 l)=(dv (B6 l):Int):=by unfold rv Bs;rw[hb];rfl
   rw[e2];unfold Lib.itoa;rw[CR];exact d1
  ·obtain⟨m,hm⟩:∃m,B6 l=45::m:=by
    cases hn:B6 l with
    |nil=>rw[hn]at hb;cases hb
    |cons c m=>
     rw[hn]at hb;exact⟨m,by rw[show c=45 by simpa[Dh]using hb]⟩
   have e1:B9 l=m:=by unfold B9;rw[hm];rfl
   have hne:B9 l≠[48]:=λh=>by
    have:=(Tk l).2.2.2
    rw[b2,hm]at this;have h2:=Db this;rw[e1]at h;exact h2 (by rw[h])
   have hpos:=d2 hne;rw[e1]at d1 hpos;have e2:rv (B6 l) = -(dv m:Int):=by rw[hm];rfl
   rw[e2];unfold Lib.itoa;rw[DQ,Mp,D7,d1,hm]
 unfold An;rw[show(Bd l).num=rv (B6 l)from m1,show(Bd l).den=HM l from m2,hi];have hle:=J3 l;cases hs:C5 l
 ·have e1:HM l=1:=by unfold HM;rw[hs];rfl
  have e2:=Db (p:=BC l<l.length) hs;rw[AH e1];unfold B6;exact Gj
 ·obtain⟨e1,e2,e3⟩:=hdd hs
  have e4:HM l=dv (Be l):=by unfold HM;rw[hs];rfl
  have e5:=(T8 e1).1;have e6:dv (Be l)≠1:=λh=>by
   rw[h,Lib.decDigits,dif_pos (by decide)]at e5;exact e3 e5.symm
  rw[e4,AG e6,e5];unfold B6 Be;rw[<-ZL (DJ hs),Fj]
theorem QV {l:List UInt8}(h:Cj l=0):(B9 l).all Bj=true/\(C5 l=true->(Be l).all Bj=true):=by
 obtain⟨h1,-,-,-⟩:=Q7 h;rw[Qa]at h1;simp only[I8]at h1;obtain⟨⟨b1,-⟩,b3⟩:=h1;refine⟨(Kt (by simpa using b1)).2,λhs=>?_⟩;rw[hs,Gc]at b3;simp only[I8]at b3;exact(Kt (by simpa using b3.1.1)).2
theorem Na {l:List UInt8}(h:Cj l=0):rk (Bd l) 600:=by
 obtain⟨m1,m2,-,m4⟩:=M0 h;obtain⟨-,h2,h3,-⟩:=Q7 h;obtain⟨p1,p2⟩:=QV h;have hb:∀k,(10:Nat)^k<=BB^k:=λk=>OA (by decide) k
 refine⟨?_,?_⟩
 ·rw[m1,m4]
  exact BT (G9 (Co (Gr _ p1) (hb _))) h2
 ·rw[m2]
  unfold HM;cases hs:C5 l
  ·exact BT (G9 (n:=1) (k:=1) (by decide)) (by decide)
  ·exact BT (G9 (Co (Gr _ (p2 hs)) (hb _))) h3
theorem R4 {l:List UInt8}(h:Cj l=0):FR (Bd l) (Gs l) 600:=by
 obtain⟨m1,m2,-,-⟩:=M0 h;refine⟨⟨Cv _,?_,?_⟩,Na h⟩
 ·show(AX (rv (B6 l))).z=_
  rw[EA,m1]
 ·show(if C5 l then dv (Be l)else 1)=_
  rw[m2];rfl
theorem Rt {l:List UInt8}(hl:l.length<=100000)(h:Cj l=0):AK C0 78 [str (sb l)] (Gs l).D:=qL l hl (QV h).1 (QV h).2
structure A0 where
 lot:List UInt8
 part:List UInt8
def A0.D (s:A0):D:=.agg [str (sb s.lot),str (sb s.part)]
instance d9m (s:A0):AO s.D:=by unfold A0.D;exact AI
instance d9n (s:A0):AA s.D:=by unfold A0.D;exact AI
abbrev D5 (b:Bool)(l:List A0):D:=.sl b 2 (l.map A0.D)
def A0.few (s:A0):Prop:=s.lot.length<=100000/\s.part.length<=100000
def Ds (l:List A0)(k:Nat):A0:=l.getD k ⟨[],[]⟩
theorem KE {l:List A0}{k:Nat}{s:A0}(h:l[k]?=some s):Ds l k=s:=by unfold Ds;rw[Do,h];rfl
structure AE where
 grain:List UInt8
 mass:Int
 shs:List A0
def AE.D (x:AE):D:=.agg [str (sb x.grain),i64 x.mass,D5 false x.shs]
instance d8c (x:AE):AO x.D:=by unfold AE.D;exact AI
instance d8d (x:AE):AA x.D:=by unfold AE.D;exact AI
abbrev Am (b:Bool)(l:List AE):D:=.sl b 3 (l.map AE.D)
theorem Po (z:Int)(h:Sm z):AK C0 36 [i64 z] (⟨AX z,1⟩:GF).D:=by
 have e:(⟨AX z,1⟩:GF).D=Mv z 1:=by
  unfold GF.D;rw[VO,KH h];rfl
 rw[e];exact iJ z
theorem qU {n:GI}{k:Nat}(h:n.wf)(hk:1<=k)(hl:(Ae n.z.natAbs).length<=k):FR (n.z:Rat) ⟨n,1⟩ k:=by
 refine⟨⟨h,(Rat.num_intCast _).symm,(Rat.den_intCast _).symm⟩,?_⟩;unfold rk;rw[Rat.num_intCast,Rat.den_intCast];exact⟨hl,BT (G9 (n:=1) (k:=1) (by decide)) hk⟩
theorem Oy {z:Int}(h:z.natAbs<18446744073709551616):FR (z:Rat) ⟨AX z,1⟩ 1:=by
 have:=qU (n:=AX z) (k:=1) (Cv _) (Al _) (by rw[EA];exact G9 (k:=1) (by unfold BB;omega))
 rwa [EA]at this
open Go.ChangeShapes Go.WideShapes
def QK (P:Program)(t:Nat):Option (List (Nat×Nat×Nat)):=match P.underlying t with
 |some (.struct fs)=>some (fs.toList.map λf=>(f.type,f.offset,P.cellsOf f.type))
 |_=>none
section
variable {H:Type} {enc:TypeId×Value->H} {W:World} {fuel:Nat} {cs:List Value} {x:DataW H×List MemPlace} {t:TypeId}
theorem Vz {l:List (Nat×Nat×Nat)}{m:Nat}(hs:QK Tryz.prog t=some l)(hm:Tryz.prog.cellsOf t=m)(h:DataW.trod enc Tryz.prog W 0 (λ_=>true) true fuel t cs=some x):
  cs.length=m/\∃n,∀(i u off k:Nat),l[i]?=some (u,off,k)->∃y,DataW.trod enc Tryz.prog W 0 (λ_=>true) true n u ((cs.drop off).take k)=some y:=by
 unfold QK at hs;split at hs
 ·rename_i fs hu
  obtain⟨h1,n,h2⟩:=mK hu h;refine⟨h1.trans hm,n,λi u off k hl=>?_⟩;obtain rfl:=F8 hs;rw[A8]at hl;obtain⟨f,hf,he⟩:=Er.1 hl;cases he;exact h2 i f (by rw[<-Jo];exact hf)
 ·cases hs
theorem MM {a b c:Nat}{p q:List D}(h:Du W ((cs.drop a).take b) p)(k:Du W ((cs.drop (a+b)).take c) q):Du W ((cs.drop a).take (b+c)) (p++q):=by
 rw[List.take_add,List.drop_drop];exact h.append k
theorem VV {n:Nat}{p:List D}(hn:cs.length=n)(h:Du W ((cs.drop 0).take n) p):Du W cs p:=by
 rw[Fi,<-hn,C6]at h;exact h
theorem xI (h:DataW.trod enc Tryz.prog W 0 (λ_=>true) true fuel 38 cs=some x):∃l:List UInt8,Du W cs (str (sb l)).cells/\l.length<=maxLen:=dE (by kernel_rfl) h
theorem Qn (h:DataW.trod enc Tryz.prog W 0 (λ_=>true) true fuel 9 cs=some x):∃l:List UInt8,Du W cs [str (sb l)]/\l.length<=maxLen:=dE (by kernel_rfl) h
theorem SM (h:DataW.trod enc Tryz.prog W 0 (λ_=>true) true fuel 3 cs=some x):∃z:Int,Du W cs [i64 z]:=by
 obtain⟨z,_,_,h⟩:=xH (by kernel_rfl) h;exact⟨z,h⟩
theorem o4 (h:DataW.trod enc Tryz.prog W 0 (λ_=>true) true fuel 66 cs=some x):∃s:A0,Du W cs s.D.cells/\True:=by
 obtain⟨h1,n,h2⟩:=Vz (l:=[(9,0,1),(38,1,1)]) (m:=2) (by kernel_rfl) (by kernel_rfl) h;obtain⟨y0,k0⟩:=h2 0 _ _ _ rfl;obtain⟨y1,k1⟩:=h2 1 _ _ _ rfl;obtain⟨a0,r0,_⟩:=Qn k0;obtain⟨a1,r1,_⟩:=xI k1;exact⟨⟨a0,a1⟩,VV h1 (MM (b:=1) (c:=1) r0 r1),trivial⟩
theorem mM (h:DataW.trod enc Tryz.prog W 0 (λ_=>true) true fuel 50 cs=some x):∃l:List A0,Du W cs [D5 false l]/\(∀a∈l,True)/\l.length<=maxLen:=
 Vy (g:=A0.D) (ok:=λ_=>True) (e:=66) (sz:=2) (by kernel_rfl) (by kernel_rfl) (by decide) (λ_ _ _ h=>o4 h) h
theorem oZ (h:DataW.trod enc Tryz.prog W 0 (λ_=>true) true fuel 52 cs=some x):∃s:AE,Du W cs s.D.cells/\s.shs.length<=maxLen:=by
 obtain⟨h1,n,h2⟩:=Vz (l:=[(9,0,1),(3,1,1),(50,2,1)]) (m:=3) (by kernel_rfl) (by kernel_rfl) h;obtain⟨y0,k0⟩:=h2 0 _ _ _ rfl;obtain⟨y1,k1⟩:=h2 1 _ _ _ rfl;obtain⟨y2,k2⟩:=h2 2 _ _ _ rfl;obtain⟨a0,r0,_⟩:=Qn k0;obtain⟨a1,r1⟩:=SM k1;obtain⟨a2,r2,_,hl⟩:=mM k2;exact⟨⟨a0,a1,a2⟩,VV h1 (MM (b:=1) (c:=2) r0 (MM (b:=1) (c:=1) r1 r2)),hl⟩
theorem mL (h:DataW.trod enc Tryz.prog W 0 (λ_=>true) true fuel 37 cs=some x):∃l:List AE,Du W cs [Am false l]/\(∀a∈l,a.shs.length<=maxLen)/\l.length<=maxLen:=
 Vy (g:=AE.D) (ok:=λs=>s.shs.length<=maxLen) (e:=52) (sz:=3) (by kernel_rfl) (by kernel_rfl) (by decide) (λ_ _ _ h=>oZ h) h
end
theorem Du.val1 {W:World}{v:Value}{d:D}(h:Du W [v] [d]):AV nol (λ_=>False) W d v:=(h.cell 0 v d rfl rfl).2
theorem mT (c:Nat):(97<=c/\c<=122)\/(122<c)\/(65<=c/\c<=90)\/((91<=c/\c<=96)/\c≠95)\/(c=95)\/(58<=c/\c<=64)\/(48<=c/\c<=57)\/(c<48/\c≠45/\c≠46)\/(c=45)\/(c=46):=by omega
theorem WA (l:List UInt8)(hl:l.length<=1000000):AK C0 48 [str (sb l)] (Ai (B4 l)):=by
 refine AZ.walk w1 y8 rfl λF=>?_
 have hsz:=Cd l;refine sR 0 ?_;refine DE (α:=Nat) (λn=>⟨[(0,str (sb l))],[],n⟩) (λ_=>1<=l.length/\l.length<=24) ?_ ?_
 ·by_cases h1:l.length<1
  ·have e1:decide ((l.length:Int)<1)=true:=BV
   refine sZ 100 ?_;refine AW (Ab hsz e1) ?_;refine AD kT ?_;refine AN ?_;refine sR 200 ?_;refine Ad ?_;exact AJ (by unfold B4;rw[Av (show ¬ 1<=l.length by omega)];simp) AA.out
  ·have e1:decide ((l.length:Int)<1)=false:=Bc
   have e2:decide ((l.length:Int)>24)=decide (24<l.length):=DA.2 (by omega);refine sZ 100 ?_;refine AW (Ab hsz e1) ?_;refine AD (Ar kF hsz e2) ?_
   by_cases h2:24<l.length
   ·rw[Au h2]
    refine AN ?_;refine sR 200 ?_;refine Ad ?_;exact AJ (by unfold B4;rw[Av (show ¬l.length<=24 by omega)];simp) AA.out
   ·rw[Av h2]
    refine AN ?_;refine Aj ?_;exact⟨rfl,_,⟨by omega,by omega⟩,AL⟩
 rintro n0 ⟨l1,l2⟩;refine AC.seq ?_;refine sR 300 ?_;refine AC.block ?_;refine AC.loop (α:=Nat×Nat) (λp=>⟨[(0,str (sb l)),(3,i64 (p.1:Int))],[],p.2⟩) (λp=>l.length-p.1) (λp=>p.1<=l.length/\(l.take p.1).all (λb=>C4 b.toNat)=true) (0,_) ⟨BU _,rfl⟩ AL ?_;rintro⟨i,n⟩ F ⟨hi,ha⟩;dsimp only at hi ha⊢;refine AC.seq ?_;refine sZ 400 ?_;refine AW hsz ?_;refine AN ?_
 (refine B1 (λhlt=>?_) (λhlt=>?_))<;>(try simp only[Bl,Bz]at hlt)<;>(try simp only[hlt])
 ·have hi2:i<l.length:=by
   have:=DJ hlt
   omega
  obtain⟨c,hc⟩:∃c,l[i]?=some c:=⟨l[i],Bo hi2⟩
  have hg:l.getD i 0=c:=by simp[hc]
  have wi:IntKind.i64.wrap ((i:Int)+1)=((i+1:Nat):Int):=wI;refine Aj ?_;refine AC.seq ?_;refine AC.block ?_;refine sZ 600 ?_;refine AW (Ab kN hg) ?_;have hcl:C4 c.toNat=false->B4 l=false:=λh=>by
   unfold B4;cases hall:l.all (λb=>C4 b.toNat)
   ·rfl
   ·have:=CY.1 hall c (Ay hc)
    rw[h]at this;cases this
  have hsn:C4 c.toNat=true->(l.take (i+1)).all (λb=>C4 b.toNat)=true:=λh=>by
   rw[D8,hc,KY,ha];simpa using h
  have hc9:c.toNat<256:=c.toNat_lt;generalize c.toNat=c at*;refine DE (α:=Nat) (λn=>⟨[(0,str (sb l)),(3,i64 (i:Int)),(56,Ai (!C4 c))],[],n⟩) (λ_=>True) ?_ ?_
  ·clear hcl hsn
   rcases mT c with h|h|h|h|h|h|h|h|h|h
   ·skip
    have f1:decide ((c:Int)>=97)=true:=BV;have f2:decide ((c:Int)<=122)=true:=BV;have f3:decide ((c:Int)>=65)=true:=BV;have f4:decide ((c:Int)<=90)=false:=Bc;have f5:decide ((c:Int)>=48)=true:=BV;have f6:decide ((c:Int)<=57)=false:=Bc;have f7:((c:Int)==45)=false:=Br.2 (by omega);have f8:((c:Int)==95)=false:=Br.2 (by omega);have f9:((c:Int)==46)=false:=Br.2 (by omega);have hnb:C4 c=true:=by
     unfold C4;simp;omega
    rw[hnb];refine Ao 700 ?_
    iterate 9
     refine AD kB ?_
     try simp only[f1,f2,f3,f4,f5,f6,f7,f8,f9]
    exact⟨by first|exact AB|rfl|simp,_,trivial,AL⟩
   ·skip
    have f1:decide ((c:Int)>=97)=true:=BV;have f2:decide ((c:Int)<=122)=false:=Bc;have f3:decide ((c:Int)>=65)=true:=BV;have f4:decide ((c:Int)<=90)=false:=Bc;have f5:decide ((c:Int)>=48)=true:=BV;have f6:decide ((c:Int)<=57)=false:=Bc;have f7:((c:Int)==45)=false:=Br.2 (by omega);have f8:((c:Int)==95)=false:=Br.2 (by omega);have f9:((c:Int)==46)=false:=Br.2 (by omega);have hnb:C4 c=false:=by
     unfold C4;simp;omega
    rw[hnb];refine Ao 700 ?_
    iterate 9
     refine AD kB ?_
     try simp only[f1,f2,f3,f4,f5,f6,f7,f8,f9]
    exact⟨by first|exact AB|rfl|simp,_,trivial,AL⟩
   ·skip
    have f1:decide ((c:Int)>=97)=false:=Bc;have f2:decide ((c:Int)<=122)=true:=BV;have f3:decide ((c:Int)>=65)=true:=BV;have f4:decide ((c:Int)<=90)=true:=BV;have f5:decide ((c:Int)>=48)=true:=BV;have f6:decide ((c:Int)<=57)=false:=Bc;have f7:((c:Int)==45)=false:=Br.2 (by omega);have f8:((c:Int)==95)=false:=Br.2 (by omega);have f9:((c:Int)==46)=false:=Br.2 (by omega);have hnb:C4 c=true:=by
     unfold C4;simp;omega
    rw[hnb];refine Ao 700 ?_
    iterate 9
     refine AD kB ?_
     try simp only[f1,f2,f3,f4,f5,f6,f7,f8,f9]
    exact⟨by first|exact AB|rfl|simp,_,trivial,AL⟩
   ·skip
    have f1:decide ((c:Int)>=97)=false:=Bc;have f2:decide ((c:Int)<=122)=true:=BV;have f3:decide ((c:Int)>=65)=true:=BV;have f4:decide ((c:Int)<=90)=false:=Bc;have f5:decide ((c:Int)>=48)=true:=BV;have f6:decide ((c:Int)<=57)=false:=Bc;have f7:((c:Int)==45)=false:=Br.2 (by omega);have f8:((c:Int)==95)=false:=Br.2 (by omega);have f9:((c:Int)==46)=false:=Br.2 (by omega);have hnb:C4 c=false:=by
     unfold C4;simp;omega
    rw[hnb];refine Ao 700 ?_
    iterate 9
     refine AD kB ?_
     try simp only[f1,f2,f3,f4,f5,f6,f7,f8,f9]
    exact⟨by first|exact AB|rfl|simp,_,trivial,AL⟩
   ·skip
    have f1:decide ((c:Int)>=97)=false:=Bc;have f2:decide ((c:Int)<=122)=true:=BV;have f3:decide ((c:Int)>=65)=true:=BV;have f4:decide ((c:Int)<=90)=false:=Bc;have f5:decide ((c:Int)>=48)=true:=BV;have f6:decide ((c:Int)<=57)=false:=Bc;have f7:((c:Int)==45)=false:=Br.2 (by omega);have f8:((c:Int)==95)=true:=EQ.2 (by omega);have f9:((c:Int)==46)=false:=Br.2 (by omega);have hnb:C4 c=true:=by
     unfold C4;simp;omega
    rw[hnb];refine Ao 700 ?_
    iterate 9
     refine AD kB ?_
     try simp only[f1,f2,f3,f4,f5,f6,f7,f8,f9]
    exact⟨by first|exact AB|rfl|simp,_,trivial,AL⟩
   ·skip
    have f1:decide ((c:Int)>=97)=false:=Bc;have f2:decide ((c:Int)<=122)=true:=BV;have f3:decide ((c:Int)>=65)=false:=Bc;have f4:decide ((c:Int)<=90)=true:=BV;have f5:decide ((c:Int)>=48)=true:=BV;have f6:decide ((c:Int)<=57)=false:=Bc;have f7:((c:Int)==45)=false:=Br.2 (by omega);have f8:((c:Int)==95)=false:=Br.2 (by omega);have f9:((c:Int)==46)=false:=Br.2 (by omega);have hnb:C4 c=false:=by
     unfold C4;simp;omega
    rw[hnb];refine Ao 700 ?_
    iterate 9
     refine AD kB ?_
     try simp only[f1,f2,f3,f4,f5,f6,f7,f8,f9]
    exact⟨by first|exact AB|rfl|simp,_,trivial,AL⟩
   ·skip
    have f1:decide ((c:Int)>=97)=false:=Bc;have f2:decide ((c:Int)<=122)=true:=BV;have f3:decide ((c:Int)>=65)=false:=Bc;have f4:decide ((c:Int)<=90)=true:=BV;have f5:decide ((c:Int)>=48)=true:=BV;have f6:decide ((c:Int)<=57)=true:=BV;have f7:((c:Int)==45)=false:=Br.2 (by omega);have f8:((c:Int)==95)=false:=Br.2 (by omega);have f9:((c:Int)==46)=false:=Br.2 (by omega);have hnb:C4 c=true:=by
     unfold C4;simp;omega
    rw[hnb];refine Ao 700 ?_
    iterate 9
     refine AD kB ?_
     try simp only[f1,f2,f3,f4,f5,f6,f7,f8,f9]
    exact⟨by first|exact AB|rfl|simp,_,trivial,AL⟩
   ·skip
    have f1:decide ((c:Int)>=97)=false:=Bc;have f2:decide ((c:Int)<=122)=true:=BV;have f3:decide ((c:Int)>=65)=false:=Bc;have f4:decide ((c:Int)<=90)=true:=BV;have f5:decide ((c:Int)>=48)=false:=Bc;have f6:decide ((c:Int)<=57)=true:=BV;have f7:((c:Int)==45)=false:=Br.2 (by omega);have f8:((c:Int)==95)=false:=Br.2 (by omega);have f9:((c:Int)==46)=false:=Br.2 (by omega);have hnb:C4 c=false:=by
     unfold C4;simp;omega
    rw[hnb];refine Ao 700 ?_
    iterate 9
     refine AD kB ?_
     try simp only[f1,f2,f3,f4,f5,f6,f7,f8,f9]
    exact⟨by first|exact AB|rfl|simp,_,trivial,AL⟩
   ·skip
    have f1:decide ((c:Int)>=97)=false:=Bc;have f2:decide ((c:Int)<=122)=true:=BV;have f3:decide ((c:Int)>=65)=false:=Bc;have f4:decide ((c:Int)<=90)=true:=BV;have f5:decide ((c:Int)>=48)=false:=Bc;have f6:decide ((c:Int)<=57)=true:=BV;have f7:((c:Int)==45)=true:=EQ.2 (by omega);have f8:((c:Int)==95)=false:=Br.2 (by omega);have f9:((c:Int)==46)=false:=Br.2 (by omega);have hnb:C4 c=true:=by
     unfold C4;simp;omega
    rw[hnb];refine Ao 700 ?_
    iterate 9
     refine AD kB ?_
     try simp only[f1,f2,f3,f4,f5,f6,f7,f8,f9]
    exact⟨by first|exact AB|rfl|simp,_,trivial,AL⟩
   ·skip
    have f1:decide ((c:Int)>=97)=false:=Bc;have f2:decide ((c:Int)<=122)=true:=BV;have f3:decide ((c:Int)>=65)=false:=Bc;have f4:decide ((c:Int)<=90)=true:=BV;have f5:decide ((c:Int)>=48)=false:=Bc;have f6:decide ((c:Int)<=57)=true:=BV;have f7:((c:Int)==45)=false:=Br.2 (by omega);have f8:((c:Int)==95)=false:=Br.2 (by omega);have f9:((c:Int)==46)=true:=EQ.2 (by omega);have hnb:C4 c=true:=by
     unfold C4;simp;omega
    rw[hnb];refine Ao 700 ?_
    iterate 9
     refine AD kB ?_
     try simp only[f1,f2,f3,f4,f5,f6,f7,f8,f9]
    exact⟨by first|exact AB|rfl|simp,_,trivial,AL⟩
  rintro n1 -;cases hb:C4 c
  ·refine AN ?_
   refine sR 800 ?_;refine Ad ?_;exact AJ (by rw[hcl hb]) AA.out
  ·refine AN ?_
   refine Aj ?_;refine Ao 500 ?_;refine AW wi ?_;exact⟨(i+1,_),⟨hi2,hsn hb⟩,by dsimp only;omega,AL⟩
 ·have hi2:i=l.length:=by
   have:=Db hlt
   omega
  subst hi2;rw[Ch (Al _)]at ha;refine CK ?_;refine sR 900 ?_;refine Ad ?_;exact AJ (by unfold B4;rw[ha,Au l1,Au l2];rfl) AA.out
def D3:List Int->Int
 | []=>0
 |e::r=>if e≠0 then e else D3 r
theorem QU {v:List Int}{i:Nat}(h:∀(j:Nat) (e:Int),j<i->v[j]?=some e->e=0):D3 v=D3 (v.drop i):=by
 induction i generalizing v with
 |zero=>rfl
 |succ i ih=>
  cases v with
  |nil=>rfl
  |cons l r=>
   have h0:=h 0 l (Nat.succ_pos i) rfl;rw[TE];show(if l≠0 then l else D3 r)=_;rw[AG (λhh=>hh h0)];exact ih λj m hj hm=>h (j+1) m (by omega) hm
theorem Hg {a:Int}(h:a≠0):(a != 0)=true:=by
 have:(a==0)=false:=Br.2 h
 unfold bne;rw[this];rfl
theorem Zi {l:List UInt8}(h:Cj l=0):HN (Bd l):=NH (Na h) (by decide)
theorem M8 (a b:List UInt8):BI (sb a) (sb b)=decide (a=b):=by
 unfold BI
 by_cases h:a=b
 ·subst h;simp
 ·rw[Av h]
  apply Br.2;intro hh;apply h;simpa[sb]using hh
def D4 (f:Nat->Nat):Nat->Nat
 | 0=>0
 |n+1=>if D4 f n≠0 then D4 f n else f n
theorem M1 {f:Nat->Nat}{n:Nat}(h:∀j,j<n->f j=0):D4 f n=0:=by
 induction n with
 |zero=>rfl
 |succ n ih=>
  have:=ih λj hj=>h j (by omega)
  unfold D4;rw[AG (λhh=>hh this)];exact h n (by omega)
theorem Ov {f:Nat->Nat}{i n:Nat}(h:∀j,j<i->f j=0)(hi:i<n)(h0:f i≠0):D4 f n=f i:=by
 induction n with
 |zero=>omega
 |succ n ih=>
  unfold D4;rcases BA i n with hlt|hge
  ·have:=ih hlt
   rw[AH (by rw[this];exact h0),this]
  ·have:i=n:=by omega
   subst this;rw[AG (λhh=>hh (M1 h))]
theorem Om {f:Nat->Nat}{n:Nat}(h:D4 f n=0):∀j,j<n->f j=0:=by
 induction n with
 |zero=>intro j hj;omega
 |succ n ih=>
  unfold D4 at h
  by_cases h0:D4 f n=0
  ·rw[AG (λhh=>hh h0)]at h
   intro j hj;rcases BA j n with hl|hg
   ·exact ih h0 j hl
   ·have:j=n:=by omega
    subst this;exact h
  ·rw[AH h0]at h
   exact Af h h0
structure Mc where
 name:List UInt8
 least:List (List UInt8)
 most:List (List UInt8)
 deriving Inhabited
def Mc.D (g:Mc):D:=.agg [str (sb g.name),.sl false 1 (g.least.map λl=>str (sb l)),.sl false 1 (g.most.map λl=>str (sb l))]
instance  (g:Mc):AO g.D:=by unfold Mc.D;exact AI
instance  (g:Mc):AA g.D:=by unfold Mc.D;exact AI
def lv (l:List (List UInt8))(k:Nat):List UInt8:=l.getD k []
def sL (gs:List Mc)(i k:Nat):Option (List UInt8×List UInt8):=if i=0 then none else some (lv (gs.getD (i-1) default).least k,lv (gs.getD (i-1) default).most k)
theorem jM {α:Type}{l:List α}{p:α->Bool}{i:Nat}(h:∀(j:Nat) (x:α),j<i->l[j]?=some x->p x=false):(l.take i).any p=false:=by
 rw[List.any_eq_false];intro x hx;obtain⟨j,hj,e⟩:=List.mem_iff_getElem.1 hx;have hj2:j<i:=by rw[Bi]at hj;omega
 have:l[j]?=some x:=by
  rw[<-e,List.getElem_take];exact Bo _
 rw[h j x hj2 this];simp
def Ji {α:Type}(p:α->Bool)(l:List α):Int:=if l.any p then(l.findIdx p:Int)else -1
theorem Ri {α:Type}{p:α->Bool}{l:List α}{i:Nat}{x:α}(hx:l[i]?=some x)(h:p x=true)(ha:∀(j:Nat) (y:α),j<i->l[j]?=some y->p y=false):Ji p l=i:=by
 unfold Ji;obtain⟨hi,e⟩:=BQ.1 hx;rw[AH (List.any_eq_true.2 ⟨x,Ay hx,h⟩)]
 have:l.findIdx p=i:=(List.findIdx_eq hi).2 ⟨by rw[e];exact h,λj hj=>ha j _ hj (Bo _)⟩
 rw[this]
theorem Qx {α:Type}{p:α->Bool}{l:List α}(ha:∀(j:Nat) (y:α),j<l.length->l[j]?=some y->p y=false):Ji p l = -1:=by
 unfold Ji
 have:=jM (l:=l) (p:=p) (i:=l.length) ha
 rw[C6]at this;rw[this];rfl
theorem Rj {α:Type}(p:α->Bool)(l:List α):decide (Ji p l>=0)=l.any p:=by
 unfold Ji;cases l.any p
 ·rfl
 ·exact Au (by simp)
end Go.Ide
