/- The layer of own lemmas and contracts, part 9. -/
import Derived.Test.YteeceibhhdapaaaGreatDoorP8
import Derived.Test.YteeceibhhdapaaaGreatDoorP7
import Derived.Test.YteeceibhhdapaaaGreatDoorP3
set_option linter.unusedVariables false
set_option linter.unusedSimpArgs false
namespace Go.Ide
open Go.Proofs Go.RowKit
set_option maxRecDepth 20000
set_option maxHeartbeats 2000000
theorem jM {n k:Nat}(hn:n≠0)(hk:k<10):Lib.decDigits (n*10+k)=Lib.decDigits n++[UInt8.ofNat (48+k)]:=by
 rw[Lib.decDigits,dif_neg (by omega)]
 congr 2
 ·omega
 ·congr 2;omega
theorem WG {c:UInt8}(h:BY c=true):UInt8.ofNat (48+(c.toNat-48))=c:=by
 obtain⟨h1,h2⟩:=KU h;rw[<-UInt8.toNat_inj,PI _ (by omega)];omega
theorem jx (l:List UInt8)(c:UInt8):dv (l++[c])=dv l*10+(c.toNat-48):=by
 rw[My];simp[dv,GR]
theorem nO:∀(n:Nat) (l:List UInt8),l.length=n->l≠[]->l.all BY=true->l.head? ≠ some 48->dv l≠0/\Lib.decDigits (dv l)=l:=λn=>by
 induction n with
 |zero=>intro l h0 h1;exact Aa (Ei h0) h1
 |succ n ih=>
  intro l h0 h1 h2 h3;rcases Q1 l with rfl|⟨m,c,rfl⟩
  ·exact Aa rfl h1
  ·rw[Q0]at h0 h1 h2 h3⊢
   rw[LF,BX]at h2;have hc:BY c=true:=by simpa using h2.2
   obtain⟨c1,c2⟩:=KU hc;rw[jx]
   by_cases hm:m=[]
   ·subst hm
    have hc48:c≠48:=λh=>h3 (by rw[h];rfl)
    have hcn:c.toNat≠48:=λh=>hc48 (UInt8.toNat_inj.1 h)
    have e0:dv []*10+(c.toNat-48)=c.toNat-48:=by simp[dv,GR]
    rw[e0];refine⟨by omega,?_⟩;rw[Lib.decDigits,dif_pos (by omega),WG hc];rfl
   ·have hh:m.head? ≠ some 48:=by
     cases m with
     |nil=>exact Aa rfl hm
     |cons a m=>exact h3
    obtain⟨i1,i2⟩:=ih m (by rw[Bo,GM]at h0;omega) hm h2.1 hh;refine⟨by omega,?_⟩;rw[jM i1 (by omega),i2,WG hc]
theorem Rv {l:List UInt8}(h:Cs l=true):Lib.decDigits (dv l)=l/\(l≠[48]->dv l≠0):=by
 obtain⟨h1,h2⟩:=JV h
 by_cases h0:l=[48]
 ·subst h0
  refine⟨?_,λhh=>Aa rfl hh⟩;show Lib.decDigits 0=[48];rw[Lib.decDigits,dif_pos (by decide)];rfl
 ·have h3:l.head? ≠ some 48:=by
   unfold Cs at h;rw[BX,Ag h0,Bool.false_or]at h
   have:=h.2
   simpa using this
  obtain⟨a,b⟩:=nO _ l rfl h1 h2 h3;exact⟨b,λ_=>a⟩
theorem Wa:∀ {l:List UInt8},BC l<l.length->l.drop (BC l)=47::l.drop (BC l+1)
 | [],h=>by cases h
 |c::l,h=>by
  by_cases hc:c=47
  ·subst hc;rfl
  ·have e1:BC (c::l)=BC l+1:=by
    unfold BC;rw[Mb,AH (by simpa using hc),Bk]
   rw[e1,Bk]at h;rw[e1,Qs,Qs];exact Wa (by omega)
def GH (l:List UInt8):Nat:=if Ce l then dv (BR l)else 1
def CB (l:List UInt8):Rat:=mkRat (rv (Bu l)) (GH l)
theorem gZ {n:Int}{d:Nat}(hd:d≠0)(h:Nat.gcd n.natAbs d=1):(mkRat n d).num=n/\(mkRat n d).den=d:=by
 obtain⟨q1,q2⟩:=Rx (x:=n) hd;rw[h,Nat.div_one]at q1 q2;rw[P1]at q1;exact⟨q1,q2⟩
theorem PH {l:List UInt8}(h:CR l=0):In l=false/\(Bx l).length<=600/\(BR l).length<=600/\(Ce l=true->Nat.gcd (dv (Bx l)) (dv (BR l))=1):=by
 unfold CR at h;cases hb:In l
 ·rw[hb,AE (by decide)]at h
  split at h
  ·cases h
  ·rename_i h1
   split at h
   ·cases h
   ·rename_i h2
    refine⟨rfl,by omega,by omega,λh3=>?_⟩;rcases Nat.decEq (Nat.gcd (dv (Bx l)) (dv (BR l))) 1 with h4|h4
    ·exact Aa ⟨h3,h4⟩ h2
    ·exact h4
 ·rw[hb,AH rfl]at h;cases h
theorem LU {l:List UInt8}(h:CR l=0):(CB l).num=rv (Bu l)/\(CB l).den=GH l/\Ao (CB l)=l/\(rv (Bu l)).natAbs=dv (Bx l):=by
 obtain⟨h1,h2,h3,h4⟩:=PH h;rw[Om]at h1;simp only[JC]at h1;obtain⟨⟨b1,b2⟩,b3⟩:=h1;have p1:Cs (Bx l)=true:=by simpa using b1
 obtain⟨d1,d2⟩:=Rv p1;have hab:(rv (Bu l)).natAbs=dv (Bx l):=by
  show(rv (Bu l)).natAbs=dv (Bi (Bu l));unfold rv;split<;>omega
 have hdd:Ce l=true->Cs (BR l)=true/\BR l≠[48]/\BR l≠[49]:=λhs=>by
  rw[hs,IU]at b3;simp only[JC]at b3;exact⟨by simpa using b3.1.1,Cz b3.1.2,Cz b3.2⟩
 have hd0:GH l≠0:=by
  unfold GH;cases hs:Ce l
  ·simp
  ·obtain⟨e1,e2,e3⟩:=hdd hs
   simpa using(Rv e1).2 e2
 have hg:Nat.gcd (rv (Bu l)).natAbs (GH l)=1:=by
  rw[hab];unfold GH;cases hs:Ce l
  ·simp
  ·simpa using h4 hs
 obtain⟨m1,m2⟩:=gZ hd0 hg;refine⟨m1,m2,?_,hab⟩;have hi:Lib.itoa (rv (Bu l))=Bu l:=by
  cases hb:C9 (Bu l)
  ·have e1:Bx l=Bu l:=by unfold Bx Bi;rw[hb];rfl
   rw[e1]at d1;have e2:rv (Bu l)=(dv (Bu l):Int):=by unfold rv Bi;rw[hb];rfl
   rw[e2];unfold Lib.itoa;rw[AE (by omega)];exact d1
  ·obtain⟨m,hm⟩:∃m,Bu l=45::m:=by
    cases hn:Bu l with
    |nil=>rw[hn]at hb;cases hb
    |cons c m=>
     rw[hn]at hb;exact⟨m,by rw[show c=45 by simpa[C9]using hb]⟩
   have e1:Bx l=m:=by unfold Bx;rw[hm];rfl
   have hne:Bx l≠[48]:=λh=>by
    have:=(RV l).2.2.2
    rw[b2,hm]at this;have h2:=Cz this;rw[e1]at h;exact h2 (by rw[h])
   have hpos:=d2 hne;rw[e1]at d1 hpos;have e2:rv (Bu l) = -(dv m:Int):=by rw[hm];rfl
   rw[e2];unfold Lib.itoa;rw[AH (by omega),LG,Dl,d1,hm]
 unfold Ao;rw[show(CB l).num=rv (Bu l)from m1,show(CB l).den=GH l from m2,hi];have hle:=Ic l;cases hs:Ce l
 ·have e1:GH l=1:=by unfold GH;rw[hs];rfl
  have e2:=Cz (p:=BC l<l.length) hs;rw[AH e1];unfold Bu;exact B1 (by omega)
 ·obtain⟨e1,e2,e3⟩:=hdd hs
  have e4:GH l=dv (BR l):=by unfold GH;rw[hs];rfl
  have e5:=(Rv e1).1;have e6:dv (BR l)≠1:=λh=>by
   rw[h,Lib.decDigits,dif_pos (by decide)]at e5;exact e3 e5.symm
  rw[e4,AE e6,e5];unfold Bu BR;rw[<-Wa (Cw hs),Ef]
theorem Og {l:List UInt8}(h:CR l=0):(Bx l).all BY=true/\(Ce l=true->(BR l).all BY=true):=by
 obtain⟨h1,-,-,-⟩:=PH h;rw[Om]at h1;simp only[JC]at h1;obtain⟨⟨b1,-⟩,b3⟩:=h1;refine⟨(JV (by simpa using b1)).2,λhs=>?_⟩;rw[hs,IU]at b3;simp only[JC]at b3;exact(JV (by simpa using b3.1.1)).2
theorem L5 {l:List UInt8}(h:CR l=0):rk (CB l) 600:=by
 obtain⟨m1,m2,-,m4⟩:=LU h;obtain⟨-,h2,h3,-⟩:=PH h;obtain⟨p1,p2⟩:=Og h;have hb:∀k,(10:Nat)^k<=BB^k:=λk=>Mc (by decide) k
 refine⟨?_,?_⟩
 ·rw[m1,m4]
  exact BO (GA (CN (Fp _ p1) (hb _))) h2
 ·rw[m2]
  unfold GH;cases hs:Ce l
  ·exact BO (GA (n:=1) (k:=1) (by decide)) (by decide)
  ·exact BO (GA (CN (Fp _ (p2 hs)) (hb _))) h3
theorem Px {l:List UInt8}(h:CR l=0):FR (CB l) (Fq l) 600:=by
 obtain⟨m1,m2,-,-⟩:=LU h;refine⟨⟨CV _,?_,?_⟩,L5 h⟩
 ·show(AV (rv (Bu l))).z=_
  rw[DZ,m1]
 ·show(if Ce l then dv (BR l)else 1)=_
  rw[m2];rfl
theorem QA {l:List UInt8}(hl:l.length<=100000)(h:CR l=0):AI C0 103 [str (sb l)] (Fq l).D:=kG l hl (Og h).1 (Og h).2
structure As where
 lot:List UInt8
 part:List UInt8
def As.D (s:As):D:=.agg [str (sb s.lot),str (sb s.part)]
instance d5O (s:As):Aj s.D:=by unfold As.D;exact AG
instance d5P (s:As):AA s.D:=by unfold As.D;exact AG
abbrev CM (b:Bool)(l:List As):D:=.sl b 2 (l.map As.D)
def As.few (s:As):Prop:=s.lot.length<=100000/\s.part.length<=100000
def FH (l:List As)(k:Nat):As:=l.getD k ⟨[],[]⟩
theorem Is {l:List As}{k:Nat}{s:As}(h:l[k]?=some s):FH l k=s:=by unfold FH;rw[E3,h];rfl
structure AF where
 grain:List UInt8
 mass:Int
 shs:List As
def AF.D (x:AF):D:=.agg [str (sb x.grain),i64 x.mass,CM false x.shs]
instance d4K (x:AF):Aj x.D:=by unfold AF.D;exact AG
instance d4L (x:AF):AA x.D:=by unfold AF.D;exact AG
abbrev Ay (b:Bool)(l:List AF):D:=.sl b 3 (l.map AF.D)
theorem Ny (z:Int)(h:Sm z):AI C0 105 [i64 z] (⟨AV z,1⟩:GF).D:=by
 have e:(⟨AV z,1⟩:GF).D=LM z 1:=by
  unfold GF.D;rw[TD,Iq h];rfl
 rw[e];exact uZ z
theorem lG {n:GI}{k:Nat}(h:n.wf)(hk:1<=k)(hl:(Ad n.z.natAbs).length<=k):FR (n.z:Rat) ⟨n,1⟩ k:=by
 refine⟨⟨h,(Rat.num_intCast _).symm,(Rat.den_intCast _).symm⟩,?_⟩;unfold rk;rw[Rat.num_intCast,Rat.den_intCast];exact⟨hl,BO (GA (n:=1) (k:=1) (by decide)) hk⟩
theorem NQ {z:Int}(h:z.natAbs<18446744073709551616):FR (z:Rat) ⟨AV z,1⟩ 1:=by
 have:=lG (n:=AV z) (k:=1) (CV _) (Ae _) (by rw[DZ];exact GA (k:=1) (by unfold BB;omega))
 rwa [DZ]at this
open Go.ChangeShapes Go.WideShapes
def b7 (P:Program)(t:Nat):Option (List (Nat×Nat×Nat)):=match P.underlying t with
 |some (.struct fs)=>some (fs.toList.map λf=>(f.type,f.offset,P.cellsOf f.type))
 |_=>none
section
variable {H:Type} {enc:TypeId×Value->H} {W:World} {fuel:Nat} {cs:List Value} {x:DataW H×List MemPlace} {t:TypeId}
theorem ab {l:List (Nat×Nat×Nat)}{m:Nat}(hs:b7 Tryz.prog t=some l)(hm:Tryz.prog.cellsOf t=m)(h:DataW.trod enc Tryz.prog W 0 (λ_=>true) true fuel t cs=some x):
  cs.length=m/\∃n,∀(i u off k:Nat),l[i]?=some (u,off,k)->∃y,DataW.trod enc Tryz.prog W 0 (λ_=>true) true n u ((cs.drop off).take k)=some y:=by
 unfold b7 at hs;split at hs
 ·rename_i fs hu
  obtain⟨h1,n,h2⟩:=gO hu h;refine⟨h1.trans hm,n,λi u off k hl=>?_⟩;obtain rfl:=Ff hs;rw[BG]at hl;obtain⟨f,hf,he⟩:=Option.map_eq_some_iff.1 hl;cases he;exact h2 i f (by rw[<-J7];exact hf)
 ·cases hs
theorem S8 {a b c:Nat}{p q:List D}(h:Dg W ((cs.drop a).take b) p)(k:Dg W ((cs.drop (a+b)).take c) q):Dg W ((cs.drop a).take (b+c)) (p++q):=by
 rw[List.take_add,List.drop_drop];exact h.append k
theorem ZI {n:Nat}{p:List D}(hn:cs.length=n)(h:Dg W ((cs.drop 0).take n) p):Dg W cs p:=by
 rw[E6,<-hn,DG]at h;exact h
theorem qu (h:DataW.trod enc Tryz.prog W 0 (λ_=>true) true fuel 80 cs=some x):∃l:List UInt8,Dg W cs (str (sb l)).cells/\l.length<=maxLen:=ZJ (by kernel_rfl) h
theorem Vn (h:DataW.trod enc Tryz.prog W 0 (λ_=>true) true fuel 9 cs=some x):∃l:List UInt8,Dg W cs [str (sb l)]/\l.length<=maxLen:=ZJ (by kernel_rfl) h
theorem qr (h:DataW.trod enc Tryz.prog W 0 (λ_=>true) true fuel 3 cs=some x):∃z:Int,Dg W cs [i64 z]:=by
 obtain⟨z,_,_,h⟩:=qt (by kernel_rfl) h;exact⟨z,h⟩
theorem jc (h:DataW.trod enc Tryz.prog W 0 (λ_=>true) true fuel 82 cs=some x):∃s:As,Dg W cs s.D.cells/\True:=by
 obtain⟨h1,n,h2⟩:=ab (l:=[(9,0,1),(80,1,1)]) (m:=2) (by kernel_rfl) (by kernel_rfl) h;obtain⟨y0,k0⟩:=h2 0 _ _ _ rfl;obtain⟨y1,k1⟩:=h2 1 _ _ _ rfl;obtain⟨a0,r0,_⟩:=Vn k0;obtain⟨a1,r1,_⟩:=qu k1;exact⟨⟨a0,a1⟩,ZI h1 (S8 (b:=1) (c:=1) r0 r1),trivial⟩
theorem gQ (h:DataW.trod enc Tryz.prog W 0 (λ_=>true) true fuel 25 cs=some x):∃l:List As,Dg W cs [CM false l]/\(∀a∈l,True)/\l.length<=maxLen:=
 aa (g:=As.D) (ok:=λ_=>True) (e:=82) (sz:=2) (by kernel_rfl) (by kernel_rfl) (by decide) (λ_ _ _ h=>jc h) h
theorem jb (h:DataW.trod enc Tryz.prog W 0 (λ_=>true) true fuel 27 cs=some x):∃s:AF,Dg W cs s.D.cells/\s.shs.length<=maxLen:=by
 obtain⟨h1,n,h2⟩:=ab (l:=[(9,0,1),(3,1,1),(25,2,1)]) (m:=3) (by kernel_rfl) (by kernel_rfl) h;obtain⟨y0,k0⟩:=h2 0 _ _ _ rfl;obtain⟨y1,k1⟩:=h2 1 _ _ _ rfl;obtain⟨y2,k2⟩:=h2 2 _ _ _ rfl;obtain⟨a0,r0,_⟩:=Vn k0;obtain⟨a1,r1⟩:=qr k1;obtain⟨a2,r2,_,hl⟩:=gQ k2;exact⟨⟨a0,a1,a2⟩,ZI h1 (S8 (b:=1) (c:=2) r0 (S8 (b:=1) (c:=1) r1 r2)),hl⟩
theorem gP (h:DataW.trod enc Tryz.prog W 0 (λ_=>true) true fuel 22 cs=some x):∃l:List AF,Dg W cs [Ay false l]/\(∀a∈l,a.shs.length<=maxLen)/\l.length<=maxLen:=
 aa (g:=AF.D) (ok:=λs=>s.shs.length<=maxLen) (e:=27) (sz:=3) (by kernel_rfl) (by kernel_rfl) (by decide) (λ_ _ _ h=>jb h) h
end
theorem tj {P:Program}{W:World}{t e base:Nat}{v:Value}(hu:P.underlying t=some (.slice e))(h:Value.okWide P W .any base t v):∃a l c,v=.slice a l c:=by
 unfold Value.okWide at h;rw[hu]at h;dsimp only at h;unfold Cell.okWide at h;rw[hu]at h;cases v<;>first|exact⟨_,_,_,rfl⟩|(dsimp only at h;unfold Cell.ok at h;rw[hu]at h;exact h.elim)
theorem Dg.val1 {W:World}{v:Value}{d:D}(h:Dg W [v] [d]):AU nol (λ_=>False) W d v:=(h.cell 0 v d rfl rfl).2
theorem gt (c:Nat):(97<=c/\c<=122)\/(122<c)\/(65<=c/\c<=90)\/((91<=c/\c<=96)/\c≠95)\/(c=95)\/(58<=c/\c<=64)\/(48<=c/\c<=57)\/(c<48/\c≠45/\c≠46)\/(c=45)\/(c=46):=by omega
theorem af (l:List UInt8)(hl:l.length<=1000000):AI C0 65 [str (sb l)] (Aq (DO l)):=by
 refine Ah.walk w1 tJ rfl λF=>?_
 have hsz:=CL l;refine sR 0 ?_;refine Ck (α:=Nat) (λn=>⟨[(0,str (sb l))],[],n⟩) (λ_=>1<=l.length/\l.length<=24) ?_ ?_
 ·by_cases h1:l.length<1
  ·have e1:decide ((l.length:Int)<1)=true:=AZ (by omega)
   refine sZ 100 ?_;refine AT (Ac hsz e1) ?_;refine AD kT ?_;refine AJ ?_;refine sR 200 ?_;refine Ab ?_;exact AO (by unfold DO;rw[Ag (show ¬ 1<=l.length by omega)];simp) AA.out
  ·have e1:decide ((l.length:Int)<1)=false:=Ag (by omega)
   have e2:decide ((l.length:Int)>24)=decide (24<l.length):=Co.2 (by omega);refine sZ 100 ?_;refine AT (Ac hsz e1) ?_;refine AD (Au kF hsz e2) ?_
   by_cases h2:24<l.length
   ·rw[AZ h2]
    refine AJ ?_;refine sR 200 ?_;refine Ab ?_;exact AO (by unfold DO;rw[Ag (show ¬l.length<=24 by omega)];simp) AA.out
   ·rw[Ag h2]
    refine AJ ?_;refine Ak ?_;exact⟨rfl,_,⟨by omega,by omega⟩,AL⟩
 rintro n0 ⟨l1,l2⟩;refine AC.seq ?_;refine sR 300 ?_;refine AC.block ?_;refine AC.loop (α:=Nat×Nat) (λp=>⟨[(0,str (sb l)),(3,i64 (p.1:Int))],[],p.2⟩) (λp=>l.length-p.1) (λp=>p.1<=l.length/\(l.take p.1).all (λb=>Cc b.toNat)=true) (0,_) ⟨BT _,rfl⟩ AL ?_;rintro⟨i,n⟩ F ⟨hi,ha⟩;dsimp only at hi ha⊢;refine AC.seq ?_;refine sZ 400 ?_;refine AT hsz ?_;refine AJ ?_
 (refine Bq (λhlt=>?_) (λhlt=>?_))<;>(try simp only[Bd,Bn]at hlt)<;>(try simp only[hlt])
 ·have hi2:i<l.length:=by
   have:=Cw hlt
   omega
  obtain⟨c,hc⟩:∃c,l[i]?=some c:=⟨l[i],BF hi2⟩
  have hg:l.getD i 0=c:=by simp[hc]
  have wi:IntKind.i64.wrap ((i:Int)+1)=((i+1:Nat):Int):=wI (by omega) (by omega);refine Ak ?_;refine AC.seq ?_;refine AC.block ?_;refine sZ 600 ?_;refine AT (Ac kN hg) ?_;have hcl:Cc c.toNat=false->DO l=false:=λh=>by
   unfold DO;cases hall:l.all (λb=>Cc b.toNat)
   ·rfl
   ·have:=CI.1 hall c (BA hc)
    rw[h]at this;cases this
  have hsn:Cc c.toNat=true->(l.take (i+1)).all (λb=>Cc b.toNat)=true:=λh=>by
   rw[Dx,hc,LF,ha];simpa using h
  have hc9:c.toNat<256:=c.toNat_lt;generalize c.toNat=c at*;refine Ck (α:=Nat) (λn=>⟨[(0,str (sb l)),(3,i64 (i:Int)),(56,Aq (!Cc c))],[],n⟩) (λ_=>True) ?_ ?_
  ·clear hcl hsn
   rcases gt c with h|h|h|h|h|h|h|h|h|h
   ·skip
    have f1:decide ((c:Int)>=97)=true:=AZ (by omega);have f2:decide ((c:Int)<=122)=true:=AZ (by omega);have f3:decide ((c:Int)>=65)=true:=AZ (by omega);have f4:decide ((c:Int)<=90)=false:=Ag (by omega);have f5:decide ((c:Int)>=48)=true:=AZ (by omega);have f6:decide ((c:Int)<=57)=false:=Ag (by omega);have f7:((c:Int)==45)=false:=B3.2 (by omega);have f8:((c:Int)==95)=false:=B3.2 (by omega);have f9:((c:Int)==46)=false:=B3.2 (by omega);have hnb:Cc c=true:=by
     unfold Cc;simp;omega
    rw[hnb];refine Am w1 700 (by kernel_rfl) ?_;refine AD kB ?_
    try simp only[f1,f2,f3,f4,f5,f6,f7,f8,f9]
    refine AD kB ?_
    try simp only[f1,f2,f3,f4,f5,f6,f7,f8,f9]
    refine AD kB ?_
    try simp only[f1,f2,f3,f4,f5,f6,f7,f8,f9]
    refine AD kB ?_
    try simp only[f1,f2,f3,f4,f5,f6,f7,f8,f9]
    refine AD kB ?_
    try simp only[f1,f2,f3,f4,f5,f6,f7,f8,f9]
    refine AD kB ?_
    try simp only[f1,f2,f3,f4,f5,f6,f7,f8,f9]
    refine AD kB ?_
    try simp only[f1,f2,f3,f4,f5,f6,f7,f8,f9]
    refine AD kB ?_
    try simp only[f1,f2,f3,f4,f5,f6,f7,f8,f9]
    refine AD kB ?_
    try simp only[f1,f2,f3,f4,f5,f6,f7,f8,f9]
    exact⟨by first|exact AB|rfl|simp,_,trivial,AL⟩
   ·skip
    have f1:decide ((c:Int)>=97)=true:=AZ (by omega);have f2:decide ((c:Int)<=122)=false:=Ag (by omega);have f3:decide ((c:Int)>=65)=true:=AZ (by omega);have f4:decide ((c:Int)<=90)=false:=Ag (by omega);have f5:decide ((c:Int)>=48)=true:=AZ (by omega);have f6:decide ((c:Int)<=57)=false:=Ag (by omega);have f7:((c:Int)==45)=false:=B3.2 (by omega);have f8:((c:Int)==95)=false:=B3.2 (by omega);have f9:((c:Int)==46)=false:=B3.2 (by omega);have hnb:Cc c=false:=by
     unfold Cc;simp;omega
    rw[hnb];refine Am w1 700 (by kernel_rfl) ?_;refine AD kB ?_
    try simp only[f1,f2,f3,f4,f5,f6,f7,f8,f9]
    refine AD kB ?_
    try simp only[f1,f2,f3,f4,f5,f6,f7,f8,f9]
    refine AD kB ?_
    try simp only[f1,f2,f3,f4,f5,f6,f7,f8,f9]
    refine AD kB ?_
    try simp only[f1,f2,f3,f4,f5,f6,f7,f8,f9]
    refine AD kB ?_
    try simp only[f1,f2,f3,f4,f5,f6,f7,f8,f9]
    refine AD kB ?_
    try simp only[f1,f2,f3,f4,f5,f6,f7,f8,f9]
    refine AD kB ?_
    try simp only[f1,f2,f3,f4,f5,f6,f7,f8,f9]
    refine AD kB ?_
    try simp only[f1,f2,f3,f4,f5,f6,f7,f8,f9]
    refine AD kB ?_
    try simp only[f1,f2,f3,f4,f5,f6,f7,f8,f9]
    exact⟨by first|exact AB|rfl|simp,_,trivial,AL⟩
   ·skip
    have f1:decide ((c:Int)>=97)=false:=Ag (by omega);have f2:decide ((c:Int)<=122)=true:=AZ (by omega);have f3:decide ((c:Int)>=65)=true:=AZ (by omega);have f4:decide ((c:Int)<=90)=true:=AZ (by omega);have f5:decide ((c:Int)>=48)=true:=AZ (by omega);have f6:decide ((c:Int)<=57)=false:=Ag (by omega);have f7:((c:Int)==45)=false:=B3.2 (by omega);have f8:((c:Int)==95)=false:=B3.2 (by omega);have f9:((c:Int)==46)=false:=B3.2 (by omega);have hnb:Cc c=true:=by
     unfold Cc;simp;omega
    rw[hnb];refine Am w1 700 (by kernel_rfl) ?_;refine AD kB ?_
    try simp only[f1,f2,f3,f4,f5,f6,f7,f8,f9]
    refine AD kB ?_
    try simp only[f1,f2,f3,f4,f5,f6,f7,f8,f9]
    refine AD kB ?_
    try simp only[f1,f2,f3,f4,f5,f6,f7,f8,f9]
    refine AD kB ?_
    try simp only[f1,f2,f3,f4,f5,f6,f7,f8,f9]
    refine AD kB ?_
    try simp only[f1,f2,f3,f4,f5,f6,f7,f8,f9]
    refine AD kB ?_
    try simp only[f1,f2,f3,f4,f5,f6,f7,f8,f9]
    refine AD kB ?_
    try simp only[f1,f2,f3,f4,f5,f6,f7,f8,f9]
    refine AD kB ?_
    try simp only[f1,f2,f3,f4,f5,f6,f7,f8,f9]
    refine AD kB ?_
    try simp only[f1,f2,f3,f4,f5,f6,f7,f8,f9]
    exact⟨by first|exact AB|rfl|simp,_,trivial,AL⟩
   ·skip
    have f1:decide ((c:Int)>=97)=false:=Ag (by omega);have f2:decide ((c:Int)<=122)=true:=AZ (by omega);have f3:decide ((c:Int)>=65)=true:=AZ (by omega);have f4:decide ((c:Int)<=90)=false:=Ag (by omega);have f5:decide ((c:Int)>=48)=true:=AZ (by omega);have f6:decide ((c:Int)<=57)=false:=Ag (by omega);have f7:((c:Int)==45)=false:=B3.2 (by omega);have f8:((c:Int)==95)=false:=B3.2 (by omega);have f9:((c:Int)==46)=false:=B3.2 (by omega);have hnb:Cc c=false:=by
     unfold Cc;simp;omega
    rw[hnb];refine Am w1 700 (by kernel_rfl) ?_;refine AD kB ?_
    try simp only[f1,f2,f3,f4,f5,f6,f7,f8,f9]
    refine AD kB ?_
    try simp only[f1,f2,f3,f4,f5,f6,f7,f8,f9]
    refine AD kB ?_
    try simp only[f1,f2,f3,f4,f5,f6,f7,f8,f9]
    refine AD kB ?_
    try simp only[f1,f2,f3,f4,f5,f6,f7,f8,f9]
    refine AD kB ?_
    try simp only[f1,f2,f3,f4,f5,f6,f7,f8,f9]
    refine AD kB ?_
    try simp only[f1,f2,f3,f4,f5,f6,f7,f8,f9]
    refine AD kB ?_
    try simp only[f1,f2,f3,f4,f5,f6,f7,f8,f9]
    refine AD kB ?_
    try simp only[f1,f2,f3,f4,f5,f6,f7,f8,f9]
    refine AD kB ?_
    try simp only[f1,f2,f3,f4,f5,f6,f7,f8,f9]
    exact⟨by first|exact AB|rfl|simp,_,trivial,AL⟩
   ·skip
    have f1:decide ((c:Int)>=97)=false:=Ag (by omega);have f2:decide ((c:Int)<=122)=true:=AZ (by omega);have f3:decide ((c:Int)>=65)=true:=AZ (by omega);have f4:decide ((c:Int)<=90)=false:=Ag (by omega);have f5:decide ((c:Int)>=48)=true:=AZ (by omega);have f6:decide ((c:Int)<=57)=false:=Ag (by omega);have f7:((c:Int)==45)=false:=B3.2 (by omega);have f8:((c:Int)==95)=true:=Dp.2 (by omega);have f9:((c:Int)==46)=false:=B3.2 (by omega);have hnb:Cc c=true:=by
     unfold Cc;simp;omega
    rw[hnb];refine Am w1 700 (by kernel_rfl) ?_;refine AD kB ?_
    try simp only[f1,f2,f3,f4,f5,f6,f7,f8,f9]
    refine AD kB ?_
    try simp only[f1,f2,f3,f4,f5,f6,f7,f8,f9]
    refine AD kB ?_
    try simp only[f1,f2,f3,f4,f5,f6,f7,f8,f9]
    refine AD kB ?_
    try simp only[f1,f2,f3,f4,f5,f6,f7,f8,f9]
    refine AD kB ?_
    try simp only[f1,f2,f3,f4,f5,f6,f7,f8,f9]
    refine AD kB ?_
    try simp only[f1,f2,f3,f4,f5,f6,f7,f8,f9]
    refine AD kB ?_
    try simp only[f1,f2,f3,f4,f5,f6,f7,f8,f9]
    refine AD kB ?_
    try simp only[f1,f2,f3,f4,f5,f6,f7,f8,f9]
    refine AD kB ?_
    try simp only[f1,f2,f3,f4,f5,f6,f7,f8,f9]
    exact⟨by first|exact AB|rfl|simp,_,trivial,AL⟩
   ·skip
    have f1:decide ((c:Int)>=97)=false:=Ag (by omega);have f2:decide ((c:Int)<=122)=true:=AZ (by omega);have f3:decide ((c:Int)>=65)=false:=Ag (by omega);have f4:decide ((c:Int)<=90)=true:=AZ (by omega);have f5:decide ((c:Int)>=48)=true:=AZ (by omega);have f6:decide ((c:Int)<=57)=false:=Ag (by omega);have f7:((c:Int)==45)=false:=B3.2 (by omega);have f8:((c:Int)==95)=false:=B3.2 (by omega);have f9:((c:Int)==46)=false:=B3.2 (by omega);have hnb:Cc c=false:=by
     unfold Cc;simp;omega
    rw[hnb];refine Am w1 700 (by kernel_rfl) ?_;refine AD kB ?_
    try simp only[f1,f2,f3,f4,f5,f6,f7,f8,f9]
    refine AD kB ?_
    try simp only[f1,f2,f3,f4,f5,f6,f7,f8,f9]
    refine AD kB ?_
    try simp only[f1,f2,f3,f4,f5,f6,f7,f8,f9]
    refine AD kB ?_
    try simp only[f1,f2,f3,f4,f5,f6,f7,f8,f9]
    refine AD kB ?_
    try simp only[f1,f2,f3,f4,f5,f6,f7,f8,f9]
    refine AD kB ?_
    try simp only[f1,f2,f3,f4,f5,f6,f7,f8,f9]
    refine AD kB ?_
    try simp only[f1,f2,f3,f4,f5,f6,f7,f8,f9]
    refine AD kB ?_
    try simp only[f1,f2,f3,f4,f5,f6,f7,f8,f9]
    refine AD kB ?_
    try simp only[f1,f2,f3,f4,f5,f6,f7,f8,f9]
    exact⟨by first|exact AB|rfl|simp,_,trivial,AL⟩
   ·skip
    have f1:decide ((c:Int)>=97)=false:=Ag (by omega);have f2:decide ((c:Int)<=122)=true:=AZ (by omega);have f3:decide ((c:Int)>=65)=false:=Ag (by omega);have f4:decide ((c:Int)<=90)=true:=AZ (by omega);have f5:decide ((c:Int)>=48)=true:=AZ (by omega);have f6:decide ((c:Int)<=57)=true:=AZ (by omega);have f7:((c:Int)==45)=false:=B3.2 (by omega);have f8:((c:Int)==95)=false:=B3.2 (by omega);have f9:((c:Int)==46)=false:=B3.2 (by omega);have hnb:Cc c=true:=by
     unfold Cc;simp;omega
    rw[hnb];refine Am w1 700 (by kernel_rfl) ?_;refine AD kB ?_
    try simp only[f1,f2,f3,f4,f5,f6,f7,f8,f9]
    refine AD kB ?_
    try simp only[f1,f2,f3,f4,f5,f6,f7,f8,f9]
    refine AD kB ?_
    try simp only[f1,f2,f3,f4,f5,f6,f7,f8,f9]
    refine AD kB ?_
    try simp only[f1,f2,f3,f4,f5,f6,f7,f8,f9]
    refine AD kB ?_
    try simp only[f1,f2,f3,f4,f5,f6,f7,f8,f9]
    refine AD kB ?_
    try simp only[f1,f2,f3,f4,f5,f6,f7,f8,f9]
    refine AD kB ?_
    try simp only[f1,f2,f3,f4,f5,f6,f7,f8,f9]
    refine AD kB ?_
    try simp only[f1,f2,f3,f4,f5,f6,f7,f8,f9]
    refine AD kB ?_
    try simp only[f1,f2,f3,f4,f5,f6,f7,f8,f9]
    exact⟨by first|exact AB|rfl|simp,_,trivial,AL⟩
   ·skip
    have f1:decide ((c:Int)>=97)=false:=Ag (by omega);have f2:decide ((c:Int)<=122)=true:=AZ (by omega);have f3:decide ((c:Int)>=65)=false:=Ag (by omega);have f4:decide ((c:Int)<=90)=true:=AZ (by omega);have f5:decide ((c:Int)>=48)=false:=Ag (by omega);have f6:decide ((c:Int)<=57)=true:=AZ (by omega);have f7:((c:Int)==45)=false:=B3.2 (by omega);have f8:((c:Int)==95)=false:=B3.2 (by omega);have f9:((c:Int)==46)=false:=B3.2 (by omega);have hnb:Cc c=false:=by
     unfold Cc;simp;omega
    rw[hnb];refine Am w1 700 (by kernel_rfl) ?_;refine AD kB ?_
    try simp only[f1,f2,f3,f4,f5,f6,f7,f8,f9]
    refine AD kB ?_
    try simp only[f1,f2,f3,f4,f5,f6,f7,f8,f9]
    refine AD kB ?_
    try simp only[f1,f2,f3,f4,f5,f6,f7,f8,f9]
    refine AD kB ?_
    try simp only[f1,f2,f3,f4,f5,f6,f7,f8,f9]
    refine AD kB ?_
    try simp only[f1,f2,f3,f4,f5,f6,f7,f8,f9]
    refine AD kB ?_
    try simp only[f1,f2,f3,f4,f5,f6,f7,f8,f9]
    refine AD kB ?_
    try simp only[f1,f2,f3,f4,f5,f6,f7,f8,f9]
    refine AD kB ?_
    try simp only[f1,f2,f3,f4,f5,f6,f7,f8,f9]
    refine AD kB ?_
    try simp only[f1,f2,f3,f4,f5,f6,f7,f8,f9]
    exact⟨by first|exact AB|rfl|simp,_,trivial,AL⟩
   ·skip
    have f1:decide ((c:Int)>=97)=false:=Ag (by omega);have f2:decide ((c:Int)<=122)=true:=AZ (by omega);have f3:decide ((c:Int)>=65)=false:=Ag (by omega);have f4:decide ((c:Int)<=90)=true:=AZ (by omega);have f5:decide ((c:Int)>=48)=false:=Ag (by omega);have f6:decide ((c:Int)<=57)=true:=AZ (by omega);have f7:((c:Int)==45)=true:=Dp.2 (by omega);have f8:((c:Int)==95)=false:=B3.2 (by omega);have f9:((c:Int)==46)=false:=B3.2 (by omega);have hnb:Cc c=true:=by
     unfold Cc;simp;omega
    rw[hnb];refine Am w1 700 (by kernel_rfl) ?_;refine AD kB ?_
    try simp only[f1,f2,f3,f4,f5,f6,f7,f8,f9]
    refine AD kB ?_
    try simp only[f1,f2,f3,f4,f5,f6,f7,f8,f9]
    refine AD kB ?_
    try simp only[f1,f2,f3,f4,f5,f6,f7,f8,f9]
    refine AD kB ?_
    try simp only[f1,f2,f3,f4,f5,f6,f7,f8,f9]
    refine AD kB ?_
    try simp only[f1,f2,f3,f4,f5,f6,f7,f8,f9]
    refine AD kB ?_
    try simp only[f1,f2,f3,f4,f5,f6,f7,f8,f9]
    refine AD kB ?_
    try simp only[f1,f2,f3,f4,f5,f6,f7,f8,f9]
    refine AD kB ?_
    try simp only[f1,f2,f3,f4,f5,f6,f7,f8,f9]
    refine AD kB ?_
    try simp only[f1,f2,f3,f4,f5,f6,f7,f8,f9]
    exact⟨by first|exact AB|rfl|simp,_,trivial,AL⟩
   ·skip
    have f1:decide ((c:Int)>=97)=false:=Ag (by omega);have f2:decide ((c:Int)<=122)=true:=AZ (by omega);have f3:decide ((c:Int)>=65)=false:=Ag (by omega);have f4:decide ((c:Int)<=90)=true:=AZ (by omega);have f5:decide ((c:Int)>=48)=false:=Ag (by omega);have f6:decide ((c:Int)<=57)=true:=AZ (by omega);have f7:((c:Int)==45)=false:=B3.2 (by omega);have f8:((c:Int)==95)=false:=B3.2 (by omega);have f9:((c:Int)==46)=true:=Dp.2 (by omega);have hnb:Cc c=true:=by
     unfold Cc;simp;omega
    rw[hnb];refine Am w1 700 (by kernel_rfl) ?_;refine AD kB ?_
    try simp only[f1,f2,f3,f4,f5,f6,f7,f8,f9]
    refine AD kB ?_
    try simp only[f1,f2,f3,f4,f5,f6,f7,f8,f9]
    refine AD kB ?_
    try simp only[f1,f2,f3,f4,f5,f6,f7,f8,f9]
    refine AD kB ?_
    try simp only[f1,f2,f3,f4,f5,f6,f7,f8,f9]
    refine AD kB ?_
    try simp only[f1,f2,f3,f4,f5,f6,f7,f8,f9]
    refine AD kB ?_
    try simp only[f1,f2,f3,f4,f5,f6,f7,f8,f9]
    refine AD kB ?_
    try simp only[f1,f2,f3,f4,f5,f6,f7,f8,f9]
    refine AD kB ?_
    try simp only[f1,f2,f3,f4,f5,f6,f7,f8,f9]
    refine AD kB ?_
    try simp only[f1,f2,f3,f4,f5,f6,f7,f8,f9]
    exact⟨by first|exact AB|rfl|simp,_,trivial,AL⟩
  rintro n1 -;cases hb:Cc c
  ·refine AJ ?_
   refine sR 800 ?_;refine Ab ?_;exact AO (by rw[hcl hb]) AA.out
  ·refine AJ ?_
   refine Ak ?_;refine Am w1 500 (by kernel_rfl) ?_;refine AT wi ?_;exact⟨(i+1,_),⟨hi2,hsn hb⟩,by dsimp only;omega,AL⟩
 ·have hi2:i=l.length:=by
   have:=Cz hlt
   omega
  subst hi2;rw[B1 (Ae _)]at ha;refine B6 ?_;refine sR 900 ?_;refine Ab ?_;exact AO (by unfold DO;rw[ha,AZ l1,AZ l2];rfl) AA.out
def Gb:List Int->Int
 | []=>0
 |e::r=>if e≠0 then e else Gb r
theorem Uj {v:List Int}{i:Nat}(h:∀(j:Nat) (e:Int),j<i->v[j]?=some e->e=0):Gb v=Gb (v.drop i):=by
 induction i generalizing v with
 |zero=>rfl
 |succ i ih=>
  cases v with
  |nil=>rfl
  |cons l r=>
   have h0:=h 0 l (Nat.succ_pos i) rfl;rw[Qs];show(if l≠0 then l else Gb r)=_;rw[AE (λhh=>hh h0)];exact ih λj m hj hm=>h (j+1) m (by omega) hm
theorem W7 {a:Int}(h:a≠0):(a != 0)=true:=by
 have:(a==0)=false:=B3.2 h
 unfold bne;rw[this];rfl
theorem Wt {l:List UInt8}(h:CR l=0):GJ (CB l):=Lf (L5 h) (by decide)
def DX (f:Nat->Nat):Nat->Nat
 | 0=>0
 |n+1=>if DX f n≠0 then DX f n else f n
theorem LV {f:Nat->Nat}{n:Nat}(h:∀j,j<n->f j=0):DX f n=0:=by
 induction n with
 |zero=>rfl
 |succ n ih=>
  have:=ih λj hj=>h j (by omega)
  unfold DX;rw[AE (λhh=>hh this)];exact h n (by omega)
theorem NJ {f:Nat->Nat}{i n:Nat}(h:∀j,j<i->f j=0)(hi:i<n)(h0:f i≠0):DX f n=f i:=by
 induction n with
 |zero=>omega
 |succ n ih=>
  unfold DX;rcases BH i n with hlt|hge
  ·have:=ih hlt
   rw[AH (by rw[this];exact h0),this]
  ·have:i=n:=by omega
   subst this;rw[AE (λhh=>hh (LV h))]
theorem PK {f:Nat->Nat}{n:Nat}(h:DX f n=0):∀j,j<n->f j=0:=by
 induction n with
 |zero=>intro j hj;omega
 |succ n ih=>
  unfold DX at h
  by_cases h0:DX f n=0
  ·rw[AE (λhh=>hh h0)]at h
   intro j hj;rcases BH j n with hl|hg
   ·exact ih h0 j hl
   ·have:j=n:=by omega
    subst this;exact h
  ·rw[AH h0]at h
   exact Aa h h0
structure K2 where
 name:List UInt8
 least:List (List UInt8)
 most:List (List UInt8)
 deriving Inhabited
def K2.D (g:K2):D:=.agg [str (sb g.name),.sl false 1 (g.least.map λl=>str (sb l)),.sl false 1 (g.most.map λl=>str (sb l))]
instance  (g:K2):Aj g.D:=by unfold K2.D;exact AG
instance  (g:K2):AA g.D:=by unfold K2.D;exact AG
def lv (l:List (List UInt8))(k:Nat):List UInt8:=l.getD k []
def mv (gs:List K2)(i k:Nat):Option (List UInt8×List UInt8):=if i=0 then none else some (lv (gs.getD (i-1) default).least k,lv (gs.getD (i-1) default).most k)
theorem bs {α:Type}{l:List α}{p:α->Bool}{i:Nat}(h:∀(j:Nat) (x:α),j<i->l[j]?=some x->p x=false):(l.take i).any p=false:=by
 rw[List.any_eq_false];intro x hx;obtain⟨j,hj,e⟩:=List.mem_iff_getElem.1 hx;have hj2:j<i:=by rw[Bf]at hj;omega
 have:l[j]?=some x:=by
  rw[<-e,List.getElem_take];exact BF _
 rw[h j x hj2 this];simp
def Jw {α:Type}(p:α->Bool)(l:List α):Int:=if l.any p then(l.findIdx p:Int)else -1
theorem XQ {α:Type}{p:α->Bool}{l:List α}{i:Nat}{x:α}(hx:l[i]?=some x)(h:p x=true)(ha:∀(j:Nat) (y:α),j<i->l[j]?=some y->p y=false):Jw p l=i:=by
 unfold Jw;obtain⟨hi,e⟩:=List.getElem?_eq_some_iff.1 hx;rw[AH (List.any_eq_true.2 ⟨x,BA hx,h⟩)]
 have:l.findIdx p=i:=(List.findIdx_eq hi).2 ⟨by rw[e];exact h,λj hj=>ha j _ hj (BF _)⟩
 rw[this]
theorem Vv {α:Type}{p:α->Bool}{l:List α}(ha:∀(j:Nat) (y:α),j<l.length->l[j]?=some y->p y=false):Jw p l = -1:=by
 unfold Jw
 have:=bs (l:=l) (p:=p) (i:=l.length) ha
 rw[DG]at this;rw[this];rfl
theorem XR {α:Type}(p:α->Bool)(l:List α):decide (Jw p l>=0)=l.any p:=by
 unfold Jw;cases l.any p
 ·rfl
 ·exact AZ (by simp)
end Go.Ide
