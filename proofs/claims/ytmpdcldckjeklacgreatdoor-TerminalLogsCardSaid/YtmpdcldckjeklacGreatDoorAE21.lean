/- The layer of own lemmas and contracts, part 21. -/
import Derived.Test.YtmpdcldckjeklacGreatDoorAE14
import Derived.Test.YtmpdcldckjeklacGreatDoorAE20
set_option linter.unusedVariables false
set_option linter.unusedSimpArgs false
namespace Go.Ide
open Go.Proofs Go.RowKit
set_option maxRecDepth 20000
set_option maxHeartbeats 4000000
theorem QJ (log:List UInt8)(hl:log.length<=100000):Aa C0 7 [AH log] (Iq (E9 log)):=by
 refine Ax.walk w1 gR rfl λF=>?_
 have hsz:=Bl log;have t0:decide (((log.length:Nat):Int)>1000000)=false:=Ap;unfold E9 Iq;obtain⟨R,hR⟩:∃R,DO log.length log [] 0=R:=⟨_,rfl⟩
 rw[hR];refine AJ AU (BJ hsz t0) AA AA AA AA AA AA ?_;refine AO.loop (α:=List BV×Nat×Nat×Nat×Nat) (λp=>⟨[(0,AH log),(5,FU 1403 p.2.2.1 5 (p.1.map (As false false))),(6,i64 (p.2.1:Nat))],FV 1403 p.2.2.1 25 5 (p.1.map (As false false)),p.2.2.2.2⟩) (λp=>log.length-p.2.1)
  (λp=>p.2.1<=log.length/\log.length-p.2.1<=p.2.2.2.1/\DO p.2.2.2.1 log p.1 p.2.1=R/\p.1.length<=1000) ([],0,0,log.length,_) ⟨Bu _,Ad _,hR,Bu _⟩ Al ?_
 rintro⟨out,p,g7,f,n1⟩ F ⟨h1,h2,h3,h4⟩;dsimp only at h1 h2 h3 h4⊢;obtain⟨TL,hTL⟩:∃TL,out.map (As false false)=TL:=⟨_,rfl⟩
 have hTl:TL.length=out.length:=by rw[<-hTL,BP]
 have hpT:AC TL:=by rw[<-hTL];exact An
 rw[hTL];rcases Aq p log.length with h5|h5
 rotate_left
 ·have hp:p=log.length:=by omega
  subst hp;have t1:decide (((log.length:Nat):Int)<((log.length:Nat):Int))=false:=Ap;rw[RL (Ad _)]at h3;subst h3;rcases TL with _|⟨z,TL⟩
  ·dsimp only[DS,DT]
   refine AJ AU (BJ hsz t1) AA AA AA AA AA AA ?_;exact⟨_,Ey (.nil 5) (.refl _) (.refl _),AB.out,by first|(rw[hTL];done)|(rw[hTL];rfl)⟩
  ·dsimp only[C4,C5]
   refine AJ AU (BJ hsz t1) AA AA AA AA AA AA ?_;exact⟨_,Ey (Fk 1403 g7 25 5 (z::TL) _) (.refl _) (.refl _),AB.out,by first|(rw[hTL];done)|(rw[hTL];rfl)⟩
 obtain⟨f,rfl⟩:∃f',f=f'+1:=⟨f-1,by omega⟩
 have t1:decide (((p:Nat):Int)<((log.length:Nat):Int))=true:=Av;have ex:(sb log).extract p log.length=sb (log.drop p):=by rw[GD,C3 (Ad _)]
 have hi3:((p:Nat):Int)<=((sb log).size:Int):=by rw[hsz];omega
 have cC:=Qx 10 (log.drop p) (by rw[Et];omega);rcases Aq (Ar 10 (log.drop p)) (log.drop p).length with h6|h6
 rotate_left
 ·rw[Qv h5 h6]at h3
  subst h3;have h0:(log.drop p).count 10=0:=by
   rcases LU ((log.drop p).count 10)with h|h
   ·exact h
   ·have:=PA 10 _ h;omega
  rw[Lj 10 _ h0]at cC;have e1:(((1:Nat):Int)==1)=true:=rfl;rcases TL with _|⟨z,TL⟩
  ·dsimp only[DS,DT]
   refine AJ AU (CW hsz t1 kN ex e1) cC AA AA AA AA AA ?_;exact⟨_,Ey (.nil 5) (.refl _) (.refl _),AB.out,by first|(rw[hTL];done)|(rw[hTL];rfl)⟩
  ·dsimp only[C4,C5]
   refine AJ AU (CW hsz t1 kN ex e1) cC AA AA AA AA AA ?_;exact⟨_,Ey (Fk 1403 g7 25 5 (z::TL) _) (.refl _) (.refl _),AB.out,by first|(rw[hTL];done)|(rw[hTL];rfl)⟩
 rw[Nx 10 _ h6]at cC;have hbad:=RK (f:=f) (out:=out) h5 h6;have hmany:=Qk (f:=f) (out:=out) h5 h6;have hstep:=Ql (f:=f) (out:=out) h5 h6;obtain⟨w,hw⟩:∃w,(log.drop p).take (Ar 10 (log.drop p))=w:=⟨_,rfl⟩
 have hdl:(log.drop p).length=log.length-p:=Et ..;have hwl:w.length=Ar 10 (log.drop p):=by rw[<-hw,Ds];omega
 have hwz:=Bl w;rw[hw]at cC hbad hmany hstep;rw[<-hwl]at hstep h6;have cD:=VL w (by omega);have hne:=KS 10 ((log.drop p).drop (Ar 10 (log.drop p)+1));have hsl:=GW 10 ((log.drop p).drop (Ar 10 (log.drop p)+1));have hcl:((log.drop p).drop (Ar 10 (log.drop p)+1)).count 10<=((log.drop p).drop (Ar 10 (log.drop p)+1)).length:=List.count_le_length;have hdd:((log.drop p).drop (Ar 10 (log.drop p)+1)).length<=100000:=by rw[Et,Et];omega
 obtain⟨rest,hrest⟩:∃rest,A8 10 ((log.drop p).drop (Ar 10 (log.drop p)+1))=rest:=⟨_,rfl⟩
 rw[hrest]at cC hne hsl;have hr1:1<=rest.length:=by
  cases rest with
  |nil=>exact AW rfl hne
  |cons x l=>simp
 have hrl:(rest.map AH).length=rest.length:=BP ..;have hpr:AC (rest.map AH):=An;rw[BY]at cC;have e1:(((rest.length+1:Nat):Int)==1)=false:=by rw[Bi];omega
 have wc:IntKind.i64.wrap (((p:Nat):Int)+((w.length:Nat):Int))=((p+w.length:Nat):Int):=by rw[wI];omega
 have wd:IntKind.i64.wrap (((p+w.length:Nat):Int)+1)=((p+(w.length+1):Nat):Int):=by rw[wI];omega
 have hx0:(AH w::rest.map AH)[0]?=some (AH w):=rfl;obtain⟨r,hr⟩:∃r,Dp w=r:=⟨_,rfl⟩
 rw[hr]at cD hbad hmany hstep;obtain⟨e,c⟩:=r;dsimp only at cD hbad hmany hstep;have hpe:BX (As false false e):=AB.out;unfold As at cD;have hpn:AC (e.names.map AH):=An;have hpm:AC (e.masses.map BQ):=An
 by_cases h7:c=0
 rotate_left
 ·have t2:(((c:Nat):Int)==0)=false:=by rw[Bi];omega
  have t4:(((c:Nat):Int) != 0)=true:=by rw[bne_iff_ne];omega
  rw[hbad h7]at h3;subst h3;rcases TL with _|⟨z,TL⟩
  ·dsimp only[DS,DT]
   refine AJ AU (CL hsz t1 kN ex hrl e1 (BJ t2 t4)) cC hx0 cD AA AA AA ?_;exact⟨_,Ey (.nil 5) (.refl _) (.refl _),AB.out,by first|(rw[hTL];done)|(rw[hTL];rfl)⟩
  ·dsimp only[C4,C5]
   refine AJ AU (CL hsz t1 kN ex hrl e1 (BJ t2 t4)) cC hx0 cD AA AA AA ?_;exact⟨_,Ey (IW (T:=25) rfl rfl rfl) (.refl _) (.refl _),AB.out,by first|(rw[hTL];done)|(rw[hTL];rfl)⟩
 have t2:(((c:Nat):Int)==0)=true:=by rw[h7];rfl
 have t4:(((c:Nat):Int) != 0)=false:=by rw[h7];rfl
 have t5:((5:Int) != 0)=true:=rfl;have hsn:(out++[e]).map (As false false)=TL++[As false false e]:=by rw[EH,hTL];rfl
 rcases TL with _|⟨z,TL⟩
 ·dsimp only[DS,DT]
  have t3:(((0:Nat):Int)==1000)=false:=rfl;have hol:out.length=0:=hTl.symm;rw[hstep h7 (by omega)]at h3;refine AJ AU (CL hsz t1 kN ex hrl e1 (D7 t2 t3 t4 hwz wc wd)) cC hx0 cD AA AA AA ?_;exact⟨(out++[e],p+(w.length+1),_,f,_),⟨by dsimp only;omega,by dsimp only;omega,h3,by dsimp only;rw[B9];simp;omega⟩,by dsimp only;omega,(by dsimp only;rw[hsn];exact Al)⟩
 ·dsimp only[C4,C5]
  have htk:List.take (TL.length+1) (z::TL)=z::TL:=by simp
  rw[CD]at hTl
  by_cases h8:out.length=1000
  ·have t3:(((TL.length+1:Nat):Int)==1000)=true:=by rw[Fd];omega
   rw[hmany h7 h8]at h3;subst h3;refine AJ AU (CL hsz t1 kN ex hrl e1 (CK t2 t3 t5)) cC hx0 cD AA AA AA ?_;exact⟨_,Ey (IW (T:=25) rfl rfl rfl) (.refl _) (.refl _),AB.out,by first|(rw[hTL];done)|(rw[hTL];rfl)⟩
  ·have t3:(((TL.length+1:Nat):Int)==1000)=false:=by rw[Bi];omega
   rw[hstep h7 h8]at h3;refine AJ AU (CL hsz t1 kN ex hrl e1 (CL t2 t3 t4 hwz wc wd htk)) cC hx0 cD AA AA AA ?_;exact⟨(out++[e],p+(w.length+1),_,f,_),⟨by dsimp only;omega,by dsimp only;omega,h3,by dsimp only;rw[B9];simp;omega⟩,by dsimp only;omega,(by dsimp only;rw[hsn,JF];exact Al)⟩
theorem VK (log:List UInt8)(hl:log.length<=100000)(e:BV)(a b:Bool)(hn:e.names.length<=100000)(hm:e.masses.length<=100000)(hs:∀s∈e.names,s.length<=100000):Aa C0 10 [AH log,As a b e] (.tup [AH (In log e).1,i64 ((In log e).2:Nat)]):=by
 refine Ax.walk w1 d8 rfl λF=>?_
 have hsz:=Bl log;have cR:=QJ log hl;have cC:=QR a b e hn hm hs;have hpn:AC (e.names.map AH):=An;have hpm:AC (e.masses.map BQ):=An;unfold In;unfold Iq at cR;obtain⟨r,hr⟩:∃r,E9 log=r:=⟨_,rfl⟩
 rw[hr]at cR⊢;obtain⟨out,p,c⟩:=r;dsimp only at cR⊢;have hpo:AC (out.map (As false false)):=An;have hol:(out.map (As false false)).length=out.length:=BP ..;generalize out.map (As false false)=TL at*
 by_cases h1:c=0
 rotate_left
 ·have t1:(((c:Nat):Int)==0)=false:=by rw[Bi];omega
  have t1':(((c:Nat):Int) != 0)=true:=by rw[bne_iff_ne];omega
  rw[AM h1];unfold As;refine AJ AU (BJ t1 t1') cR AA AA AA AA AA ?_;exact Ac rfl AB.out
 have t1:(((c:Nat):Int)==0)=true:=by rw[h1];rfl
 rw[AN (show ¬c≠0 from λh=>h h1)]
 by_cases h2:Cq e=0
 rotate_left
 ·have t2:(((Cq e:Nat):Int)==0)=false:=by rw[Bi];omega
  have t2':(((Cq e:Nat):Int) != 0)=true:=by rw[bne_iff_ne];omega
  rw[AM h2];generalize Cq e=k at*;unfold As at cC⊢;refine AJ AU (CK t1 t2 t2') cR cC AA AA AA AA ?_;exact Ac rfl AB.out
 obtain⟨v⟩:=PD h2;have hvl:=v.len;have cE:=VM e v a b;rw[h2]at cC;have t2:((((0:Nat)):Int)==0)=true:=rfl;have t2':((((0:Nat)):Int) != 0)=false:=rfl;rw[AN (show ¬Cq e≠0 from λh=>h h2)];unfold As at cC cE⊢
 by_cases h3:out.length=1000
 ·have t3:(((out.length:Nat):Int)==1000)=true:=by rw[Fd];omega
  have t5:((5:Int)==0)=false:=rfl;have t5':((5:Int) != 0)=true:=rfl;rw[AM h3];refine AJ AU (D7 t1 t2 hol t3 t5 t5') cR cC AA AA AA AA ?_;exact Ac rfl AB.out
 have t3:(((out.length:Nat):Int)==1000)=false:=by rw[Bi];omega
 rw[AN h3];have hez:=Bl (Bn e);have w1':IntKind.i64.wrap (((log.length:Nat):Int)+(((Bn e).length:Nat):Int))=((log.length+(Bn e).length:Nat):Int):=by rw[wI];omega
 have w2':=wS (n:=log.length+(Bn e).length) (by omega);have t4:decide (((log.length+(Bn e).length+1:Nat):Int)>1000000)=false:=Ap;have hs10:(⟨#[10]⟩:ByteArray).size=1:=rfl;have e1:=GG log (Bn e);have e2:sb (log++Bn e)++(⟨#[10]⟩:ByteArray)=sb (log++(Bn e++[10])):=by rw[show(⟨#[10]⟩:ByteArray)=sb [10]from rfl,GG,Cr]
 have hz2:(sb (log++Bn e)).size=log.length+(Bn e).length:=by rw[Bl,B9]
 refine AJ AU (CL t1 t2 t2' hol t3 hsz (D7 hez w1' w2' t4 e1 e2)) cR cC cE AA AA AA ?_;exact Ac rfl AB.out
theorem RM:∀(f:Nat) (log:List UInt8) (out:List BV) (p:Nat),log.length<=100000->(∀e∈out,e.names.length<=100000/\e.masses.length<=100000)->∀e∈(DO f log out p).1,e.names.length<=100000/\e.masses.length<=100000
 | 0,_,_,_,_,h=>h
 |f+1,log,out,p,hl,h=>by
  unfold DO;split
  ·exact h
  split
  ·exact h
  split
  ·exact h
  split
  ·exact h
  ·refine RM f log _ _ hl λe he=>?_
   rcases BR.1 he with he|he
   ·exact h e he
   ·rw[Eb]at he
    subst he;exact WI _ (by rw[Ds,Et];omega)
theorem cf (log:List UInt8)(hl:log.length<=9223372036854775807)(e:BV)(hk:e.kind.length<=9223372036854775807)(hn:e.names.length<=9223372036854775807)(hm:e.masses.length<=9223372036854775807)(hs:∀s∈e.names,s.length<=9223372036854775807):Aa C0 3 [AH log,As false false e] (Ai true):=by
 refine Ax.walk w1 gL rfl λF=>?_
 have hsz:=Bl log;have aw:=VU;have c1:=Wn e false false hk hn hm hs;have hpn:AC (e.names.map AH):=An;have hpm:AC (e.masses.map BQ):=An;rcases Aq 2000 log.length with h1|h1
 ·have t1:decide (((log.length:Nat):Int)>2000)=true:=Av
  unfold As;refine AJ AU (BJ hsz t1) aw AA AA AA AA AA ?_;exact Ac rfl AB.out
 have t1:decide (((log.length:Nat):Int)>2000)=false:=Ap;cases hq:Kz e with
 |false=>
  rw[hq]at c1;unfold As at c1⊢;refine AJ AU (CK hsz t1 kF) c1 aw AA AA AA AA ?_;exact Ac rfl AB.out
 |true=>
 rw[hq]at c1;obtain⟨q1,q2,q3,q4⟩:=WZ hq;have c2:=QS log (by omega);have c3:=QJ log (by omega);have c4:=VG log (by omega) e false false (by omega) (by omega);have c5:=VK log (by omega) e false false (by omega) (by omega) (λs h=>by have:=q4 s h;omega);have hfit:=RM log.length log [] 0 (by omega) (by simp);have hlen:=OV log.length log [] 0 (Bu _);change ∀e∈(E9 log).1,_ at hfit;change(E9 log).1.length<=1000 at hlen;have c6:=VN false false (E9 log).1 (by omega) hfit;unfold Iq at c2 c3;obtain⟨r,hr⟩:∃r,E9 log=r:=⟨_,rfl⟩
 obtain⟨ap,hap⟩:∃ap,In log e=ap:=⟨_,rfl⟩
 rw[hr]at c2 c3 c6;rw[hap]at c4 c5;obtain⟨out,p,c⟩:=r;obtain⟨txt,bad⟩:=ap;dsimp only at c2 c3 c4 c5 c6;have hpo:AC (out.map (As false false)):=An;generalize out.map (As false false)=TL at*;have t2:(((c:Nat):Int) != ((c:Nat):Int))=false:=bne_self_eq_false _;have t3:(((p:Nat):Int) != ((p:Nat):Int))=false:=bne_self_eq_false _;have t4:(((bad:Nat):Int)==((bad:Nat):Int))=true:=beq_self_eq_true _;have q5:BL (sb txt) (sb txt)=true:=by rw[Ce];exact BW rfl
 unfold As at c1 c4 c5⊢;refine AJ AU (CW hsz t1 kT t2 t3) c1 c2 c3 c6 c4 c5 ?_;refine AJ AU (BJ t4 q5) aw AA AA AA AA AA ?_;exact Ac rfl AB.out
end Go.Ide
