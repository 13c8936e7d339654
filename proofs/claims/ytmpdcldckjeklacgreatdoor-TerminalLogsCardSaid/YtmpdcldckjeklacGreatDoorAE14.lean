/- The layer of own lemmas and contracts, part 14. -/
import Derived.Test.YtmpdcldckjeklacGreatDoorAE13
set_option linter.unusedVariables false
set_option linter.unusedSimpArgs false
namespace Go.Ide
open Go.Proofs Go.RowKit
set_option maxRecDepth 20000
set_option maxHeartbeats 4000000
def DO:Nat->List UInt8->List BV->Nat->List BV×Nat×Nat
 | 0,_,out,p=>(out,p,0)
 |f+1,log,out,p=>if log.length<=p then(out,p,0)
  else if(log.drop p).length<=Ar 10 (log.drop p)then(out,p,25)
  else if(Dp ((log.drop p).take (Ar 10 (log.drop p)))).2≠0 then(out,p,(Dp ((log.drop p).take (Ar 10 (log.drop p)))).2)
  else if out.length=1000 then(out,p,5)
  else DO f log (out++[(Dp ((log.drop p).take (Ar 10 (log.drop p)))).1]) (p+(Ar 10 (log.drop p)+1))
def E9 (log:List UInt8):List BV×Nat×Nat:=DO log.length log [] 0
theorem RL {f p:Nat}{log:List UInt8}{out:List BV}(h:log.length<=p):DO f log out p=(out,p,0):=by
 cases f with
 |zero=>rfl
 |succ f=>unfold DO;rw[AM h]
theorem Qv {f p:Nat}{log:List UInt8}{out:List BV}(h:p<log.length)(hp:(log.drop p).length<=Ar 10 (log.drop p)):DO (f+1) log out p=(out,p,25):=by
 unfold DO;rw[BU,AM hp]
theorem RK {f p:Nat}{log:List UInt8}{out:List BV}(h:p<log.length)(hp:Ar 10 (log.drop p)<(log.drop p).length)(hb:(Dp ((log.drop p).take (Ar 10 (log.drop p)))).2≠0):
  DO (f+1) log out p=(out,p,(Dp ((log.drop p).take (Ar 10 (log.drop p)))).2):=by
 conv=>lhs;unfold DO
 rw[BU,BU,AM hb]
theorem Qk {f p:Nat}{log:List UInt8}{out:List BV}(h:p<log.length)(hp:Ar 10 (log.drop p)<(log.drop p).length)(hb:(Dp ((log.drop p).take (Ar 10 (log.drop p)))).2=0)(ho:out.length=1000):
  DO (f+1) log out p=(out,p,5):=by
 conv=>lhs;unfold DO
 rw[BU,BU,BU,AM ho]
theorem Ql {f p:Nat}{log:List UInt8}{out:List BV}(h:p<log.length)(hp:Ar 10 (log.drop p)<(log.drop p).length)(hb:(Dp ((log.drop p).take (Ar 10 (log.drop p)))).2=0)(ho:out.length≠1000):
  DO (f+1) log out p=DO f log (out++[(Dp ((log.drop p).take (Ar 10 (log.drop p)))).1]) (p+(Ar 10 (log.drop p)+1)):=by
 conv=>lhs;unfold DO
 rw[BU,BU,BU,AN ho]
theorem Ey {H Hf:Hp}{a a' b b' c c':D}(h1:Fz H Hf a a')(h2:Fz H Hf b b')(h3:Fz H Hf c c'):Fz H Hf (.tup [a,b,c]) (.tup [a',b',c']):=.tup rfl λi d d' hd hd'=>by
 match i with
 | 0=>simp at hd hd';subst hd;subst hd';exact h1
 | 1=>simp at hd hd';subst hd;subst hd';exact h2
 | 2=>simp at hd hd';subst hd;subst hd';exact h3
 |i+3=>simp at hd
def Iq (r:List BV×Nat×Nat):D:=.tup [.sl false 5 (r.1.map (As false false)),i64 (r.2.1:Nat),i64 (r.2.2:Nat)]
theorem QS (log:List UInt8)(hl:log.length<=100000):Aa C0 6 [AH log] (Iq (E9 log)):=by
 refine Ax.walk w1 gQ rfl λF=>?_
 have hsz:=Bl log;have t0:decide (((log.length:Nat):Int)>1000000)=false:=Ap;unfold E9 Iq;obtain⟨R,hR⟩:∃R,DO log.length log [] 0=R:=⟨_,rfl⟩
 rw[hR];refine AJ AU (BJ hsz t0) AA AA AA AA AA AA ?_;refine AO.loop (α:=List BV×Nat×Nat×Nat×Nat) (λp=>⟨[(0,AH log),(5,FU 1403 p.2.2.1 5 (p.1.map (As false false))),(6,i64 (p.2.1:Nat))],FV 1403 p.2.2.1 25 5 (p.1.map (As false false)),p.2.2.2.2⟩) (λp=>log.length-p.2.1)
  (λp=>p.2.1<=log.length/\log.length-p.2.1<=p.2.2.2.1/\DO p.2.2.2.1 log p.1 p.2.1=R/\p.1.length<=1000) ([],0,0,log.length,_) ⟨Bu _,Ad _,hR,Bu _⟩ Al ?_
 rintro⟨out,p,g7,f,n1⟩ F ⟨h1,h2,h3,h4⟩;dsimp only at h1 h2 h3 h4⊢;obtain⟨TL,hTL⟩:∃TL,out.map (As false false)=TL:=⟨_,rfl⟩
 have hTl:TL.length=out.length:=by rw[<-hTL,BP]
 have hpT:AC TL:=by rw[<-hTL];exact An
 rw[hTL];rcases Aq p log.length with h5|h5
 rotate_left
 ·have hp:p=log.length:=by omega
  subst hp;have t1:decide (((log.length:Nat):Int)<((log.length:Nat):Int))=false:=Ap;rw[RL (Ad _)]at h3;subst h3;rcases TL with _|⟨z,TL⟩
  ·dsimp only[DS,DT]
   refine AJ AU (BJ hsz t1) AA AA AA AA AA AA ?_;exact⟨_,Ey (.nil 5) (.refl _) (.refl _),AB.out,by first|(rw[hTL];done)|(rw[hTL];rfl)⟩
  ·dsimp only[C4,C5]
   refine AJ AU (BJ hsz t1) AA AA AA AA AA AA ?_;exact⟨_,Ey (Fk 1403 g7 25 5 (z::TL) _) (.refl _) (.refl _),AB.out,by first|(rw[hTL];done)|(rw[hTL];rfl)⟩
 obtain⟨f,rfl⟩:∃f',f=f'+1:=⟨f-1,by omega⟩
 have t1:decide (((p:Nat):Int)<((log.length:Nat):Int))=true:=Av;have ex:(sb log).extract p log.length=sb (log.drop p):=by rw[GD,C3 (Ad _)]
 have hi3:((p:Nat):Int)<=((sb log).size:Int):=by rw[hsz];omega
 have cC:=gG 10 (log.drop p) (by rw[Et];omega);rcases Aq (Ar 10 (log.drop p)) (log.drop p).length with h6|h6
 rotate_left
 ·rw[Qv h5 h6]at h3
  subst h3;rw[B4 (show ¬Ar 10 (log.drop p)<(log.drop p).length by omega)]at cC;rcases TL with _|⟨z,TL⟩
  ·dsimp only[DS,DT]
   refine AJ AU (CW hsz t1 kN ex kF) cC AA AA AA AA AA ?_;exact⟨_,Ey (.nil 5) (.refl _) (.refl _),AB.out,by first|(rw[hTL];done)|(rw[hTL];rfl)⟩
  ·dsimp only[C4,C5]
   refine AJ AU (CW hsz t1 kN ex kF) cC AA AA AA AA AA ?_;exact⟨_,Ey (Fk 1403 g7 25 5 (z::TL) _) (.refl _) (.refl _),AB.out,by first|(rw[hTL];done)|(rw[hTL];rfl)⟩
 rw[BW h6]at cC;have hbad:=RK (f:=f) (out:=out) h5 h6;have hmany:=Qk (f:=f) (out:=out) h5 h6;have hstep:=Ql (f:=f) (out:=out) h5 h6;obtain⟨w,hw⟩:∃w,(log.drop p).take (Ar 10 (log.drop p))=w:=⟨_,rfl⟩
 have hdl:(log.drop p).length=log.length-p:=Et ..;have hwl:w.length=Ar 10 (log.drop p):=by rw[<-hw,Ds];omega
 have hwz:=Bl w;rw[hw]at cC hbad hmany hstep;rw[<-hwl]at hstep h6;have cD:=Vr w (by omega);generalize(log.drop p).drop (Ar 10 (log.drop p)+1)=rest at cC;have wc:=wS (n:=w.length) (by omega);have wd:IntKind.i64.wrap (((p:Nat):Int)+((w.length+1:Nat):Int))=((p+(w.length+1):Nat):Int):=by rw[wI];omega
 obtain⟨r,hr⟩:∃r,Dp w=r:=⟨_,rfl⟩
 rw[hr]at cD hbad hmany hstep;obtain⟨e,c⟩:=r;dsimp only at cD hbad hmany hstep;have hpe:BX (As false false e):=AB.out;unfold As at cD;have hpn:AC (e.names.map AH):=An;have hpm:AC (e.masses.map BQ):=An
 by_cases h7:c=0
 rotate_left
 ·have t2:(((c:Nat):Int) != 0)=true:=by rw[bne_iff_ne];omega
  rw[hbad h7]at h3;subst h3;rcases TL with _|⟨z,TL⟩
  ·dsimp only[DS,DT]
   refine AJ AU (D7 hsz t1 kN ex kT t2) cC cD AA AA AA AA ?_;exact⟨_,Ey (.nil 5) (.refl _) (.refl _),AB.out,by first|(rw[hTL];done)|(rw[hTL];rfl)⟩
  ·dsimp only[C4,C5]
   refine AJ AU (D7 hsz t1 kN ex kT t2) cC cD AA AA AA AA ?_;exact⟨_,Ey (IW (T:=25) rfl rfl rfl) (.refl _) (.refl _),AB.out,by first|(rw[hTL];done)|(rw[hTL];rfl)⟩
 have t2:(((c:Nat):Int) != 0)=false:=by rw[h7];rfl
 have hsn:(out++[e]).map (As false false)=TL++[As false false e]:=by rw[EH,hTL];rfl
 rcases TL with _|⟨z,TL⟩
 ·dsimp only[DS,DT]
  have t3:(((0:Nat):Int)==1000)=false:=rfl;have hol:out.length=0:=hTl.symm;rw[hstep h7 (by omega)]at h3;refine AJ AU (CL hsz t1 kN ex kT t2 (Cs t3 hwz wc wd)) cC cD AA AA AA AA ?_;exact⟨(out++[e],p+(w.length+1),_,f,_),⟨by dsimp only;omega,by dsimp only;omega,h3,by dsimp only;rw[B9];simp;omega⟩,by dsimp only;omega,(by dsimp only;rw[hsn];exact Al)⟩
 ·dsimp only[C4,C5]
  have htk:List.take (TL.length+1) (z::TL)=z::TL:=by simp
  rw[CD]at hTl
  by_cases h8:out.length=1000
  ·have t3:(((TL.length+1:Nat):Int)==1000)=true:=by rw[Fd];omega
   rw[hmany h7 h8]at h3;subst h3;refine AJ AU (CL hsz t1 kN ex kT t2 t3) cC cD AA AA AA AA ?_;exact⟨_,Ey (IW (T:=25) rfl rfl rfl) (.refl _) (.refl _),AB.out,by first|(rw[hTL];done)|(rw[hTL];rfl)⟩
  ·have t3:(((TL.length+1:Nat):Int)==1000)=false:=by rw[Bi];omega
   rw[hstep h7 h8]at h3;refine AJ AU (CL hsz t1 kN ex kT t2 (CW t3 hwz wc wd htk)) cC cD AA AA AA AA ?_;exact⟨(out++[e],p+(w.length+1),_,f,_),⟨by dsimp only;omega,by dsimp only;omega,h3,by dsimp only;rw[B9];simp;omega⟩,by dsimp only;omega,(by dsimp only;rw[hsn,JF];exact Al)⟩
theorem OV:∀(f:Nat) (log:List UInt8) (out:List BV) (p:Nat),out.length<=1000->(DO f log out p).1.length<=1000
 | 0,_,_,_,h=>h
 |f+1,log,out,p,h=>by
  unfold DO;split
  ·exact h
  split
  ·exact h
  split
  ·exact h
  split
  ·exact h
  ·exact OV f log _ _ (by rw[B9];simp;omega)
def In (log:List UInt8)(e:BV):List UInt8×Nat:=
 if(E9 log).2.2≠0 then([],(E9 log).2.2)else if Cq e≠0 then([],Cq e)else if(E9 log).1.length=1000 then([],5)else(log++(Bn e++[10]),0)
theorem VG (log:List UInt8)(hl:log.length<=100000)(e:BV)(a b:Bool)(hn:e.names.length<=100000)(hm:e.masses.length<=100000):Aa C0 9 [AH log,As a b e] (.tup [AH (In log e).1,i64 ((In log e).2:Nat)]):=by
 refine Ax.walk w1 gT rfl λF=>?_
 have hsz:=Bl log;have cR:=QS log hl;have cE:=VY e a b hn hm;have hrl:=OV log.length log [] 0 (Bu _);have hpn:AC (e.names.map AH):=An;have hpm:AC (e.masses.map BQ):=An;change(E9 log).1.length<=1000 at hrl;unfold In;unfold Iq at cR;obtain⟨r,hr⟩:∃r,E9 log=r:=⟨_,rfl⟩
 rw[hr]at cR hrl⊢;obtain⟨out,p,c⟩:=r;dsimp only at cR hrl⊢;have hpo:AC (out.map (As false false)):=An;have hol:(out.map (As false false)).length=out.length:=BP ..;generalize out.map (As false false)=TL at*;unfold As at cE⊢
 by_cases h1:c=0
 rotate_left
 ·have t1:(((c:Nat):Int) != 0)=true:=by rw[bne_iff_ne];omega
  rw[AM h1];refine AJ AU t1 cR AA AA AA AA AA ?_;exact Ac rfl AB.out
 have t1:(((c:Nat):Int) != 0)=false:=by rw[h1];rfl
 rw[AN (show ¬c≠0 from λh=>h h1)];unfold PW at cE
 by_cases h2:Cq e=0
 rotate_left
 ·have t2:(((Cq e:Nat):Int) != 0)=true:=by rw[bne_iff_ne];omega
  rw[AM h2];rw[AN h2]at cE;generalize Cq e=k at*;refine AJ AU (BJ t1 t2) cR cE AA AA AA AA ?_;exact Ac rfl AB.out
 obtain⟨v⟩:=PD h2;have hvl:=v.len;rw[h2]at cE;have t2:((((0:Nat)):Int) != 0)=false:=rfl;rw[AN (show ¬Cq e≠0 from λh=>h h2)];rw[AM rfl]at cE
 by_cases h3:out.length=1000
 ·have t3:decide (((out.length:Nat):Int)>=1000)=true:=Av
  rw[AM h3];refine AJ AU (Cs t1 t2 hol t3) cR cE AA AA AA AA ?_;exact Ac rfl AB.out
 have t3:decide (((out.length:Nat):Int)>=1000)=false:=Ap;rw[AN h3];have hez:=Bl (Bn e);have w1':IntKind.i64.wrap (((log.length:Nat):Int)+(((Bn e).length:Nat):Int))=((log.length+(Bn e).length:Nat):Int):=by rw[wI];omega
 have w2':=wS (n:=log.length+(Bn e).length) (by omega);have t4:decide (((log.length+(Bn e).length+1:Nat):Int)>1000000)=false:=Ap;have hs10:(⟨#[10]⟩:ByteArray).size=1:=rfl;have e1:=GG log (Bn e);have e2:sb (log++Bn e)++(⟨#[10]⟩:ByteArray)=sb (log++(Bn e++[10])):=by rw[show(⟨#[10]⟩:ByteArray)=sb [10]from rfl,GG,Cr]
 have hz2:(sb (log++Bn e)).size=log.length+(Bn e).length:=by rw[Bl,B9]
 refine AJ AU (CL t1 t2 hol t3 hsz hez (CW w1' w2' t4 e1 e2)) cR cE AA AA AA AA ?_;exact Ac rfl AB.out
end Go.Ide
