/- The layer of own lemmas and contracts, part 11. -/
import Derived.Test.YtmpdcldckjeklacGreatDoorAE10
import Derived.Test.YtmpdcldckjeklacGreatDoorAE9
set_option linter.unusedVariables false
set_option linter.unusedSimpArgs false
namespace Go.Ide
open Go.Proofs Go.RowKit
set_option maxRecDepth 20000
set_option maxHeartbeats 4000000
theorem QR (b1 b2:Bool)(e:BV)(h1:e.names.length<=100000)(h2:e.masses.length<=100000)(h3:∀s∈e.names,s.length<=100000):Aa C0 29 [As b1 b2 e] (i64 (Cq e:Nat)):=by
 refine Ax.walk w1 et rfl λF=>?_
 obtain⟨num,day,kind,names,masses⟩:=e;dsimp only at h1 h2 h3;have cF:=Rm kind;unfold Cq As;dsimp only;have hn:(names.map AH).length=names.length:=BP ..;have hm:(masses.map BQ).length=masses.length:=BP ..;have hpn:AC (names.map AH):=An;have hpm:AC (masses.map BQ):=An;rcases Int.lt_or_le num 1 with a1|a1
 ·have t1:decide (num<1)=true:=BW a1
  refine AJ AU t1 AA AA AA AA AA AA ?_;exact Ac (by rw[AM (.inl a1)];rfl) AB.out
 have t1:decide (num<1)=false:=Ap;rcases Int.lt_or_le 1000 num with a2|a2
 ·have t2:decide (num>1000)=true:=BW a2
  refine AJ AU (BJ t1 t2) AA AA AA AA AA AA ?_;exact Ac (by rw[AM (.inr a2)];rfl) AB.out
 have t2:decide (num>1000)=false:=Ap;rw[AN (show ¬(num<1\/num>1000) by omega)];rcases Int.lt_or_le day 0 with a3|a3
 ·have t3:decide (day<0)=true:=BW a3
  refine AJ AU (CK t1 t2 t3) AA AA AA AA AA AA ?_;exact Ac (by rw[AM (.inl a3)];rfl) AB.out
 have t3:decide (day<0)=false:=Ap;rcases Int.lt_or_le 100000 day with a4|a4
 ·have t4:decide (day>100000)=true:=BW a4
  refine AJ AU (Cs t1 t2 t3 t4) AA AA AA AA AA AA ?_;exact Ac (by rw[AM (.inr a4)];rfl) AB.out
 have t4:decide (day>100000)=false:=Ap;rw[AN (show ¬(day<0\/day>100000) by omega)];cases hk:En kind with
 |none=>
  rw[hk]at cF;unfold Hi at cF;dsimp only at cF⊢;have t5:decide ((-1:Int)<0)=true:=rfl;refine AJ AU (CW t1 t2 t3 t4 t5) cF AA AA AA AA AA ?_;exact Ac rfl AB.out
 |some p=>
 obtain⟨ka,kb⟩:=p;have ks:=JB kind;rw[hk]at cF ks;obtain⟨k1,k2,k3⟩:=ks;unfold Hi at cF;dsimp only at cF k1 k2 k3⊢;have t5:decide (((ka:Nat):Int)<0)=false:=Ap
 by_cases a5:names.length=ka
 rotate_left
 ·have t6:(((names.length:Nat):Int) != ((ka:Nat):Int))=true:=by rw[bne_iff_ne];omega
  rw[AM (.inl a5)];refine AJ AU (CL t1 t2 t3 t4 t5 hn t6) cF AA AA AA AA AA ?_;exact Ac rfl AB.out
 have t6:(((names.length:Nat):Int) != ((ka:Nat):Int))=false:=by rw[a5];exact bne_self_eq_false _
 by_cases a6:masses.length=kb
 rotate_left
 ·have t7:(((masses.length:Nat):Int) != ((kb:Nat):Int))=true:=by rw[bne_iff_ne];omega
  rw[AM (.inr a6)];refine AJ AU (CL t1 t2 t3 t4 t5 hn (CK hm t6 t7)) cF AA AA AA AA AA ?_;exact Ac rfl AB.out
 have t7:(((masses.length:Nat):Int) != ((kb:Nat):Int))=false:=by rw[a6];exact bne_self_eq_false _
 rw[AN (show ¬(names.length≠ka\/masses.length≠kb) by omega)];refine AJ AU (CL t1 t2 t3 t4 t5 hn (CK hm t6 t7)) cF AA AA AA AA AA ?_;refine AO.loop (α:=Nat×Nat) (λp=>⟨[(1,.optr 0 0 5 0 0),(2,i64 0),(3,i64 (ka:Nat)),(4,i64 (kb:Nat)),(5,i64 (p.1:Nat))],[⟨0,0,25,5,[.agg [i64 num,i64 day,AH kind,.sl b1 1 (names.map AH),.sl b2 1 (masses.map BQ)]]⟩],p.2⟩) (λp=>ka-p.1)
  (λp=>p.1<=ka/\(names.take p.1).any Cp=false) (0,_) ⟨Bu _,rfl⟩ Al ?_
 clear cF t1 t2 t3 t4 t5 t6 t7;rintro⟨i,n1⟩ F ⟨h4,h5⟩;dsimp only at h4 h5⊢;rcases Aq i ka with h6|h6
 ·obtain⟨x,hx⟩:∃x,names[i]?=some x:=⟨names[i],B3⟩
  have t1:decide (((i:Nat):Int)<((ka:Nat):Int))=true:=Av;have hx':=HY hx;have wc:=wS (n:=i) (by omega);have cN:=fH x (Az (h3 x (Bh hx)) (by omega));have hi2:((i:Nat):Int)<(((names.map AH).length:Nat):Int):=by rw[hn];omega
  cases hb:Dm x with
  |true=>
   rw[hb]at cN;have h7:=L4 (p:=Cp) hx h5 (by unfold Cp;rw[hb];rfl);refine AJ AU (BJ t1 wc) hx' cN AA AA AA AA ?_;exact⟨(i+1,_),⟨by dsimp only;omega,h7⟩,by dsimp only;omega,Al⟩
  |false=>
   rw[hb]at cN;have h7:=(JL (p:=Cp) hx (by unfold Cp;rw[hb];rfl) h5).1;refine AJ AU t1 hx' cN AA AA AA AA ?_;exact Ac (by rw[h7];rfl) AB.out
 have hi:i=ka:=by omega
 subst hi;have t1:decide (((i:Nat):Int)<((i:Nat):Int))=false:=Ap;rw[Lg]at h5;rw[h5];refine AJ AU t1 AA AA AA AA AA AA ?_;refine AO.loop (α:=Nat×Nat) (λp=>⟨[(1,.optr 0 0 5 0 0),(2,i64 0),(4,i64 (kb:Nat)),(6,i64 (p.1:Nat))],[⟨0,0,25,5,[.agg [i64 num,i64 day,AH kind,.sl b1 1 (names.map AH),.sl b2 1 (masses.map BQ)]]⟩],p.2⟩) (λp=>kb-p.1)
  (λp=>p.1<=kb/\(masses.take p.1).any Co=false) (0,_) ⟨Bu _,rfl⟩ Al ?_
 clear t1 h4 h5 h6;rintro⟨j,n2⟩ F ⟨h4,h5⟩;dsimp only at h4 h5⊢;rcases Aq j kb with h6|h6
 ·obtain⟨x,hx⟩:∃x,masses[j]?=some x:=⟨masses[j],B3⟩
  have t1:decide (((j:Nat):Int)<((kb:Nat):Int))=true:=Av;have hx':(masses.map BQ)[j]?=some (i64 x):=by rw[Bf,hx];rfl
  have wc:=wS (n:=j) (by omega);have hi2:((j:Nat):Int)<(((masses.map BQ).length:Nat):Int):=by rw[hm];omega
  rcases Int.lt_or_le x 0 with g1|g1
  ·have t2:decide (x<0)=true:=BW g1
   have h7:=(JL (p:=Co) hx (by unfold Co;rw[t2];rfl) h5).1;refine AJ AU (BJ t1 t2) hx' AA AA AA AA AA ?_;exact Ac (by rw[h7];rfl) AB.out
  have t2:decide (x<0)=false:=Ap;rcases Int.lt_or_le 999999999 x with g2|g2
  ·have t3:decide (x>999999999)=true:=BW g2
   have h7:=(JL (p:=Co) hx (by unfold Co;rw[t2,t3];rfl) h5).1;refine AJ AU (CK t1 t2 t3) hx' AA AA AA AA AA ?_;exact Ac (by rw[h7];rfl) AB.out
  have t3:decide (x>999999999)=false:=Ap;have h7:=L4 (p:=Co) hx h5 (by unfold Co;rw[t2,t3];rfl);refine AJ AU (Cs t1 t2 t3 wc) hx' AA AA AA AA AA ?_;exact⟨(j+1,_),⟨by dsimp only;omega,h7⟩,by dsimp only;omega,Al⟩
 have hj:j=kb:=by omega
 subst hj;have t1:decide (((j:Nat):Int)<((j:Nat):Int))=false:=Ap;rw[Lg]at h5;rw[h5];refine AJ AU t1 AA AA AA AA AA AA ?_;exact Ac rfl AB.out
abbrev GB:Dr:=[(8,[0,1,2,3,4,5,6],[7,8,9])]
open Go.Proofs Go.RowKit
set_option maxRecDepth 20000
set_option maxHeartbeats 4000000
def FG (k:List UInt8)(ws:List (List UInt8)):List (List UInt8)×List Int:=match En k with
 |none=>([],[])
 |some (a,b)=>if ws.length=a+b then(ws.take a,((ws.drop a).takeWhile BH).map λw=>((Bg w:Nat):Int))else([],[])
theorem JU {H:Hp}{a b:Int}{k:List UInt8}{x y x' y':D}(h1:Fz H [] x x')(h2:Fz H [] y y'):Fz H [] (.agg [i64 a,i64 b,AH k,x,y]) (.agg [i64 a,i64 b,AH k,x',y']):=by
 refine .agg rfl λi d d' hd hd'=>?_
 match i with
 | 0=>simp at hd hd';subst hd;subst hd';exact .refl _
 | 1=>simp at hd hd';subst hd;subst hd';exact .refl _
 | 2=>simp at hd hd';subst hd;subst hd';exact .refl _
 | 3=>simp at hd hd';subst hd;subst hd';exact h1
 | 4=>simp at hd hd';subst hd;subst hd';exact h2
 |i+5=>simp at hd
theorem JM (K g T sz:Nat)(l:List D)(H1 H2:Hp)(h:Hp.get H1 K=none):Fz (H1++(FV K g T sz l++H2)) [] (FU K g sz l) (.sl false sz l):=by
 cases l with
 |nil=>exact .nil sz
 |cons x l=>
  have hg:∀H1:Hp,Hp.get H1 K=none->Hp.get (H1++(FV K g T sz (x::l)++H2)) K=some ⟨K,g,T,sz,x::l⟩:=λH1=>by
   induction H1 with
   |nil=>intro _;simp[FV,Hp.get]
   |cons e r ih=>
    intro h;simp only[Hp.get]at h;rw[Fv];simp only[Hp.get];cases hb:Nat.beq e.k K with
    |true=>rw[hb]at h;cases h
    |false=>rw[hb]at h;exact ih h
  refine .osl (e:=⟨K,g,T,sz,x::l⟩) (hg H1 h) rfl rfl rfl (by simp) (by simp) (λj d d' h1 h2=>?_) λj d d' q c c' h1 h2 h3 h4=>?_
  ·rw[B5]at h1;rw[h1]at h2;cases h2;rfl
  ·rw[B5]at h1;rw[h1]at h2;cases h2;rw[h3]at h4;cases h4;exact Fz.refl _
theorem SW {α:Type}{p:α->Bool}:∀ {l:List α} {i:Nat} {x:α},l[i]?=some x->(l.take i).all p=true->p x=false->l.takeWhile p=l.take i
 | [],_,_,h,_,_=>by simp at h
 |a::l,0,x,h,_,hx=>by
  simp at h;subst h;rw[NJ,hx];rfl
 |a::l,i+1,x,h,h0,hx=>by
  rw[List.take_succ_cons,Db,Ag]at h0;rw[NJ,h0.1,List.take_succ_cons,AM rfl,SW (by simpa using h) h0.2 hx]
theorem Ou {α:Type}{p:α->Bool}:∀ {l:List α},l.all p=true->l.takeWhile p=l
 | [],_=>rfl
 |a::l,h=>by
  rw[Db,Ag]at h;rw[NJ,h.1,AM rfl,Ou h.2]
theorem XD (nu da:Int)(k:List UInt8)(ws:List (List UInt8))(nn:Bool)(hl:ws.length<=100000)(hw:∀w∈ws,w.length<=100000):Aa C0 58 [.agg [i64 nu,i64 da,AH k,BA,BA],.sl nn 1 (ws.map AH)] (.tup [As false false ⟨nu,da,k,(FG k ws).1,(FG k ws).2⟩,Ai (Fs k ws).isSome]):=by
 refine Ax.walk w1 eI rfl λF=>?_
 have cF:=Rm k;have hn:(ws.map AH).length=ws.length:=BP ..;have hpn:AC (ws.map AH):=An;unfold FG Fs;cases hk:En k with
 |none=>
  rw[hk]at cF;unfold Hi at cF;dsimp only at cF⊢;have t5:decide ((-1:Int)<0)=true:=rfl;refine AJ GB t5 cF AA AA AA AA AA ?_;exact⟨_,B7 (JU (.nil 1) (.nil 1)) (.refl _),AB.out,rfl⟩
 |some p=>
 obtain⟨ka,kb⟩:=p;have ks:=JB k;rw[hk]at cF ks;obtain⟨k1,k2,k3⟩:=ks;unfold Hi at cF;dsimp only at cF k1 k2 k3⊢;have t5:decide (((ka:Nat):Int)<0)=false:=Ap;have wk:IntKind.i64.wrap (((ka:Nat):Int)+((kb:Nat):Int))=((ka+kb:Nat):Int):=by rw[wI];omega
 by_cases h1:ws.length=ka+kb
 rotate_left
 ·have t1:(((ws.length:Nat):Int) != ((ka+kb:Nat):Int))=true:=by rw[bne_iff_ne];omega
  rw[AN h1,AN (show ¬(ws.length=ka+kb/\(ws.drop ka).all BH=true)from λq=>h1 q.1)];refine AJ GB (Cs t5 hn wk t1) cF AA AA AA AA AA ?_;exact⟨_,B7 (JU (.nil 1) (.nil 1)) (.refl _),AB.out,rfl⟩
 have t1:(((ws.length:Nat):Int) != ((ka+kb:Nat):Int))=false:=by rw[h1];exact bne_self_eq_false _
 rw[AM h1];obtain⟨ms,hms⟩:∃ms,ws.drop ka=ms:=⟨_,rfl⟩
 have hml:ms.length=kb:=by rw[<-hms,Et];omega
 rw[hms];refine AJ GB (Cs t5 hn wk t1) cF AA AA AA AA AA ?_;refine AO.loop (α:=Nat×Nat×Nat×Nat) (λp=>⟨[(1,.sl nn 1 (ws.map AH)),(2,.optr 0 0 5 0 0),(4,.optr 1 1 5 0 0),(5,Ai false),(6,i64 (ka:Nat)),(7,i64 (kb:Nat)),(8,i64 (p.1:Nat))],
  FV 1204 p.2.2.1 3 1 ((ms.take (p.1-ka)).map ED)++(FV 807 p.2.1 9 1 ((ws.take (min p.1 ka)).map AH)++[⟨1,1,25,5,[.agg [i64 0,i64 0,AH [],BA,BA]]⟩,⟨0,0,25,5,[.agg [i64 nu,i64 da,AH k,FU 807 p.2.1 1 ((ws.take (min p.1 ka)).map AH),FU 1204 p.2.2.1 1 ((ms.take (p.1-ka)).map ED)]]⟩]),p.2.2.2⟩) (λp=>ws.length-p.1)
  (λp=>p.1<=ws.length/\(ms.take (p.1-ka)).all BH=true) (0,0,0,_) ⟨Bu _,by rw[Nat.zero_sub];rfl⟩ (by dsimp only;rw[Nat.zero_sub,Nat.zero_min];exact Al) ?_
 clear t1 t5 wk cF;rintro⟨i,gN,gM,n1⟩ F ⟨h2,h3⟩;dsimp only at h2 h3⊢;rcases Aq i ws.length with h4|h4
 ·obtain⟨x,hx⟩:∃x,ws[i]?=some x:=⟨ws[i],BI h4⟩
  have hx':=HY hx;have t1:decide (((i:Nat):Int)<((ws.length:Nat):Int))=true:=Av;have wc:=wS (n:=i) (by omega);have hi2:((i:Nat):Int)<(((ws.map AH).length:Nat):Int):=by rw[hn];omega
  rcases Aq i ka with h5|h5
  ·have t2:decide (((i:Nat):Int)<((ka:Nat):Int))=true:=Av
   have e0:i-ka=0:=by omega
   have e0':i+1-ka=0:=by omega
   have em:min i ka=i:=by omega
   have em':min (i+1) ka=i+1:=by omega
   have hsn:(ws.take (i+1)).map AH=(ws.take i).map AH++[AH x]:=by rw[EG,hx,EH];rfl
   rw[e0,em,show(ms.take 0).map ED=[]from rfl,DS,DT,GP];obtain⟨TL,hTL⟩:∃TL,(ws.take i).map AH=TL:=⟨_,rfl⟩
   have hTl:TL.length=i:=by rw[<-hTL,BP,Ds];omega
   rw[hTL]at hsn⊢;rcases TL with _|⟨z,TL⟩
   ·dsimp only[DS,DT,List.nil_append]
    refine AJ GB (Cs hn t1 t2 wc) hx' AA AA AA AA AA ?_;exact⟨(i+1,_,0,_),⟨by dsimp only;omega,by dsimp only;rw[e0'];rfl⟩,by dsimp only;omega,(by dsimp only;rw[e0',em',hsn,show(ms.take 0).map ED=[]from rfl];exact Al)⟩
   ·dsimp only[C4,C5,List.cons_append,List.nil_append]
    have htk:List.take (TL.length+1) (z::TL)=z::TL:=by simp
    rw[CD]at hTl;refine AJ GB (CW hn t1 t2 wc htk) hx' AA AA AA AA AA ?_;exact⟨(i+1,_,0,_),⟨by dsimp only;omega,by dsimp only;rw[e0'];rfl⟩,by dsimp only;omega,(by dsimp only;rw[e0',em',hsn,show(ms.take 0).map ED=[]from rfl,JF];exact Al)⟩
  ·have t2:decide (((i:Nat):Int)<((ka:Nat):Int))=false:=Ap
   have em:min i ka=ka:=by omega
   have em':min (i+1) ka=ka:=by omega
   have hxm:ms[i-ka]?=some x:=by rw[<-hms,Es,show ka+(i-ka)=i by omega];exact hx
   have e1:i+1-ka=i-ka+1:=by omega
   have cI:=MR x (hw x (Bh hx));have hsn:(ms.take (i-ka+1)).map ED=(ms.take (i-ka)).map ED++[ED x]:=by rw[EG,hxm,EH];rfl
   have hal:(ms.take (i-ka+1)).all BH=BH x:=by rw[EG,hxm,H8,h3];simp
   rw[em];obtain⟨NL,hNL⟩:∃NL,(ws.take ka).map AH=NL:=⟨_,rfl⟩
   have hNl:NL.length=ka:=by rw[<-hNL,BP,Ds];omega
   obtain⟨TL,hTL⟩:∃TL,(ms.take (i-ka)).map ED=TL:=⟨_,rfl⟩
   have hTl:TL.length=i-ka:=by rw[<-hTL,BP,Ds];omega
   have hTE:=hTL;rw[hTL]at hsn⊢;rw[hNL];obtain⟨y,ys,rfl⟩:∃y ys,NL=y::ys:=by
    cases NL with
    |nil=>simp at hNl;omega
    |cons y ys=>exact⟨y,ys,rfl⟩
   cases hi:BH x with
   |false=>
    rw[hi]at cI;have hbad:¬(ws.length=ka+kb/\ms.all BH=true):=λq=>by
     have:=CF.1 q.2 x (Bh hxm)
     rw[hi]at this;cases this
    rw[AN hbad,SW hxm h3 hi];have hmd:((ms.take (i-ka)).map λw=>((Bg w:Nat):Int)).map BQ=TL:=by rw[<-hTE,List.map_map];rfl
    rcases TL with _|⟨z,TL⟩
    ·dsimp only[C4,C5,DS,DT,List.nil_append,List.cons_append]
     refine AJ GB (CK hn t1 t2) hx' cI AA AA AA AA ?_;refine⟨.tup [.agg [i64 nu,i64 da,AH k,.sl false 1 (y::ys),.sl false 1 []],Ai false],B7 (JU (JM 807 gN 9 1 (y::ys) [] _ rfl) (.nil 1)) (.refl _),?_,?_⟩
     ·rw[<-hNL];exact AB.out
     ·unfold As;dsimp only;rw[hNL,hmd];rfl
    ·dsimp only[C4,C5,List.nil_append,List.cons_append]
     refine AJ GB (CK hn t1 t2) hx' cI AA AA AA AA ?_;refine⟨.tup [.agg [i64 nu,i64 da,AH k,.sl false 1 (y::ys),.sl false 1 (z::TL)],Ai false],B7 (JU (JM 807 gN 9 1 (y::ys) [⟨1204,gM,3,1,z::TL⟩] _ rfl) (JM 1204 gM 3 1 (z::TL) [] _ rfl)) (.refl _),?_,?_⟩
     ·rw[<-hNL,<-hTE];exact AB.out
     ·unfold As;dsimp only;rw[hNL,hmd];rfl
   |true=>
    rw[hi]at cI hal;rcases TL with _|⟨z,TL⟩
    ·dsimp only[C4,C5,DS,DT,List.nil_append,List.cons_append]
     refine AJ GB (Cs hn t1 t2 wc) hx' cI AA AA AA AA ?_;exact⟨(i+1,gN,_,_),⟨by dsimp only;omega,by dsimp only;rw[e1];exact hal⟩,by dsimp only;omega,(by dsimp only;rw[e1,em',hNL,hsn];exact Al)⟩
    ·dsimp only[C4,C5,List.nil_append,List.cons_append]
     have htk:List.take (TL.length+1) (z::TL)=z::TL:=by simp
     rw[CD]at hTl;refine AJ GB (CW hn t1 t2 wc htk) hx' cI AA AA AA AA ?_;exact⟨(i+1,gN,_,_),⟨by dsimp only;omega,by dsimp only;rw[e1];exact hal⟩,by dsimp only;omega,(by dsimp only;rw[e1,em',hNL,hsn,JF];exact Al)⟩
 ·have hi:i=ws.length:=by omega
  subst hi;have t1:decide (((ws.length:Nat):Int)<((ws.length:Nat):Int))=false:=Ap;have em:min ws.length ka=ka:=by omega
  rw[Lg]at h3;rw[em,C3 (l:=ms) (by omega)];rw[AM ⟨h1,h3⟩];rw[Ou h3];have hmd:(ms.map λw=>((Bg w:Nat):Int)).map BQ=ms.map ED:=by rw[List.map_map];rfl
  obtain⟨NL,hNL⟩:∃NL,(ws.take ka).map AH=NL:=⟨_,rfl⟩
  have hNl:NL.length=ka:=by rw[<-hNL,BP,Ds];omega
  obtain⟨TL,hTE⟩:∃TL,ms.map ED=TL:=⟨_,rfl⟩
  rw[hTE]at hmd;rw[hTE,hNL];obtain⟨y,ys,rfl⟩:∃y ys,NL=y::ys:=by
   cases NL with
   |nil=>simp at hNl;omega
   |cons y ys=>exact⟨y,ys,rfl⟩
  rcases TL with _|⟨z,TL⟩
  ·dsimp only[C4,C5,DS,DT,List.nil_append,List.cons_append]
   refine AJ GB (BJ hn t1) AA AA AA AA AA AA ?_;refine⟨.tup [.agg [i64 nu,i64 da,AH k,.sl false 1 (y::ys),.sl false 1 []],Ai true],B7 (JU (JM 807 gN 9 1 (y::ys) [] _ rfl) (.nil 1)) (.refl _),?_,?_⟩
   ·rw[<-hNL];exact AB.out
   ·unfold As;dsimp only;rw[hNL,hmd];rfl
  ·dsimp only[C4,C5,List.nil_append,List.cons_append]
   refine AJ GB (BJ hn t1) AA AA AA AA AA AA ?_;refine⟨.tup [.agg [i64 nu,i64 da,AH k,.sl false 1 (y::ys),.sl false 1 (z::TL)],Ai true],B7 (JU (JM 807 gN 9 1 (y::ys) [⟨1204,gM,3,1,z::TL⟩] _ rfl) (JM 1204 gM 3 1 (z::TL) [] _ rfl)) (.refl _),?_,?_⟩
   ·rw[<-hNL,<-hTE];exact AB.out
   ·unfold As;dsimp only;rw[hNL,hmd];rfl
abbrev Ek:Dr:=[(14,[0,1,2,3,4,5,6,7,8,9,10,11,12,13,14,15,16],[17])]
open Go.Proofs Go.RowKit
set_option maxRecDepth 20000
set_option maxHeartbeats 4000000
theorem L6 (k:Nat)(h:k<10):(UInt8.ofNat (48+k)).toNat=48+k:=by
 rw[UInt8.toNat_ofNat'];omega
theorem RQ {c:UInt8}(h:Bb c=true):UInt8.ofNat (48+(c.toNat-48))=c:=by
 obtain⟨h1,h2⟩:=IL h;rw[<-UInt8.toNat_inj,L6 _ (by omega)];omega
theorem WM {n k:Nat}(hn:n≠0)(hk:k<10):Lib.decDigits (n*10+k)=Lib.decDigits n++[UInt8.ofNat (48+k)]:=by
 rw[Lib.decDigits,dif_neg (by omega)]
 congr 2
 ·omega
 ·congr 2;omega
theorem WQ (l:List UInt8)(c:UInt8):dv (l++[c])=dv l*10+(c.toNat-48):=by
 rw[Qp];simp[dv,Ff]
theorem OY:∀n:Nat,(Lib.decDigits n).all Bb=true/\dv (Lib.decDigits n)=n/\(Lib.decDigits n)≠[]:=λn=>by
 induction n using Nat.strongRecOn with
 |_ n ih=>
  have one:∀k,k<10->Bb (UInt8.ofNat (48+k))=true:=λk hk=>by
   unfold Bb;rw[L6 k hk,Ag];exact⟨Nat.ble_eq_true_of_le (by omega),Nat.ble_eq_true_of_le (by omega)⟩
  have vone:∀k,k<10->dv [UInt8.ofNat (48+k)]=k:=λk hk=>by
   show 0*10+((UInt8.ofNat (48+k)).toNat-48)=k;rw[L6 k hk];omega
  rw[Lib.decDigits];split
  ·rename_i h
   exact⟨by rw[Db,one n h];rfl,vone n h,by simp⟩
  ·rename_i h
   obtain⟨h1,h2,h3⟩:=ih (n/10) (by omega);refine⟨by rw[H8,h1,Db,one _ (Gn _ (by decide))];rfl,?_,by simp⟩;rw[Qp,h2,vone _ (Gn _ (by decide)),HI];omega
theorem YO:∀(n:Nat) (l:List UInt8),l.length=n->l≠[]->l.all Bb=true->l.head? ≠ some 48->dv l≠0/\Lib.decDigits (dv l)=l:=λn=>by
 induction n with
 |zero=>intro l h0 h1;exact AW (Hz h0) h1
 |succ n ih=>
  intro l h0 h1 h2 h3;rcases List.eq_nil_or_concat l with rfl|⟨m,c,rfl⟩
  ·exact AW rfl h1
  ·rw[List.concat_eq_append]at h0 h1 h2 h3⊢
   rw[H8,Ag]at h2;have hc:Bb c=true:=by simpa using h2.2
   obtain⟨c1,c2⟩:=IL hc;rw[WQ]
   by_cases hm:m=[]
   ·subst hm
    have hc48:c≠48:=λh=>h3 (by rw[h];rfl)
    have hcn:c.toNat≠48:=λh=>hc48 (UInt8.toNat_inj.1 h)
    have e0:dv []*10+(c.toNat-48)=c.toNat-48:=by simp[dv,Ff]
    rw[e0];refine⟨by omega,?_⟩;rw[Lib.decDigits,dif_pos (by omega),RQ hc];rfl
   ·have hh:m.head? ≠ some 48:=by
     cases m with
     |nil=>exact AW rfl hm
     |cons a m=>exact h3
    obtain⟨i1,i2⟩:=ih m (by rw[B9,HI]at h0;omega) hm h2.1 hh;refine⟨by omega,?_⟩;rw[WM i1 (by omega),i2,RQ hc]
theorem dY {z:List UInt8}(h:BH z=true)(n:Nat):Lib.itoa ((n:Nat):Int)=z↔n=dv z:=by
 have hi:Lib.itoa ((n:Nat):Int)=Lib.decDigits n:=by
  unfold Lib.itoa;rw[BU,H6]
 rw[hi];constructor
 ·intro e;rw[<-e,(OY n).2.1]
 ·intro e
  subst e;unfold BH at h;simp only[Ag,FE,Ec]at h;obtain⟨⟨⟨g1,g2⟩,g3⟩,g4⟩:=h
  by_cases hh:z.head? = some 48
  ·have hd:z.headD 0=48:=by
    cases z with
    |nil=>simp at g1
    |cons a t=>simpa using hh
   have hl:¬ 2<=z.length:=λq=>by rw[hd,BW q]at g4;simp at g4
   have:z=[48]:=by
    rcases z with _|⟨a,_|⟨b,t⟩⟩
    ·simp at g1
    ·simp at hd;rw[hd]
    ·simp at hl
   rw[this];have e0:dv [48]=0:=rfl;rw[e0];unfold Lib.decDigits;rfl
  ·exact(YO z.length z rfl (λq=>by rw[q]at g1;simp at g1) g3 hh).2
theorem Xp {k:List UInt8}{ws:List (List UInt8)}(h:(Fs k ws).isSome=true):Gg k ws=⟨0,0,k,(FG k ws).1,(FG k ws).2⟩:=by
 unfold Gg;unfold Fs at h⊢;unfold FG;cases hk:En k with
 |none=>rw[hk]at h;cases h
 |some p=>
  obtain⟨a,b⟩:=p;rw[hk]at h;dsimp only at h⊢
  by_cases h1:ws.length=a+b/\(ws.drop a).all BH=true
  ·rw[AM h1,AM h1.1,Ou h1.2]
  ·rw[AN h1]at h;cases h
theorem XO (k:List UInt8)(ws:List (List UInt8)):(FG k ws).1.length<=ws.length/\(FG k ws).2.length<=ws.length/\∀x∈(FG k ws).1,x∈ws:=by
 unfold FG;split
 ·exact⟨Bu _,Bu _,λx h=>by simp at h⟩
 ·split
  ·rename_i a b _ h
   refine⟨by rw[Ds];omega,?_,λx hx=>List.mem_of_mem_take hx⟩;rw[BP];exact Az (List.takeWhile_sublist _).length_le (by rw[Et];omega)
  ·exact⟨Bu _,Bu _,λx h=>by simp at h⟩
theorem VL (l:List UInt8)(hl:l.length<=100000):Aa C0 27 [AH l] (.tup [As false false (Dp l).1,i64 ((Dp l).2:Nat)]):=by
 refine Ax.walk w1 eq rfl λF=>?_
 have hsz:=Bl l;have cS:=V1 l hl;unfold Dp;rcases Aq 4096 l.length with h1|h1
 ·have t1:decide (((l.length:Nat):Int)>4096)=true:=Av
  rw[AM h1];refine AJ Ek (BJ hsz t1) AA AA AA AA AA AA ?_;exact⟨_,B7 C7 (.refl _),AB.out,rfl⟩
 have t1:decide (((l.length:Nat):Int)>4096)=false:=Ap;rw[AN (show ¬ 4096<l.length by omega)];have hmem:∀w∈A8 32 l,w.length<=4096:=λw hw=>Az (QU hw) h1
 have hsum:=KZ 32 l;have hlen:=GW 32 l;obtain⟨ws,hws⟩:∃ws,A8 32 l=ws:=⟨_,rfl⟩
 rw[hws]at cS hmem hsum hlen⊢;have hn:(ws.map AH).length=ws.length:=BP ..;have hcl:l.count 32<=l.length:=List.count_le_length;have wl:IntKind.i64.wrap (((ws.length:Nat):Int)-1)=((ws.length-1:Nat):Int):=by rw[wI];omega
 cases h3:ws.contains []with
 |true=>
  rw[h3,AM rfl]at cS;rw[AM (.inr rfl)];refine AJ Ek (BJ hsz t1) cS AA AA AA AA AA ?_;exact⟨_,B7 C7 (.refl _),AB.out,rfl⟩
 |false=>
 rw[h3,AN Bool.false_ne_true]at cS;rcases Aq ws.length 4 with h2|h2
 ·have t2:decide (((ws.length:Nat):Int)<4)=true:=Av
  rw[AM (.inl h2)];refine AJ Ek (Cs hsz t1 hn t2) cS AA AA AA AA AA ?_;exact⟨_,B7 C7 (.refl _),AB.out,rfl⟩
 rw[AN (show ¬(ws.length<4\/false=true) by simp;omega)];obtain⟨u0,u1,u2,ms,z,rfl⟩:=Rn h2;have hN:(u0::u1::u2::(ms++[z])).length=ms.length+4:=by simp
 have hz:(u0::u1::u2::(ms++[z])).getD ((u0::u1::u2::(ms++[z])).length-1) []=z:=by
  rw[hN];simp
 have hmid:((u0::u1::u2::(ms++[z])).take ((u0::u1::u2::(ms++[z])).length-1)).drop 3=ms:=by
  rw[hN];simp
 have g0:(u0::u1::u2::(ms++[z])).getD 0 []=u0:=rfl;have g1:(u0::u1::u2::(ms++[z])).getD 1 []=u1:=rfl;have g2:(u0::u1::u2::(ms++[z])).getD 2 []=u2:=rfl;unfold Is;rw[hz,hmid,g0,g1,g2];have m0:=hmem u0 (by simp);have m1:=hmem u1 (by simp);have mz:=hmem z (by simp);have mm:∀w∈ms,w.length<=100000:=λw hw=>Az (hmem w (by simp[hw])) (by omega)
 have hzl:z.length+1<=l.length:=by
  have:=MK (w:=z) (ws:=u0::u1::u2::(ms++[z])) (by simp)
  omega
 have hml:ms.length<=100000:=by omega
 have q0:((u0::u1::u2::(ms++[z])).map AH)[0]?=some (AH u0):=rfl;have q1:((u0::u1::u2::(ms++[z])).map AH)[1]?=some (AH u1):=rfl;have q2:((u0::u1::u2::(ms++[z])).map AH)[2]?=some (AH u2):=rfl;have qz:((u0::u1::u2::(ms++[z])).map AH)[ms.length+3]?=some (AH z):=by
  rw[Bf,show ms.length+3=(u0::u1::u2::ms).length from rfl,show u0::u1::u2::(ms++[z])=(u0::u1::u2::ms)++[z]from rfl,B8 (Ad _)];simp
 have qm:List.take (ms.length+3-3) (List.drop 3 ((u0::u1::u2::(ms++[z])).map AH))=ms.map AH:=by
  show List.take ms.length (List.map AH (ms++[z]))=_;rw[EH];exact List.take_left' (by simp)
 rw[hN]at hn;rw[hN,show ms.length+4-1=ms.length+3 from rfl]at wl;have t2':decide (((ms.length+4:Nat):Int)<4)=false:=Ap;have hp:AC ((u0::u1::u2::(ms++[z])).map AH):=An;obtain⟨qq,hQ⟩:∃qq,(u0::u1::u2::(ms++[z])).map AH=qq:=⟨_,rfl⟩
 rw[hQ]at q0 q1 q2 qz qm hn hp cS;have cZ:=MR z (by omega);have cW0:=MR u0 (by omega);have cW1:=MR u1 (by omega);clear hmem hsum hlen hcl h2 h3 g0 g1 g2 hz hmid hN hQ hws;cases i1:BH z with
 |false=>
  rw[i1]at cZ;rw[AM rfl];refine AJ Ek (CW hsz t1 hn wl t2') cS qz cZ AA AA AA ?_;exact⟨_,B7 C7 (.refl _),AB.out,rfl⟩
 |true=>
 rw[i1]at cZ;rw[AN (by simp)];have hzz:=Bl z;have wz1:IntKind.i64.wrap (((l.length:Nat):Int)-((z.length:Nat):Int))=((l.length-z.length:Nat):Int):=by rw[wI];omega
 have wz2:IntKind.i64.wrap (((l.length-z.length:Nat):Int)-1)=((l.length-z.length-1:Nat):Int):=by rw[wI];omega
 have ex:(sb l).extract 0 (l.length-z.length-1)=sb (l.take (l.length-z.length-1)):=by rw[GD];rfl
 have hb1:(((l.length-z.length-1:Nat):Int))<=((l.length:Nat):Int):=by omega
 have cK:=R0 (l.take (l.length-z.length-1)) (by rw[Ds];omega);have hiv:Bg z=dv z:=by unfold Bg;rw[AM i1]
 have hcq:=dY i1 (Bs (l.take (l.length-z.length-1)));obtain⟨pre,hpre⟩:∃pre,l.take (l.length-z.length-1)=pre:=⟨_,rfl⟩
 rw[hpre]at ex cK hcq⊢;obtain⟨ck,hck⟩:∃ck,Lib.itoa (Bs pre:Nat)=ck:=⟨_,rfl⟩
 rw[hck]at hcq⊢;obtain⟨cn,hcn⟩:∃cn,Bs pre=cn:=⟨_,rfl⟩
 rw[hcn]at cK hcq;rw[hiv]at cZ;have cP:=XD (Bg u0:Nat) (Bg u1:Nat) u2 ms false hml mm
 by_cases h5:cn=dv z
 rotate_left
 ·have t3:(((dv z:Nat):Int) != ((cn:Nat):Int))=true:=by rw[bne_iff_ne];omega
  rw[AM (λq=>h5 (hcq.1 q))];refine AJ Ek (CW hsz t1 hn wl t2') cS qz cZ AA AA AA ?_;refine AJ Ek (CL hsz hzz wz1 wz2 kN ex t3) cK AA AA AA AA AA ?_;exact⟨_,B7 C7 (.refl _),AB.out,rfl⟩
 have t3:(((dv z:Nat):Int) != ((cn:Nat):Int))=false:=by rw[h5];exact bne_self_eq_false _
 rw[AN (λq=>q (hcq.2 h5))];refine AJ Ek (CW hsz t1 hn wl t2') cS qz cZ AA AA AA ?_;refine AJ Ek (CL hsz hzz wz1 wz2 kN ex t3) cK AA AA AA AA AA ?_;refine AJ Ek kB q0 cW0 AA AA AA AA ?_;refine AJ Ek kB q1 AA AA AA AA AA ?_;refine cI cW1 ?_;obtain⟨r1,r2,r3⟩:=XO u2 ms;have cE:=QR false false ⟨(Bg u0:Nat),(Bg u1:Nat),u2,(FG u2 ms).1,(FG u2 ms).2⟩ (by dsimp only;omega) (by dsimp only;omega) (λs hs=>mm s (r3 s hs));unfold As at cE cP;dsimp only at cE cP;have hpr:=Xp (k:=u2) (ws:=ms);obtain⟨pe,hpe⟩:∃pe,Gg u2 ms=pe:=⟨_,rfl⟩
 rw[hpe]at hpr⊢;obtain⟨rd1,hr1⟩:∃x,(FG u2 ms).1=x:=⟨_,rfl⟩
 obtain⟨rd2,hr2⟩:∃x,(FG u2 ms).2=x:=⟨_,rfl⟩
 rw[hr1,hr2]at cE cP hpr;obtain⟨po,hpo⟩:∃b,(Fs u2 ms).isSome=b:=⟨_,rfl⟩
 rw[hpo]at cP hpr⊢;refine AO.weak ⟨[(2,.optr 0 0 5 0 0),(3,i64 0),(4,.sl false 1 qq),(8,i64 (Bg u0:Nat)),(9,Ai (BH u0)),(10,i64 (Bg u1:Nat)),(11,Ai (BH u1))],[⟨0,0,25,5,[.agg [i64 0,i64 0,AH [],BA,BA]]⟩],67⟩ Al ?_;clear hsz cS t1 t2' q0 q1 qz cZ cW0 cW1 wz1 wz2 ex cK hzz hb1 hcq hr1 hr2 hpe r1 r2 r3;generalize BH u0=b0 at*;generalize BH u1=b1 at*;generalize Bg u0=v0 at*;generalize Bg u1=v1 at*;have qm':List.take (ms.length+3-(3:Int).toNat) (List.drop ((3:Int).toNat) qq)=ms.map AH:=qm;refine AO.seq ?_;refine ND w1 1400 [0,1,2,3,4,5,6,7,8,9,10,11,12,13,14,15,16] [17] 16 15 [12,10,9,8,7,6,5,4,3,2,1,0,11,13,15] (by kernel_rfl) (by kernel_rfl) ?_;refine BC ?_;refine NT kN ?_;refine IJ rfl rfl rfl rfl ?_;refine Mk (λ_ _=>rfl) (by exact Bz) ⟨rfl,by omega⟩ q2 ?_;refine BC ?_;refine NT (Cs kN hn wl qm') ?_;refine IJ rfl rfl rfl rfl ?_;refine BC ?_;refine DG (by exact Bz) ?_;refine BC ?_;refine CX.same _ cP An ?_;refine BC ?_
 repeat(first|(refine IJ rfl rfl rfl rfl ?_;first|refine El (λ_ _=>rfl) ?_|refine Ia rfl rfl rfl (by(try dsimp only);(try simp only[]);exact rfl) ?_)|(refine OJ rfl rfl rfl ?_;first|refine OX (λ_ _=>rfl) ?_|refine Ov rfl rfl rfl (by(try dsimp only);(try simp only[]);exact rfl) ?_)|(refine OI rfl rfl rfl rfl ?_;refine El (λ_ _=>rfl) ?_))
 try refine OB ?_
 refine BC ?_
 try simp only[]
 refine DG ⟨trivial,.inl AA⟩ ?_;cases b0
 ·rw[AN (by simp)]
  refine AJ Ek kB AA AA AA AA AA AA ?_;exact⟨_,B7 C7 (.refl _),AB.out,rfl⟩
 cases b1
 ·rw[AN (by simp)]
  refine AJ Ek kB AA AA AA AA AA AA ?_;exact⟨_,B7 C7 (.refl _),AB.out,rfl⟩
 cases po
 ·rw[AN (by simp)]
  refine AJ Ek kB AA AA AA AA AA AA ?_;exact⟨_,B7 C7 (.refl _),AB.out,rfl⟩
 rw[hpr rfl];dsimp only;obtain⟨ce,hce⟩:∃ce,Cq ⟨(v0:Nat),(v1:Nat),u2,rd1,rd2⟩=ce:=⟨_,rfl⟩
 rw[hce]at cE;rw[hce]
 by_cases h6:ce=0
 rotate_left
 ·have e6:(((ce:Nat):Int) != 0)=true:=by rw[bne_iff_ne];omega
  rw[AN (λq=>h6 q.2.2.2)];refine AJ Ek e6 cE AA AA AA AA AA ?_;exact⟨_,B7 C7 (.refl _),AB.out,rfl⟩
 have e6:(((ce:Nat):Int) != 0)=false:=by rw[h6];rfl
 rw[AM ⟨rfl,rfl,rfl,h6⟩];refine AJ Ek e6 cE AA AA AA AA AA ?_;exact⟨_,.refl _,AB.out,rfl⟩
end Go.Ide
