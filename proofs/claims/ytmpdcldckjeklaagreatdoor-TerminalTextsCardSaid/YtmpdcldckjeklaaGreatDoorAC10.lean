/- The layer of own lemmas and contracts, part 10. -/
import Derived.Test.YtmpdcldckjeklaaGreatDoorAC9
import Derived.Test.YtmpdcldckjeklaaGreatDoorAC8
set_option linter.unusedVariables false
set_option linter.unusedSimpArgs false
namespace Go.Ide
open Go.Proofs Go.RowKit
set_option maxRecDepth 20000
set_option maxHeartbeats 4000000
theorem UT (b1 b2:Bool)(e:FY)(h1:e.names.length<=100000)(h2:e.masses.length<=100000)(h3:∀s∈e.names,s.length<=100000):Af C0 31 [Br b1 b2 e] (i64 (Ib e:Nat)):=by
 refine BN.walk w1 bu rfl λF=>?_
 obtain⟨num,day,kind,names,masses⟩:=e;dsimp only at h1 h2 h3;have cF:=Q8 kind;unfold Ib Br;dsimp only;have hn:(names.map AR).length=names.length:=Bq ..;have hm:(masses.map B5).length=masses.length:=Bq ..;have hpn:AT (names.map AR):=A7;have hpm:AT (masses.map B5):=A7;rcases Int.lt_or_le num 1 with a1|a1
 ·have t1:decide (num<1)=true:=BZ a1
  refine AS Ah t1 AA AA AA AA AA AA ?_;exact An (by rw[AL (.inl a1)];rfl) AB.out
 have t1:decide (num<1)=false:=Ap;rcases Int.lt_or_le 1000 num with a2|a2
 ·have t2:decide (num>1000)=true:=BZ a2
  refine AS Ah (Be t1 t2) AA AA AA AA AA AA ?_;exact An (by rw[AL (.inr a2)];rfl) AB.out
 have t2:decide (num>1000)=false:=Ap;rw[AM (show ¬(num<1\/num>1000) by omega)];rcases Int.lt_or_le day 0 with a3|a3
 ·have t3:decide (day<0)=true:=BZ a3
  refine AS Ah (Cx t1 t2 t3) AA AA AA AA AA AA ?_;exact An (by rw[AL (.inl a3)];rfl) AB.out
 have t3:decide (day<0)=false:=Ap;rcases Int.lt_or_le 100000 day with a4|a4
 ·have t4:decide (day>100000)=true:=BZ a4
  refine AS Ah (Dz t1 t2 t3 t4) AA AA AA AA AA AA ?_;exact An (by rw[AL (.inr a4)];rfl) AB.out
 have t4:decide (day>100000)=false:=Ap;rw[AM (show ¬(day<0\/day>100000) by omega)];cases hk:Ey kind with
 |none=>
  rw[hk]at cF;unfold HO at cF;dsimp only at cF⊢;have t5:decide ((-1:Int)<0)=true:=rfl;refine AS Ah (Da t1 t2 t3 t4 t5) cF AA AA AA AA AA ?_;exact An rfl AB.out
 |some p=>
 obtain⟨ka,kb⟩:=p;have ks:=NS kind;rw[hk]at cF ks;obtain⟨k1,k2,k3⟩:=ks;unfold HO at cF;dsimp only at cF k1 k2 k3⊢;have t5:decide (((ka:Nat):Int)<0)=false:=Ap
 by_cases a5:names.length=ka
 rotate_left
 ·have t6:(((names.length:Nat):Int) != ((ka:Nat):Int))=true:=by rw[bne_iff_ne];omega
  rw[AL (.inl a5)];refine AS Ah (Db t1 t2 t3 t4 t5 hn t6) cF AA AA AA AA AA ?_;exact An rfl AB.out
 have t6:(((names.length:Nat):Int) != ((ka:Nat):Int))=false:=by rw[a5];exact bne_self_eq_false _
 by_cases a6:masses.length=kb
 rotate_left
 ·have t7:(((masses.length:Nat):Int) != ((kb:Nat):Int))=true:=by rw[bne_iff_ne];omega
  rw[AL (.inr a6)];refine AS Ah (Db t1 t2 t3 t4 t5 hn (Cx hm t6 t7)) cF AA AA AA AA AA ?_;exact An rfl AB.out
 have t7:(((masses.length:Nat):Int) != ((kb:Nat):Int))=false:=by rw[a6];exact bne_self_eq_false _
 rw[AM (show ¬(names.length≠ka\/masses.length≠kb) by omega)];refine AS Ah (Db t1 t2 t3 t4 t5 hn (Cx hm t6 t7)) cF AA AA AA AA AA ?_;refine AQ.loop (α:=Nat×Nat) (λp=>⟨[(1,.optr 0 0 5 0 0),(2,i64 0),(3,i64 (ka:Nat)),(4,i64 (kb:Nat)),(5,i64 (p.1:Nat))],[⟨0,0,26,5,[.agg [i64 num,i64 day,AR kind,.sl b1 1 (names.map AR),.sl b2 1 (masses.map B5)]]⟩],p.2⟩) (λp=>ka-p.1)
  (λp=>p.1<=ka/\(names.take p.1).any Cz=false) (0,_) ⟨CJ _,rfl⟩ As ?_
 clear cF t1 t2 t3 t4 t5 t6 t7;rintro⟨i,n1⟩ F ⟨h4,h5⟩;dsimp only at h4 h5⊢;rcases Ao i ka with h6|h6
 ·obtain⟨x,hx⟩:∃x,names[i]?=some x:=⟨names[i],CG⟩
  have t1:decide (((i:Nat):Int)<((ka:Nat):Int))=true:=Ay;have hx':=Iz hx;have wc:=wS (n:=i) (by omega);have cN:=cU x (Ar (h3 x (Bc hx)) (by omega));have hi2:((i:Nat):Int)<(((names.map AR).length:Nat):Int):=by rw[hn];omega
  cases hb:Dp x with
  |true=>
   rw[hb]at cN;have h7:=Lc (p:=Cz) hx h5 (by unfold Cz;rw[hb];rfl);refine AS Ah (Be t1 wc) hx' cN AA AA AA AA ?_;exact⟨(i+1,_),⟨by dsimp only;omega,h7⟩,by dsimp only;omega,As⟩
  |false=>
   rw[hb]at cN;have h7:=(Iv (p:=Cz) hx (by unfold Cz;rw[hb];rfl) h5).1;refine AS Ah t1 hx' cN AA AA AA AA ?_;exact An (by rw[h7];rfl) AB.out
 have hi:i=ka:=by omega
 subst hi;have t1:decide (((i:Nat):Int)<((i:Nat):Int))=false:=Ap;rw[K8]at h5;rw[h5];refine AS Ah t1 AA AA AA AA AA AA ?_;refine AQ.loop (α:=Nat×Nat) (λp=>⟨[(1,.optr 0 0 5 0 0),(2,i64 0),(4,i64 (kb:Nat)),(6,i64 (p.1:Nat))],[⟨0,0,26,5,[.agg [i64 num,i64 day,AR kind,.sl b1 1 (names.map AR),.sl b2 1 (masses.map B5)]]⟩],p.2⟩) (λp=>kb-p.1)
  (λp=>p.1<=kb/\(masses.take p.1).any Cj=false) (0,_) ⟨CJ _,rfl⟩ As ?_
 clear t1 h4 h5 h6;rintro⟨j,n2⟩ F ⟨h4,h5⟩;dsimp only at h4 h5⊢;rcases Ao j kb with h6|h6
 ·obtain⟨x,hx⟩:∃x,masses[j]?=some x:=⟨masses[j],CG⟩
  have t1:decide (((j:Nat):Int)<((kb:Nat):Int))=true:=Ay;have hx':(masses.map B5)[j]?=some (i64 x):=by rw[Bj,hx];rfl
  have wc:=wS (n:=j) (by omega);have hi2:((j:Nat):Int)<(((masses.map B5).length:Nat):Int):=by rw[hm];omega
  rcases Int.lt_or_le x 0 with g1|g1
  ·have t2:decide (x<0)=true:=BZ g1
   have h7:=(Iv (p:=Cj) hx (by unfold Cj;rw[t2];rfl) h5).1;refine AS Ah (Be t1 t2) hx' AA AA AA AA AA ?_;exact An (by rw[h7];rfl) AB.out
  have t2:decide (x<0)=false:=Ap;rcases Int.lt_or_le 999999999 x with g2|g2
  ·have t3:decide (x>999999999)=true:=BZ g2
   have h7:=(Iv (p:=Cj) hx (by unfold Cj;rw[t2,t3];rfl) h5).1;refine AS Ah (Cx t1 t2 t3) hx' AA AA AA AA AA ?_;exact An (by rw[h7];rfl) AB.out
  have t3:decide (x>999999999)=false:=Ap;have h7:=Lc (p:=Cj) hx h5 (by unfold Cj;rw[t2,t3];rfl);refine AS Ah (Dz t1 t2 t3 wc) hx' AA AA AA AA AA ?_;exact⟨(j+1,_),⟨by dsimp only;omega,h7⟩,by dsimp only;omega,As⟩
 have hj:j=kb:=by omega
 subst hj;have t1:decide (((j:Nat):Int)<((j:Nat):Int))=false:=Ap;rw[K8]at h5;rw[h5];refine AS Ah t1 AA AA AA AA AA AA ?_;exact An rfl AB.out
abbrev Ff:Dr:=[(8,[0,1,2,3,4,5,6],[7,8,9])]
open Go.Proofs Go.RowKit
set_option maxRecDepth 20000
set_option maxHeartbeats 4000000
def Eo (k:List UInt8)(ws:List (List UInt8)):List (List UInt8)×List Int:=match Ey k with
 |none=>([],[])
 |some (a,b)=>if ws.length=a+b then(ws.take a,((ws.drop a).takeWhile BG).map λw=>((BY w:Nat):Int))else([],[])
theorem I6 {H:Hp}{a b:Int}{k:List UInt8}{x y x' y':D}(h1:Fz H [] x x')(h2:Fz H [] y y'):Fz H [] (.agg [i64 a,i64 b,AR k,x,y]) (.agg [i64 a,i64 b,AR k,x',y']):=by
 refine .agg rfl λi d d' hd hd'=>?_
 match i with
 | 0=>simp at hd hd';subst hd;subst hd';exact .refl _
 | 1=>simp at hd hd';subst hd;subst hd';exact .refl _
 | 2=>simp at hd hd';subst hd;subst hd';exact .refl _
 | 3=>simp at hd hd';subst hd;subst hd';exact h1
 | 4=>simp at hd hd';subst hd;subst hd';exact h2
 |i+5=>simp at hd
theorem Iw (K g T sz:Nat)(l:List D)(H1 H2:Hp)(h:Hp.get H1 K=none):Fz (H1++(GH K g T sz l++H2)) [] (GG K g sz l) (.sl false sz l):=by
 cases l with
 |nil=>exact .nil sz
 |cons x l=>
  have hg:∀H1:Hp,Hp.get H1 K=none->Hp.get (H1++(GH K g T sz (x::l)++H2)) K=some ⟨K,g,T,sz,x::l⟩:=λH1=>by
   induction H1 with
   |nil=>intro _;simp[GH,Hp.get]
   |cons e r ih=>
    intro h;simp only[Hp.get]at h;rw[Hb];simp only[Hp.get];cases hb:Nat.beq e.k K with
    |true=>rw[hb]at h;cases h
    |false=>rw[hb]at h;exact ih h
  refine .osl (e:=⟨K,g,T,sz,x::l⟩) (hg H1 h) rfl rfl rfl (by simp) (by simp) (λj d d' h1 h2=>?_) λj d d' q c c' h1 h2 h3 h4=>?_
  ·rw[Bx]at h1;rw[h1]at h2;cases h2;rfl
  ·rw[Bx]at h1;rw[h1]at h2;cases h2;rw[h3]at h4;cases h4;exact Fz.refl _
theorem Rn {α:Type}{p:α->Bool}:∀ {l:List α} {i:Nat} {x:α},l[i]?=some x->(l.take i).all p=true->p x=false->l.takeWhile p=l.take i
 | [],_,_,h,_,_=>by simp at h
 |a::l,0,x,h,_,hx=>by
  simp at h;subst h;rw[Mh,hx];rfl
 |a::l,i+1,x,h,h0,hx=>by
  rw[List.take_succ_cons,DF,Ad]at h0;rw[Mh,h0.1,List.take_succ_cons,AL rfl,Rn (by simpa using h) h0.2 hx]
theorem Ny {α:Type}{p:α->Bool}:∀ {l:List α},l.all p=true->l.takeWhile p=l
 | [],_=>rfl
 |a::l,h=>by
  rw[DF,Ad]at h;rw[Mh,h.1,AL rfl,Ny h.2]
theorem Vb (nu da:Int)(k:List UInt8)(ws:List (List UInt8))(nn:Bool)(hl:ws.length<=100000)(hw:∀w∈ws,w.length<=100000):Af C0 30 [.agg [i64 nu,i64 da,AR k,BC,BC],.sl nn 1 (ws.map AR)] (.tup [Br false false ⟨nu,da,k,(Eo k ws).1,(Eo k ws).2⟩,Al (FQ k ws).isSome]):=by
 refine BN.walk w1 bt rfl λF=>?_
 have cF:=Q8 k;have hn:(ws.map AR).length=ws.length:=Bq ..;have hpn:AT (ws.map AR):=A7;unfold Eo FQ;cases hk:Ey k with
 |none=>
  rw[hk]at cF;unfold HO at cF;dsimp only at cF⊢;have t5:decide ((-1:Int)<0)=true:=rfl;refine AS Ff t5 cF AA AA AA AA AA ?_;exact⟨_,Bp (I6 (.nil 1) (.nil 1)) (.refl _),AB.out,rfl⟩
 |some p=>
 obtain⟨ka,kb⟩:=p;have ks:=NS k;rw[hk]at cF ks;obtain⟨k1,k2,k3⟩:=ks;unfold HO at cF;dsimp only at cF k1 k2 k3⊢;have t5:decide (((ka:Nat):Int)<0)=false:=Ap;have wk:IntKind.i64.wrap (((ka:Nat):Int)+((kb:Nat):Int))=((ka+kb:Nat):Int):=by rw[wI];omega
 by_cases h1:ws.length=ka+kb
 rotate_left
 ·have t1:(((ws.length:Nat):Int) != ((ka+kb:Nat):Int))=true:=by rw[bne_iff_ne];omega
  rw[AM h1,AM (show ¬(ws.length=ka+kb/\(ws.drop ka).all BG=true)from λq=>h1 q.1)];refine AS Ff (Dz t5 hn wk t1) cF AA AA AA AA AA ?_;exact⟨_,Bp (I6 (.nil 1) (.nil 1)) (.refl _),AB.out,rfl⟩
 have t1:(((ws.length:Nat):Int) != ((ka+kb:Nat):Int))=false:=by rw[h1];exact bne_self_eq_false _
 rw[AL h1];obtain⟨ms,hms⟩:∃ms,ws.drop ka=ms:=⟨_,rfl⟩
 have hml:ms.length=kb:=by rw[<-hms,Hd];omega
 rw[hms];refine AS Ff (Dz t5 hn wk t1) cF AA AA AA AA AA ?_;refine AQ.loop (α:=Nat×Nat×Nat×Nat) (λp=>⟨[(1,.sl nn 1 (ws.map AR)),(2,.optr 0 0 5 0 0),(4,.optr 1 1 5 0 0),(5,Al false),(6,i64 (ka:Nat)),(7,i64 (kb:Nat)),(8,i64 (p.1:Nat))],
  GH 1204 p.2.2.1 3 1 ((ms.take (p.1-ka)).map Dv)++(GH 807 p.2.1 9 1 ((ws.take (min p.1 ka)).map AR)++[⟨1,1,26,5,[.agg [i64 0,i64 0,AR [],BC,BC]]⟩,⟨0,0,26,5,[.agg [i64 nu,i64 da,AR k,GG 807 p.2.1 1 ((ws.take (min p.1 ka)).map AR),GG 1204 p.2.2.1 1 ((ms.take (p.1-ka)).map Dv)]]⟩]),p.2.2.2⟩) (λp=>ws.length-p.1)
  (λp=>p.1<=ws.length/\(ms.take (p.1-ka)).all BG=true) (0,0,0,_) ⟨CJ _,by rw[Nat.zero_sub];rfl⟩ (by dsimp only;rw[Nat.zero_sub,Nat.zero_min];exact As) ?_
 clear t1 t5 wk cF;rintro⟨i,gN,gM,n1⟩ F ⟨h2,h3⟩;dsimp only at h2 h3⊢;rcases Ao i ws.length with h4|h4
 ·obtain⟨x,hx⟩:∃x,ws[i]?=some x:=⟨ws[i],BM h4⟩
  have hx':=Iz hx;have t1:decide (((i:Nat):Int)<((ws.length:Nat):Int))=true:=Ay;have wc:=wS (n:=i) (by omega);have hi2:((i:Nat):Int)<(((ws.map AR).length:Nat):Int):=by rw[hn];omega
  rcases Ao i ka with h5|h5
  ·have t2:decide (((i:Nat):Int)<((ka:Nat):Int))=true:=Ay
   have e0:i-ka=0:=by omega
   have e0':i+1-ka=0:=by omega
   have em:min i ka=i:=by omega
   have em':min (i+1) ka=i+1:=by omega
   have hsn:(ws.take (i+1)).map AR=(ws.take i).map AR++[AR x]:=by rw[E8,hx,ER];rfl
   rw[e0,em,show(ms.take 0).map Dv=[]from rfl,F7,F8,Gv];obtain⟨TL,hTL⟩:∃TL,(ws.take i).map AR=TL:=⟨_,rfl⟩
   have hTl:TL.length=i:=by rw[<-hTL,Bq,EQ];omega
   rw[hTL]at hsn⊢;rcases TL with _|⟨z,TL⟩
   ·dsimp only[F7,F8,List.nil_append]
    refine AS Ff (Dz hn t1 t2 wc) hx' AA AA AA AA AA ?_;exact⟨(i+1,_,0,_),⟨by dsimp only;omega,by dsimp only;rw[e0'];rfl⟩,by dsimp only;omega,(by dsimp only;rw[e0',em',hsn,show(ms.take 0).map Dv=[]from rfl];exact As)⟩
   ·dsimp only[FH,FJ,List.cons_append,List.nil_append]
    have htk:List.take (TL.length+1) (z::TL)=z::TL:=by simp
    rw[CY]at hTl;refine AS Ff (Da hn t1 t2 wc htk) hx' AA AA AA AA AA ?_;exact⟨(i+1,_,0,_),⟨by dsimp only;omega,by dsimp only;rw[e0'];rfl⟩,by dsimp only;omega,(by dsimp only;rw[e0',em',hsn,show(ms.take 0).map Dv=[]from rfl,LM];exact As)⟩
  ·have t2:decide (((i:Nat):Int)<((ka:Nat):Int))=false:=Ap
   have em:min i ka=ka:=by omega
   have em':min (i+1) ka=ka:=by omega
   have hxm:ms[i-ka]?=some x:=by rw[<-hms,EP,show ka+(i-ka)=i by omega];exact hx
   have e1:i+1-ka=i-ka+1:=by omega
   have cI:=Lx x (hw x (Bc hx));have hsn:(ms.take (i-ka+1)).map Dv=(ms.take (i-ka)).map Dv++[Dv x]:=by rw[E8,hxm,ER];rfl
   have hal:(ms.take (i-ka+1)).all BG=BG x:=by rw[E8,hxm,IZ,h3];simp
   rw[em];obtain⟨NL,hNL⟩:∃NL,(ws.take ka).map AR=NL:=⟨_,rfl⟩
   have hNl:NL.length=ka:=by rw[<-hNL,Bq,EQ];omega
   obtain⟨TL,hTL⟩:∃TL,(ms.take (i-ka)).map Dv=TL:=⟨_,rfl⟩
   have hTl:TL.length=i-ka:=by rw[<-hTL,Bq,EQ];omega
   have hTE:=hTL;rw[hTL]at hsn⊢;rw[hNL];obtain⟨y,ys,rfl⟩:∃y ys,NL=y::ys:=by
    cases NL with
    |nil=>simp at hNl;omega
    |cons y ys=>exact⟨y,ys,rfl⟩
   cases hi:BG x with
   |false=>
    rw[hi]at cI;have hbad:¬(ws.length=ka+kb/\ms.all BG=true):=λq=>by
     have:=CK.1 q.2 x (Bc hxm)
     rw[hi]at this;cases this
    rw[AM hbad,Rn hxm h3 hi];have hmd:((ms.take (i-ka)).map λw=>((BY w:Nat):Int)).map B5=TL:=by rw[<-hTE,List.map_map];rfl
    rcases TL with _|⟨z,TL⟩
    ·dsimp only[FH,FJ,F7,F8,List.nil_append,List.cons_append]
     refine AS Ff (Cx hn t1 t2) hx' cI AA AA AA AA ?_;refine⟨.tup [.agg [i64 nu,i64 da,AR k,.sl false 1 (y::ys),.sl false 1 []],Al false],Bp (I6 (Iw 807 gN 9 1 (y::ys) [] _ rfl) (.nil 1)) (.refl _),?_,?_⟩
     ·rw[<-hNL];exact AB.out
     ·unfold Br;dsimp only;rw[hNL,hmd];rfl
    ·dsimp only[FH,FJ,List.nil_append,List.cons_append]
     refine AS Ff (Cx hn t1 t2) hx' cI AA AA AA AA ?_;refine⟨.tup [.agg [i64 nu,i64 da,AR k,.sl false 1 (y::ys),.sl false 1 (z::TL)],Al false],Bp (I6 (Iw 807 gN 9 1 (y::ys) [⟨1204,gM,3,1,z::TL⟩] _ rfl) (Iw 1204 gM 3 1 (z::TL) [] _ rfl)) (.refl _),?_,?_⟩
     ·rw[<-hNL,<-hTE];exact AB.out
     ·unfold Br;dsimp only;rw[hNL,hmd];rfl
   |true=>
    rw[hi]at cI hal;rcases TL with _|⟨z,TL⟩
    ·dsimp only[FH,FJ,F7,F8,List.nil_append,List.cons_append]
     refine AS Ff (Dz hn t1 t2 wc) hx' cI AA AA AA AA ?_;exact⟨(i+1,gN,_,_),⟨by dsimp only;omega,by dsimp only;rw[e1];exact hal⟩,by dsimp only;omega,(by dsimp only;rw[e1,em',hNL,hsn];exact As)⟩
    ·dsimp only[FH,FJ,List.nil_append,List.cons_append]
     have htk:List.take (TL.length+1) (z::TL)=z::TL:=by simp
     rw[CY]at hTl;refine AS Ff (Da hn t1 t2 wc htk) hx' cI AA AA AA AA ?_;exact⟨(i+1,gN,_,_),⟨by dsimp only;omega,by dsimp only;rw[e1];exact hal⟩,by dsimp only;omega,(by dsimp only;rw[e1,em',hNL,hsn,LM];exact As)⟩
 ·have hi:i=ws.length:=by omega
  subst hi;have t1:decide (((ws.length:Nat):Int)<((ws.length:Nat):Int))=false:=Ap;have em:min ws.length ka=ka:=by omega
  rw[K8]at h3;rw[em,E9 (l:=ms) (by omega)];rw[AL ⟨h1,h3⟩];rw[Ny h3];have hmd:(ms.map λw=>((BY w:Nat):Int)).map B5=ms.map Dv:=by rw[List.map_map];rfl
  obtain⟨NL,hNL⟩:∃NL,(ws.take ka).map AR=NL:=⟨_,rfl⟩
  have hNl:NL.length=ka:=by rw[<-hNL,Bq,EQ];omega
  obtain⟨TL,hTE⟩:∃TL,ms.map Dv=TL:=⟨_,rfl⟩
  rw[hTE]at hmd;rw[hTE,hNL];obtain⟨y,ys,rfl⟩:∃y ys,NL=y::ys:=by
   cases NL with
   |nil=>simp at hNl;omega
   |cons y ys=>exact⟨y,ys,rfl⟩
  rcases TL with _|⟨z,TL⟩
  ·dsimp only[FH,FJ,F7,F8,List.nil_append,List.cons_append]
   refine AS Ff (Be hn t1) AA AA AA AA AA AA ?_;refine⟨.tup [.agg [i64 nu,i64 da,AR k,.sl false 1 (y::ys),.sl false 1 []],Al true],Bp (I6 (Iw 807 gN 9 1 (y::ys) [] _ rfl) (.nil 1)) (.refl _),?_,?_⟩
   ·rw[<-hNL];exact AB.out
   ·unfold Br;dsimp only;rw[hNL,hmd];rfl
  ·dsimp only[FH,FJ,List.nil_append,List.cons_append]
   refine AS Ff (Be hn t1) AA AA AA AA AA AA ?_;refine⟨.tup [.agg [i64 nu,i64 da,AR k,.sl false 1 (y::ys),.sl false 1 (z::TL)],Al true],Bp (I6 (Iw 807 gN 9 1 (y::ys) [⟨1204,gM,3,1,z::TL⟩] _ rfl) (Iw 1204 gM 3 1 (z::TL) [] _ rfl)) (.refl _),?_,?_⟩
   ·rw[<-hNL,<-hTE];exact AB.out
   ·unfold Br;dsimp only;rw[hNL,hmd];rfl
abbrev EL:Dr:=[(14,[0,1,2,3,4,5,6,7,8,9,10,11,12,13,14,15,16],[17])]
open Go.Proofs Go.RowKit
set_option maxRecDepth 20000
set_option maxHeartbeats 4000000
theorem No (k:Nat)(h:k<10):(UInt8.ofNat (48+k)).toNat=48+k:=by
 rw[UInt8.toNat_ofNat'];omega
theorem QM {c:UInt8}(h:BR c=true):UInt8.ofNat (48+(c.toNat-48))=c:=by
 obtain⟨h1,h2⟩:=Im h;rw[<-UInt8.toNat_inj,No _ (by omega)];omega
theorem U1 {n k:Nat}(hn:n≠0)(hk:k<10):Lib.decDigits (n*10+k)=Lib.decDigits n++[UInt8.ofNat (48+k)]:=by
 rw[Lib.decDigits,dif_neg (by omega)]
 congr 2
 ·omega
 ·congr 2;omega
theorem U4 (l:List UInt8)(c:UInt8):dv (l++[c])=dv l*10+(c.toNat-48):=by
 rw[Pq];simp[dv,FB]
theorem V4:∀n:Nat,(Lib.decDigits n).all BR=true/\dv (Lib.decDigits n)=n/\(Lib.decDigits n)≠[]:=λn=>by
 induction n using Nat.strongRecOn with
 |_ n ih=>
  have one:∀k,k<10->BR (UInt8.ofNat (48+k))=true:=λk hk=>by
   unfold BR;rw[No k hk,Ad];exact⟨Nat.ble_eq_true_of_le (by omega),Nat.ble_eq_true_of_le (by omega)⟩
  have vone:∀k,k<10->dv [UInt8.ofNat (48+k)]=k:=λk hk=>by
   show 0*10+((UInt8.ofNat (48+k)).toNat-48)=k;rw[No k hk];omega
  rw[Lib.decDigits];split
  ·rename_i h
   exact⟨by rw[DF,one n h];rfl,vone n h,by simp⟩
  ·rename_i h
   obtain⟨h1,h2,h3⟩:=ih (n/10) (by omega);refine⟨by rw[IZ,h1,DF,one _ (Gw _ (by decide))];rfl,?_,by simp⟩;rw[Pq,h2,vone _ (Gw _ (by decide)),Gs];omega
theorem V8:∀(n:Nat) (l:List UInt8),l.length=n->l≠[]->l.all BR=true->l.head? ≠ some 48->dv l≠0/\Lib.decDigits (dv l)=l:=λn=>by
 induction n with
 |zero=>intro l h0 h1;exact AY (HZ h0) h1
 |succ n ih=>
  intro l h0 h1 h2 h3;rcases List.eq_nil_or_concat l with rfl|⟨m,c,rfl⟩
  ·exact AY rfl h1
  ·rw[List.concat_eq_append]at h0 h1 h2 h3⊢
   rw[IZ,Ad]at h2;have hc:BR c=true:=by simpa using h2.2
   obtain⟨c1,c2⟩:=Im hc;rw[U4]
   by_cases hm:m=[]
   ·subst hm
    have hc48:c≠48:=λh=>h3 (by rw[h];rfl)
    have hcn:c.toNat≠48:=λh=>hc48 (UInt8.toNat_inj.1 h)
    have e0:dv []*10+(c.toNat-48)=c.toNat-48:=by simp[dv,FB]
    rw[e0];refine⟨by omega,?_⟩;rw[Lib.decDigits,dif_pos (by omega),QM hc];rfl
   ·have hh:m.head? ≠ some 48:=by
     cases m with
     |nil=>exact AY rfl hm
     |cons a m=>exact h3
    obtain⟨i1,i2⟩:=ih m (by rw[Dk,Gs]at h0;omega) hm h2.1 hh;refine⟨by omega,?_⟩;rw[U1 i1 (by omega),i2,QM hc]
theorem ae {z:List UInt8}(h:BG z=true)(n:Nat):Lib.itoa ((n:Nat):Int)=z↔n=dv z:=by
 have hi:Lib.itoa ((n:Nat):Int)=Lib.decDigits n:=by
  unfold Lib.itoa;rw[Bf,Je]
 rw[hi];constructor
 ·intro e;rw[<-e,(V4 n).2.1]
 ·intro e
  subst e;unfold BG at h;simp only[Ad,FR,El]at h;obtain⟨⟨⟨g1,g2⟩,g3⟩,g4⟩:=h
  by_cases hh:z.head? = some 48
  ·have hd:z.headD 0=48:=by
    cases z with
    |nil=>simp at g1
    |cons a t=>simpa using hh
   have hl:¬ 2<=z.length:=λq=>by rw[hd,BZ q]at g4;simp at g4
   have:z=[48]:=by
    rcases z with _|⟨a,_|⟨b,t⟩⟩
    ·simp at g1
    ·simp at hd;rw[hd]
    ·simp at hl
   rw[this];have e0:dv [48]=0:=rfl;rw[e0];unfold Lib.decDigits;rfl
  ·exact(V8 z.length z rfl (λq=>by rw[q]at g1;simp at g1) g3 hh).2
theorem Vt {k:List UInt8}{ws:List (List UInt8)}(h:(FQ k ws).isSome=true):GL k ws=⟨0,0,k,(Eo k ws).1,(Eo k ws).2⟩:=by
 unfold GL;unfold FQ at h⊢;unfold Eo;cases hk:Ey k with
 |none=>rw[hk]at h;cases h
 |some p=>
  obtain⟨a,b⟩:=p;rw[hk]at h;dsimp only at h⊢
  by_cases h1:ws.length=a+b/\(ws.drop a).all BG=true
  ·rw[AL h1,AL h1.1,Ny h1.2]
  ·rw[AM h1]at h;cases h
theorem Vv (k:List UInt8)(ws:List (List UInt8)):(Eo k ws).1.length<=ws.length/\(Eo k ws).2.length<=ws.length/\∀x∈(Eo k ws).1,x∈ws:=by
 unfold Eo;split
 ·exact⟨CJ _,CJ _,λx h=>by simp at h⟩
 ·split
  ·rename_i a b _ h
   refine⟨by rw[EQ];omega,?_,λx hx=>List.mem_of_mem_take hx⟩;rw[Bq];exact Ar (List.takeWhile_sublist _).length_le (by rw[Hd];omega)
  ·exact⟨CJ _,CJ _,λx h=>by simp at h⟩
theorem UU (l:List UInt8)(hl:l.length<=100000):Af C0 6 [AR l] (.tup [Br false false (GJ l).1,i64 ((GJ l).2:Nat)]):=by
 refine BN.walk w1 dT rfl λF=>?_
 have hsz:=EI l;have cS:=Um l hl;unfold GJ;rcases Ao 4096 l.length with h1|h1
 ·have t1:decide (((l.length:Nat):Int)>4096)=true:=Ay
  rw[AL h1];refine AS EL (Be hsz t1) AA AA AA AA AA AA ?_;exact⟨_,Bp Cn (.refl _),AB.out,rfl⟩
 have t1:decide (((l.length:Nat):Int)>4096)=false:=Ap;rw[AM (show ¬ 4096<l.length by omega)];have hmem:∀w∈A9 32 l,w.length<=4096:=λw hw=>Ar (Pi hw) h1
 have hsum:=LE 32 l;have hlen:=G4 32 l;obtain⟨ws,hws⟩:∃ws,A9 32 l=ws:=⟨_,rfl⟩
 rw[hws]at cS hmem hsum hlen⊢;have hn:(ws.map AR).length=ws.length:=Bq ..;have hcl:l.count 32<=l.length:=List.count_le_length;have wl:IntKind.i64.wrap (((ws.length:Nat):Int)-1)=((ws.length-1:Nat):Int):=by rw[wI];omega
 cases h3:ws.contains []with
 |true=>
  rw[h3,AL rfl]at cS;rw[AL (.inr rfl)];refine AS EL (Be hsz t1) cS AA AA AA AA AA ?_;exact⟨_,Bp Cn (.refl _),AB.out,rfl⟩
 |false=>
 rw[h3,AM Bool.false_ne_true]at cS;rcases Ao ws.length 4 with h2|h2
 ·have t2:decide (((ws.length:Nat):Int)<4)=true:=Ay
  rw[AL (.inl h2)];refine AS EL (Dz hsz t1 hn t2) cS AA AA AA AA AA ?_;exact⟨_,Bp Cn (.refl _),AB.out,rfl⟩
 rw[AM (show ¬(ws.length<4\/false=true) by simp;omega)];obtain⟨u0,u1,u2,ms,z,rfl⟩:=Q9 h2;have hN:(u0::u1::u2::(ms++[z])).length=ms.length+4:=by simp
 have hz:(u0::u1::u2::(ms++[z])).getD ((u0::u1::u2::(ms++[z])).length-1) []=z:=by
  rw[hN];simp
 have hmid:((u0::u1::u2::(ms++[z])).take ((u0::u1::u2::(ms++[z])).length-1)).drop 3=ms:=by
  rw[hN];simp
 have g0:(u0::u1::u2::(ms++[z])).getD 0 []=u0:=rfl;have g1:(u0::u1::u2::(ms++[z])).getD 1 []=u1:=rfl;have g2:(u0::u1::u2::(ms++[z])).getD 2 []=u2:=rfl;unfold IJ;rw[hz,hmid,g0,g1,g2];have m0:=hmem u0 (by simp);have m1:=hmem u1 (by simp);have mz:=hmem z (by simp);have mm:∀w∈ms,w.length<=100000:=λw hw=>Ar (hmem w (by simp[hw])) (by omega)
 have hzl:z.length+1<=l.length:=by
  have:=Lp (w:=z) (ws:=u0::u1::u2::(ms++[z])) (by simp)
  omega
 have hml:ms.length<=100000:=by omega
 have q0:((u0::u1::u2::(ms++[z])).map AR)[0]?=some (AR u0):=rfl;have q1:((u0::u1::u2::(ms++[z])).map AR)[1]?=some (AR u1):=rfl;have q2:((u0::u1::u2::(ms++[z])).map AR)[2]?=some (AR u2):=rfl;have qz:((u0::u1::u2::(ms++[z])).map AR)[ms.length+3]?=some (AR z):=by
  rw[Bj,show ms.length+3=(u0::u1::u2::ms).length from rfl,show u0::u1::u2::(ms++[z])=(u0::u1::u2::ms)++[z]from rfl,Bw (Ag _)];simp
 have qm:List.take (ms.length+3-3) (List.drop 3 ((u0::u1::u2::(ms++[z])).map AR))=ms.map AR:=by
  show List.take ms.length (List.map AR (ms++[z]))=_;rw[ER];exact List.take_left' (by simp)
 rw[hN]at hn;rw[hN,show ms.length+4-1=ms.length+3 from rfl]at wl;have t2':decide (((ms.length+4:Nat):Int)<4)=false:=Ap;have hp:AT ((u0::u1::u2::(ms++[z])).map AR):=A7;obtain⟨qq,hQ⟩:∃qq,(u0::u1::u2::(ms++[z])).map AR=qq:=⟨_,rfl⟩
 rw[hQ]at q0 q1 q2 qz qm hn hp cS;have cZ:=Lx z (by omega);have cW0:=Lx u0 (by omega);have cW1:=Lx u1 (by omega);clear hmem hsum hlen hcl h2 h3 g0 g1 g2 hz hmid hN hQ hws;cases i1:BG z with
 |false=>
  rw[i1]at cZ;rw[AL rfl];refine AS EL (Da hsz t1 hn wl t2') cS qz cZ AA AA AA ?_;exact⟨_,Bp Cn (.refl _),AB.out,rfl⟩
 |true=>
 rw[i1]at cZ;rw[AM (by simp)];have hzz:=EI z;have wz1:IntKind.i64.wrap (((l.length:Nat):Int)-((z.length:Nat):Int))=((l.length-z.length:Nat):Int):=by rw[wI];omega
 have wz2:IntKind.i64.wrap (((l.length-z.length:Nat):Int)-1)=((l.length-z.length-1:Nat):Int):=by rw[wI];omega
 have ex:(sb l).extract 0 (l.length-z.length-1)=sb (l.take (l.length-z.length-1)):=by rw[H9];rfl
 have hb1:(((l.length-z.length-1:Nat):Int))<=((l.length:Nat):Int):=by omega
 have cK:=WL (l.take (l.length-z.length-1)) (by rw[EQ];omega);have hiv:BY z=dv z:=by unfold BY;rw[AL i1]
 have hcq:=ae i1 (Ck (l.take (l.length-z.length-1)));obtain⟨pre,hpre⟩:∃pre,l.take (l.length-z.length-1)=pre:=⟨_,rfl⟩
 rw[hpre]at ex cK hcq⊢;obtain⟨ck,hck⟩:∃ck,Lib.itoa (Ck pre:Nat)=ck:=⟨_,rfl⟩
 rw[hck]at hcq⊢;obtain⟨cn,hcn⟩:∃cn,Ck pre=cn:=⟨_,rfl⟩
 rw[hcn]at cK hcq;rw[hiv]at cZ;have cP:=Vb (BY u0:Nat) (BY u1:Nat) u2 ms false hml mm
 by_cases h5:cn=dv z
 rotate_left
 ·have t3:(((dv z:Nat):Int) != ((cn:Nat):Int))=true:=by rw[bne_iff_ne];omega
  rw[AL (λq=>h5 (hcq.1 q))];refine AS EL (Da hsz t1 hn wl t2') cS qz cZ AA AA AA ?_;refine AS EL (Db hsz hzz wz1 wz2 kN ex t3) cK AA AA AA AA AA ?_;exact⟨_,Bp Cn (.refl _),AB.out,rfl⟩
 have t3:(((dv z:Nat):Int) != ((cn:Nat):Int))=false:=by rw[h5];exact bne_self_eq_false _
 rw[AM (λq=>q (hcq.2 h5))];refine AS EL (Da hsz t1 hn wl t2') cS qz cZ AA AA AA ?_;refine AS EL (Db hsz hzz wz1 wz2 kN ex t3) cK AA AA AA AA AA ?_;refine AS EL kB q0 cW0 AA AA AA AA ?_;refine AS EL kB q1 AA AA AA AA AA ?_;refine cI cW1 ?_;obtain⟨r1,r2,r3⟩:=Vv u2 ms;have cE:=UT false false ⟨(BY u0:Nat),(BY u1:Nat),u2,(Eo u2 ms).1,(Eo u2 ms).2⟩ (by dsimp only;omega) (by dsimp only;omega) (λs hs=>mm s (r3 s hs));unfold Br at cE cP;dsimp only at cE cP;have hpr:=Vt (k:=u2) (ws:=ms);obtain⟨pe,hpe⟩:∃pe,GL u2 ms=pe:=⟨_,rfl⟩
 rw[hpe]at hpr⊢;obtain⟨rd1,hr1⟩:∃x,(Eo u2 ms).1=x:=⟨_,rfl⟩
 obtain⟨rd2,hr2⟩:∃x,(Eo u2 ms).2=x:=⟨_,rfl⟩
 rw[hr1,hr2]at cE cP hpr;obtain⟨po,hpo⟩:∃b,(FQ u2 ms).isSome=b:=⟨_,rfl⟩
 rw[hpo]at cP hpr⊢;refine AQ.weak ⟨[(2,.optr 0 0 5 0 0),(3,i64 0),(4,.sl false 1 qq),(8,i64 (BY u0:Nat)),(9,Al (BG u0)),(10,i64 (BY u1:Nat)),(11,Al (BG u1))],[⟨0,0,26,5,[.agg [i64 0,i64 0,AR [],BC,BC]]⟩],67⟩ As ?_;clear hsz cS t1 t2' q0 q1 qz cZ cW0 cW1 wz1 wz2 ex cK hzz hb1 hcq hr1 hr2 hpe r1 r2 r3;generalize BG u0=b0 at*;generalize BG u1=b1 at*;generalize BY u0=v0 at*;generalize BY u1=v1 at*;have qm':List.take (ms.length+3-(3:Int).toNat) (List.drop ((3:Int).toNat) qq)=ms.map AR:=qm;refine AQ.seq ?_;refine Mc w1 1400 [0,1,2,3,4,5,6,7,8,9,10,11,12,13,14,15,16] [17] 16 15 [12,10,9,8,7,6,5,4,3,2,1,0,11,13,15] (by kernel_rfl) (by kernel_rfl) ?_;refine BD ?_;refine Ms kN ?_;refine Hs rfl rfl rfl rfl ?_;refine ME (λ_ _=>rfl) (by exact B7) ⟨rfl,by omega⟩ q2 ?_;refine BD ?_;refine Ms (Dz kN hn wl qm') ?_;refine Hs rfl rfl rfl rfl ?_;refine BD ?_;refine C2 (by exact B7) ?_;refine BD ?_;refine Ch.same _ cP A7 ?_;refine BD ?_
 repeat(first|(refine Hs rfl rfl rfl rfl ?_;first|refine EJ (λ_ _=>rfl) ?_|refine IC rfl rfl rfl (by(try dsimp only);(try simp only[]);exact rfl) ?_)|(refine Nm rfl rfl rfl ?_;first|refine Nn (λ_ _=>rfl) ?_|refine Nz rfl rfl rfl (by(try dsimp only);(try simp only[]);exact rfl) ?_)|(refine Nl rfl rfl rfl rfl ?_;refine EJ (λ_ _=>rfl) ?_))
 try refine Nb ?_
 refine BD ?_
 try simp only[]
 refine C2 ⟨trivial,.inl AA⟩ ?_;cases b0
 ·rw[AM (by simp)]
  refine AS EL kB AA AA AA AA AA AA ?_;exact⟨_,Bp Cn (.refl _),AB.out,rfl⟩
 cases b1
 ·rw[AM (by simp)]
  refine AS EL kB AA AA AA AA AA AA ?_;exact⟨_,Bp Cn (.refl _),AB.out,rfl⟩
 cases po
 ·rw[AM (by simp)]
  refine AS EL kB AA AA AA AA AA AA ?_;exact⟨_,Bp Cn (.refl _),AB.out,rfl⟩
 rw[hpr rfl];dsimp only;obtain⟨ce,hce⟩:∃ce,Ib ⟨(v0:Nat),(v1:Nat),u2,rd1,rd2⟩=ce:=⟨_,rfl⟩
 rw[hce]at cE;rw[hce]
 by_cases h6:ce=0
 rotate_left
 ·have e6:(((ce:Nat):Int) != 0)=true:=by rw[bne_iff_ne];omega
  rw[AM (λq=>h6 q.2.2.2)];refine AS EL e6 cE AA AA AA AA AA ?_;exact⟨_,Bp Cn (.refl _),AB.out,rfl⟩
 have e6:(((ce:Nat):Int) != 0)=false:=by rw[h6];rfl
 rw[AL ⟨rfl,rfl,rfl,h6⟩];refine AS EL e6 cE AA AA AA AA AA ?_;exact⟨_,.refl _,AB.out,rfl⟩
abbrev N4:Dr:=[(6,[0,1,2,3,4,5,6,7],[8])]
abbrev KR:Dr:=[(6,[0,1,2,3,4,5,6,7,8,9,10,11,12,13,14,15,16,17,18,19,20,21,22,23,24,25,26,27,28,29,30,31,32,33,34,35,36,37,38,39,40,41,42,43,44,45,46,47,48,49,50,51,52,53,54,55,56,57,58,59,60,61,62],[63,64,65]),(11,[0,1,2,3,4,5,6,7,8,9,10,11,12,13,14,15],[16])]
open Go.Proofs Go.RowKit
set_option maxRecDepth 20000
set_option maxHeartbeats 4000000
theorem UW (a b:Bool)(l:List Int)(hl:l.length<=100000):Af C0 16 [.sl a 1 (l.map B5),.sl b 1 (l.map B5)] (Al true):=by
 refine BN.walk w1 R0 rfl λF=>?_
 have hn:(l.map B5).length=l.length:=Bq ..;have hp:AT (l.map B5):=A7;have t0:(((l.length:Nat):Int) != ((l.length:Nat):Int))=false:=bne_self_eq_false _;refine AS N4 (Be hn t0) AA AA AA AA AA AA ?_;refine AQ.loop (α:=Nat×Nat) (λp=>⟨[(0,.sl a 1 (l.map B5)),(1,.sl b 1 (l.map B5)),(4,Al false),(5,i64 (p.1:Nat))],[],p.2⟩) (λp=>l.length-p.1) (λp=>p.1<=l.length) (0,_) (CJ _) As ?_;rintro⟨i,n1⟩ F h1;dsimp only at h1⊢;rcases Ao i l.length with h2|h2
 ·obtain⟨x,hx⟩:∃x,l[i]?=some x:=⟨l[i],BM h2⟩
  have t1:decide (((i:Nat):Int)<((l.length:Nat):Int))=true:=Ay;have hx':(l.map B5)[i]?=some (i64 x):=by rw[Bj,hx];rfl
  have wc:=wS (n:=i) (by omega);have t2:(x != x)=false:=bne_self_eq_false _;have hi2:((i:Nat):Int)<(((l.map B5).length:Nat):Int):=by rw[hn];omega
  refine AS N4 (Dz hn t1 t2 wc) hx' AA AA AA AA AA ?_;exact⟨(i+1,_),by dsimp only;omega,by dsimp only;omega,As⟩
 ·have hi:i=l.length:=by omega
  subst hi;have t1:decide (((l.length:Nat):Int)<((l.length:Nat):Int))=false:=Ap;refine AS N4 (Be hn t1) AA AA AA AA AA AA ?_;exact An rfl AB.out
theorem UV (a b:Bool)(L:List FY)(hl:L.length<=100000)(hL:∀e∈L,e.names.length<=100000/\e.masses.length<=100000):Af C0 7 [.sl a 5 (L.map (Br false false)),.sl b 5 (L.map (Br false false))] (Al true):=by
 refine BN.walk w1 dU rfl λF=>?_
 have hn:(L.map (Br false false)).length=L.length:=Bq ..;have hp:AT (L.map (Br false false)):=A7;have t0:(((L.length:Nat):Int) != ((L.length:Nat):Int))=false:=bne_self_eq_false _;refine AS KR (Be hn t0) AA AA AA AA AA AA ?_;refine AQ.loop (α:=Nat×Nat) (λp=>⟨[(0,.sl a 5 (L.map (Br false false))),(1,.sl b 5 (L.map (Br false false))),(4,Al false),(5,i64 (p.1:Nat))],[],p.2⟩) (λp=>L.length-p.1) (λp=>p.1<=L.length) (0,_) (CJ _) As ?_;rintro⟨i,n1⟩ F h1;dsimp only at h1⊢;rcases Ao i L.length with h2|h2
 ·obtain⟨x,hx⟩:∃x,L[i]?=some x:=⟨L[i],BM h2⟩
  have t1:decide (((i:Nat):Int)<((L.length:Nat):Int))=true:=Ay;obtain⟨h3,h4⟩:=hL x (Bc hx);obtain⟨num,day,kind,names,masses⟩:=x;dsimp only at h3 h4;have hx':(L.map (Br false false))[i]?=some (.agg [i64 num,i64 day,AR kind,.sl false 1 (names.map AR),.sl false 1 (masses.map B5)]):=by rw[Bj,hx];rfl
  have wc:=wS (n:=i) (by omega);have hi2:((i:Nat):Int)<(((L.map (Br false false)).length:Nat):Int):=by rw[hn];omega
  have q1:(num != num)=false:=bne_self_eq_false _;have q2:(day != day)=false:=bne_self_eq_false _;have q3:BH (sb kind) (sb kind)=true:=by rw[CW];exact BZ rfl
  have hnn:(names.map AR).length=names.length:=Bq ..;have hpn:AT (names.map AR):=A7;have hpm:AT (masses.map B5):=A7;have q4:(((names.length:Nat):Int) != ((names.length:Nat):Int))=false:=bne_self_eq_false _;have cI:=UW false false masses h4;refine AS KR (Db hn t1 q1 q2 q3 kT (Cx kF hnn q4)) hx' cI AA AA AA AA ?_;refine AQ.loop (α:=Nat×Nat) (λp=>⟨[(0,.sl a 5 (L.map (Br false false))),(1,.sl b 5 (L.map (Br false false))),(4,Al false),(5,i64 (i:Nat)),(6,i64 (p.1:Nat))],[],p.2⟩) (λp=>names.length-p.1) (λp=>p.1<=names.length) (0,_) (CJ _) As ?_;clear q1 q2 q3 q4 t0 cI;rintro⟨j,n2⟩ F h5;dsimp only at h5⊢;rcases Ao j names.length with h6|h6
  ·obtain⟨y,hy⟩:∃y,names[j]?=some y:=⟨names[j],BM h6⟩
   have hy':=Iz hy;have t2:decide (((j:Nat):Int)<((names.length:Nat):Int))=true:=Ay;have q3:BH (sb y) (sb y)=true:=by rw[CW];exact BZ rfl
   have wj:=wS (n:=j) (by omega);have hj2:((j:Nat):Int)<(((names.map AR).length:Nat):Int):=by rw[hnn];omega
   refine AS KR (GQ hn hnn t2 q3 kT wj) hx' hy' AA AA AA AA ?_;exact⟨(j+1,_),by dsimp only;omega,by dsimp only;omega,As⟩
  ·have hj:j=names.length:=by omega
   subst hj;have t2:decide (((names.length:Nat):Int)<((names.length:Nat):Int))=false:=Ap;refine AS KR (Dz hn hnn t2 wc) hx' AA AA AA AA AA ?_;exact⟨(i+1,_),by dsimp only;omega,by dsimp only;omega,As⟩
 ·have hi:i=L.length:=by omega
  subst hi;have t1:decide (((L.length:Nat):Int)<((L.length:Nat):Int))=false:=Ap;refine AS KR (Be hn t1) AA AA AA AA AA AA ?_;exact An rfl AB.out
end Go.Ide
