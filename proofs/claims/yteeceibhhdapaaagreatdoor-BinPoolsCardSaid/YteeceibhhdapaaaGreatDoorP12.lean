/- The layer of own lemmas and contracts, part 12. -/
import Derived.Test.YteeceibhhdapaaaGreatDoorP11
import Derived.Test.YteeceibhhdapaaaGreatDoorP4
import Derived.Test.YteeceibhhdapaaaGreatDoorP7
import Derived.Test.YteeceibhhdapaaaGreatDoorP9
import Derived.Shelf.Spec.SlicesGrow
import Derived.Shelf.Lay
import Derived.Ground.Names8Prog
import Derived.Laws.StructEq
import Derived.Test.YteeceibhhdapaaaGreatDoorP10
set_option linter.unusedVariables false
set_option linter.unusedSimpArgs false
namespace Go.Ide
open Go.Proofs Go.RowKit Go.Sort
set_option maxRecDepth 20000
set_option maxHeartbeats 4000000
theorem rS {l:List AG}:Df l=if Ib l≠0 then Ib l else if(Dq (Bh l)).any (λp=>CL (p.2/(Av l:Rat)))then 4 else 0:=by
 by_cases h:EC l=0<;>by_cases h2:64<(Bh l).length<;>simp[Df,Ib,h,h2]
theorem lS {l:List AG}(h:Ib l=0):EC l=0/\(Bh l).length<=64:=by
 unfold Ib at h;split at h
 ·rename_i h9;exact AY h h9
 ·split at h
  ·cases h
  ·exact⟨by omega,by omega⟩
theorem jo {g:List UInt8}(hg:g.length<=100000){l:List AG}(hf:∀x∈l,x.modr):∀x∈l.map (B9 g),x.modr:=λx hx=>by
 obtain⟨y,hy,rfl⟩:=List.mem_map.1 hx;obtain⟨a0,⟨a1,a2,a3⟩,a4⟩:=hf y hy;exact⟨a0,⟨hg,a2,a3⟩,a4⟩
theorem ak (b:Bool)(l:List AG)(g:List UInt8)(h8:l.length<=8)(hf:∀x∈l,x.modr)(hg:g.length<=100000):AK C0 16 [A0 b l,str (sb g)] (.tup [(FS (l.map (B9 g))).D,i64 (Df (l.map (B9 g)):Nat)]):=by
 refine Ai.walk w1 tC rfl λF=>?_
 have el:(((l.map AG.D).length:Nat):Int)=(l.length:Int):=by rw[Ap]
 unfold A0;obtain⟨T,hT⟩:∃T,l.map AG.D=T:=⟨_,rfl⟩
 have pT:AA (.sl b 3 T):=by rw[<-hT];exact AH
 have hTl:T.length=l.length:=by rw[<-hT,Ap]
 rw[hT];refine AJ Ad kB AB AB AB AB AB AB ?_;have hes0:List.take 0 []++T=((l.take 0).map (B9 g)++l.drop 0).map AG.D:=hT.symm;rw[hes0,BQ,hTl];refine AC.loop (α:=Nat×Nat) (λp=>⟨[(1,str (sb g)),(4,.optr 0 0 3 0 0),(6,.osl 102 4 3 0 l.length),(7,i64 (p.1:Int))],[⟨102,4,27,3,((l.take p.1).map (B9 g)++l.drop p.1).map AG.D⟩,⟨0,0,27,3,[.agg [.prim (.string ⟨#[]⟩),.prim (.int .i64 0),.prim (.slice none 0 0)]]⟩],p.2⟩) (λp=>l.length-p.1)
  (λp=>p.1<=l.length) (0,_) (BR _) AI ?_
 clear hes0 pT hT hTl;rintro⟨i,n⟩ F hi;dsimp only at hi⊢;rcases BI i l.length with h2|h2
 rotate_left
 ·have e1:=Ca h2
  have:i=l.length:=by omega
  subst this;rw[DL,JS,DS];have hlr:(l.map (B9 g)).length=l.length:=Ap ..;have hfr:=jo hg hf;have hR0:Df (l.map (B9 g))=if Ib (l.map (B9 g))≠0 then Ib (l.map (B9 g))else if(Dq (Bh (l.map (B9 g)))).any (λp=>CL (p.2/(Av (l.map (B9 g)):Rat)))then 4 else 0:=rS
  have hL0:FS (l.map (B9 g))=if Df (l.map (B9 g))≠0 then⟨[],0,[]⟩else⟨(Bi (l.map (B9 g)) 0).grain,Av (l.map (B9 g)),DQ (l.map (B9 g))⟩:=rfl
  obtain⟨R,hR⟩:∃R,l.map (B9 g)=R:=⟨_,rfl⟩
  rw[hR]at hlr hfr hR0 hL0⊢;have cC:=kj false R (by omega) (.inl (by omega)) hfr;have hfz:∀Hf,Hp.get Hf 102=none->Fz [⟨102,4,27,3,R.map AG.D⟩,⟨0,0,27,3,[.agg [.prim (.string ⟨#[]⟩),.prim (.int .i64 0),.prim (.slice none 0 0)]]⟩] Hf (.osl 102 4 3 0 l.length) (A0 false R):=λHf hn=>by
   have:=IN (H:=[⟨102,4,27,3,R.map AG.D⟩,⟨0,0,27,3,[.agg [.prim (.string ⟨#[]⟩),.prim (.int .i64 0),.prim (.slice none 0 0)]]⟩]) (Hf:=Hf) (k:=102) (g:=4) (T:=27) (sz:=3) (l:=R.map AG.D) rfl hn
   rwa [Ap,hlr]at this
  refine AJ Ad e1 AB AB AB AB AB AB ?_;refine Az.own _ (Ic cC rfl (λi a d h1 h2=>by
   match i with
   | 0=>cases h1;cases h2;exact .of (hfz [] rfl)
   |n+1=>cases h1) AH (.prim _)) ?_
  rintro d H' n' ⟨rfl,rfl,rfl⟩;rcases Nat.decEq (Ib R) 0 with g0|g0
  ·have e2:=Eo g0
   rw[AF g0]at hR0;rw[hR0,AF g0]at hL0;rw[hL0,hR0];refine AJ Ad e2 AB AB AB AB AB AB ?_;exact⟨_,Ju _ _,AA.out,rfl⟩
  have e2:=FC g0;obtain⟨g1,g3⟩:=lS g0;have cM:=uM false R (by omega) hfr g1 g3;obtain⟨Z,hZ⟩:∃Z:AG,FS R=Z:=⟨_,rfl⟩
  rw[hZ]at cM⊢;refine AJ Ad e2 AB AB AB AB AB AB ?_;refine Az.own _ (KJ [⟨0,0,27,3,[.agg [.prim (.string ⟨#[]⟩),.prim (.int .i64 0),.prim (.slice none 0 0)]]⟩] cM (.drop (.keep .nil)) ⟨hfz _ rfl,trivial⟩ AH) ?_;rintro d H2 n2 ⟨rfl,rfl,rfl⟩;unfold AG.D;refine AJ Ad kB AB AB AB AB AB AB ?_;exact AO rfl AA.out
 have e1:=CX h2;have wi:=Cf (i:=i) (by omega);obtain⟨x,hx⟩:=CQ h2;have hset:=Xa g hx;obtain⟨es,hes⟩:∃es,((l.take i).map (B9 g)++l.drop i).map AG.D=es:=⟨_,rfl⟩
 rw[hes]at hset⊢;have hm:es[i]?=some (.agg [str (sb x.grain),i64 x.mass,.sl false 2 (x.shs.map Au.D)]):=by
  rw[<-hes,BH,Et (by simp;omega)];simp only[Ap,BX,Ev (IB h2),Nat.sub_self,Gb,DM,hx,H8];rfl
 refine AC.seq ?_;refine sZ 300 ?_;refine AD e1 ?_;refine AL ?_;refine Aj ?_;refine AC.seq ?_;refine AC.block ?_;refine An w1 500 (by kernel_rfl) ?_;refine AD (At kN BQ hm) ?_;rw[hset];refine AJ Ad wi AB AB AB AB AB AB ?_;exact⟨(i+1,_),h2,by dsimp only;omega,AI⟩
theorem Sr (b:Bool)(q:Bb)(k:Nat)(hk:∀p∈q,rk p.2 k)(hk2:k<=10000)(hl:q.length<=100000):AK C0 39 [.sl b 2 (q.map BM)] (i64 (if q.any (λp=>CL p.2)then 4 else 0)):=by
 refine Ai.walk w1 tM rfl λF=>?_
 have el:(((q.map BM).length:Nat):Int)=(q.length:Int):=by rw[Ap]
 refine AJ Ad kB AB AB AB AB AB AB ?_;refine AC.loop (α:=Nat×Nat) (λp=>⟨[(0,.sl b 2 (q.map BM)),(3,i64 (p.1:Int))],[],p.2⟩) (λp=>q.length-p.1) (λp=>p.1<=q.length/\∀z∈q.take p.1,CL z.2=false) (0,_) ⟨BR _,λz h=>by simp at h⟩ AI ?_;rintro⟨i,m⟩ F ⟨hi,hB⟩;dsimp only at hi hB⊢;rcases BI i q.length with h2|h2
 rotate_left
 ·have e1:=Ca h2
  have:i=q.length:=by omega
  subst this;rw[DL]at hB;have hany:q.any (λp=>CL p.2)=false:=by
   rw[List.any_eq_false];intro p hp;rw[hB p hp];decide
  rw[AE (by rw[hany];decide)];refine AJ Ad (Ac e1 el) AB AB AB AB AB AB ?_;exact AO rfl AA.out
 have e1:=CX h2;have wi:=Cf (i:=i) (by omega);obtain⟨p,hp⟩:=CQ h2;have hm:(q.map BM)[i]?=some (.agg [str (sb p.1),str (sb (Al p.2))]):=by rw[BH,hp];rfl
 have cG:AK C0 87 [str (sb (Al p.2))] (i64 (if CL p.2 then 4 else 0)):=ZM _ _ (hk p (A8 hp)) hk2;obtain⟨bg,hbg⟩:∃q,CL p.2=q:=⟨_,rfl⟩
 rw[hbg]at cG;have n4:((4:Int) != 0)=true:=rfl;have n0:((0:Int) != 0)=false:=rfl;cases bg
 ·rw[AE (by decide)]at cG
  refine AJ Ad (Ck e1 el n0 wi kN) hm cG AB AB AB AB ?_;exact⟨(i+1,_),⟨h2,λw hw=>by
   dsimp only at hw;rw[Dv,hp]at hw;rcases List.mem_append.1 hw with h|h
   ·exact hB w h
   ·have:w=p:=by simpa using h
    rw[this];exact hbg⟩,by dsimp only;omega,AI⟩
 ·rw[AF rfl]at cG
  have hany:q.any (λp=>CL p.2)=true:=by
   rw[List.any_eq_true];exact⟨p,A8 hp,hbg⟩
  rw[AF hany];refine AJ Ad (BV e1 el n4 kN) hm cG AB AB AB AB ?_;exact AO rfl AA.out
abbrev GR:Dr:=[(8,[0,1,2,3,4,5,6,7,8,9,10,11,12,13,14,15,16,17,18,19,20],[21,22])]
open Go.Proofs Go.RowKit Go.Sort
set_option maxRecDepth 20000
set_option maxHeartbeats 4000000
def Ee (x:AG):Bb:=x.shs.map λs=>(s.lot,CA s.part*(x.mass:Rat))
theorem Vo {x:AG}(hn:(x.shs.map (·.lot)).Nodup):∀j,j<=x.shs.length->GA x j []=(Ee x).take j
 | 0,_=>rfl
 |j+1,hj=>by
  obtain⟨s,hs⟩:∃s,x.shs[j]?=some s:=⟨_,BF hj⟩
  rw[M1 x j [] hs,Vo hn j (by omega)];have hm:(Ee x)[j]?=some (s.lot,CA s.part*(x.mass:Rat)):=by unfold Ee;rw[BH,hs];rfl
  have hnot:s.lot∉Cg ((Ee x).take j):=λh=>by
   obtain⟨z,hz,h2⟩:=List.mem_map.1 h;obtain⟨i,hi⟩:=List.mem_iff_getElem?.1 hz;have hij:i<j:=by
    have:=(List.getElem?_eq_some_iff.1 hi).1
    rw[BX]at this;omega
   rw[EP,AF hij]at hi;unfold Ee at hi;rw[BH]at hi;obtain⟨t,ht,rfl⟩:=Option.map_eq_some_iff.1 hi;have e1:(x.shs.map (·.lot))[i]?=some t.lot:=by rw[BH,ht];rfl
   have e2:(x.shs.map (·.lot))[j]?=some s.lot:=by rw[BH,hs];rfl
   have a1:=List.getElem?_eq_some_iff.1 e1;have a2:=List.getElem?_eq_some_iff.1 e2
   have:i=j:=(List.getElem_inj (h₀:=a1.1) (h₁:=a2.1) hn).1 (by rw[a1.2,a2.2];exact h2)
   omega
  have hl:Fj s.lot ((Ee x).take j)=none:=by
   cases h9:Fj s.lot ((Ee x).take j)with
   |none=>rfl
   |some o=>
    obtain⟨A,B,h3,-⟩:=PO (v:=o) h9;exact AY (by rw[h3];simp[Cg]) hnot
  unfold JK;rw[hl];dsimp only;rw[(Rs (v:=CA s.part*(x.mass:Rat)) hl).2,Dv,hm];rfl
theorem ge {x:AG}(hn:(x.shs.map (·.lot)).Nodup):Bh [x]=Ee x:=by
 show GA x x.shs.length []=_;rw[Vo hn _ (Ag _),B1];unfold Ee;rw[Ap];exact Ag _
theorem lz {q:Bb}(h:Gf q):Dq q=q:=(RZ h.nd (.refl _) (IJ _) h.weak (Px _)).symm
theorem Xd (l:List AG):(DQ l).Pairwise λa b=>ltStr a.lot b.lot=true:=by
 unfold DQ;rw[List.pairwise_map,<-NI];exact j7 l
theorem Na (l:List AG)(left:Int):Bh [Ed l left]=Ee (Ed l left)/\Dq (Bh [Ed l left])=Ee (Ed l left):=by
 have hp:(Ed l left).shs.Pairwise λa b=>ltStr a.lot b.lot=true:=Xd _
 have h1:=ge (x:=Ed l left) (by
  rw[List.Nodup,List.pairwise_map];exact hp.imp λ{a b} h e=>by rw[e,swo_ltStr.irrefl]at h;cases h)
 refine⟨h1,?_⟩;rw[h1];refine lz ?_;unfold Ee;show List.Pairwise _ _;rw[List.pairwise_map];exact hp
theorem kw (b:Bool)(l:List AG)(left:Int)(h8:l.length<=8)(hf:∀x∈l,x.modr)(hp:CC l=0)(hl1:1<=left)(hs1:left<=Av l)(hs2:CZ l=true):AK C0 21 [A0 b l,i64 left] (.tup [(Hz l left).D,.sl false 2 ((Fq l left).map BM),i64 (DX l left:Nat)]):=by
 refine Ai.walk w1 tG rfl λF=>?_
 have hE:DX l left=if CC l≠0 then CC l else if left<1 then 3 else if Av l<left then 13 else if CZ l=false then 16 else if EK l (Bi l 0).grain≠0 then EK l (Bi l 0).grain
  else if Av l=left then 0 else Gq (Bh [Ed l left]):=rfl
 have hX:Hz l left=if DX l left≠0 then⟨[],0,[]⟩else⟨(Bi l 0).grain,left,DQ (l.map (B9 (Bi l 0).grain))⟩:=rfl
 have hL:Fq l left=if DX l left≠0 then[]else if Av l=left then[]else HC (Bh [Ed l left]):=rfl
 rw[AE (λh=>h hp),AE (by omega),AE (by omega),AE (by rw[hs2];decide)]at hE;obtain⟨p1,p2,p3⟩:=Ly hp;have hl0:0<l.length:=by
  rcases l with _|⟨y,l⟩
  ·exfalso
   have:Av []=0:=rfl
   omega
  ·simp
 obtain⟨x0,hx0⟩:∃x,l[0]?=some x:=⟨_,BF hl0⟩
 have hm0:(l.map AG.D)[0]?=some (.agg [str (sb x0.grain),i64 x0.mass,.sl false 2 (x0.shs.map Au.D)]):=by rw[BH,hx0];rfl
 have hgr:(Bi l 0).grain=x0.grain:=by rw[Dd hx0]
 have hg9:=(hf x0 (A8 hx0)).2.1.1;have hgn:=(IL (p2 x0 (A8 hx0))).1;have hpE:D3 l x0.grain=0:=by
  unfold D3;rw[AE (λh=>h hp),AE (by rw[hgn];decide),AE (by omega)]
 have hpN:EK l x0.grain=Df (l.map (B9 x0.grain)):=AE (λh=>h hpE);have hlt:Ed l left=⟨x0.grain,Av l-left,DQ (l.map (B9 x0.grain))⟩:=by unfold Ed;rw[hgr]
 obtain⟨q1,q2⟩:=Na l left;rw[hgr,hpN]at hE;rw[hgr]at hX;have cPo:=ak b l x0.grain h8 hf hg9;have hsR:Av (l.map (B9 x0.grain))=Av l:=by unfold Av;rw[List.map_map];rfl
 have hgR:(Bi (l.map (B9 x0.grain)) 0).grain=x0.grain:=by
  rw[Dd (l:=l.map (B9 x0.grain)) (x:=B9 x0.grain x0) (by rw[BH,hx0];rfl)];rfl
 have hSok:=Po (PY hg9 λx hx=>(hf x hx).2);have hMeq:=Pm (l:=l.map (B9 x0.grain));rw[hsR,hgR]at hMeq;have hSpw:=Xd (l.map (B9 x0.grain));obtain⟨R,hR⟩:∃R,l.map (B9 x0.grain)=R:=⟨_,rfl⟩
 rw[hR]at hE hX hlt cPo hSok hMeq hSpw;rcases Nat.decEq (Df R) 0 with g2|g2
 ·have e3:=Eo g2
  rw[AF g2]at hE;rw[hE]at hX hL⊢;rw[AF g2]at hX hL;rw[hX,hL];obtain⟨Z,hZ⟩:∃Z,FS R=Z:=⟨_,rfl⟩
  rw[hZ]at cPo;unfold AG.D CT at cPo;obtain⟨ZS,hZS⟩:∃d,List.map Au.D Z.shs=d:=⟨_,rfl⟩
  have pZS:AA (.sl false 2 ZS):=by rw[<-hZS];exact AH
  rw[hZS]at cPo;refine AJ GR e3 hm0 cPo AB AB AB AB ?_;exact⟨_,Hd (MS _) (.nil 2),AA.out,rfl⟩
 have e3:=FC g2;rw[AE (λh=>h g2)]at hE;obtain⟨m1,m2⟩:=hSok g2;rw[hMeq g2]at cPo;obtain⟨S,hS⟩:∃S,DQ R=S:=⟨_,rfl⟩
 rw[hS]at cPo hX m1 m2 hlt hSpw;unfold AG.D at cPo;dsimp only at cPo;unfold CT at cPo;obtain⟨SD,hSD⟩:∃d,List.map Au.D S=d:=⟨_,rfl⟩
 have pSD:AA (.sl false 2 SD):=by rw[<-hSD];exact AH
 have eSD:(SD.length:Int)=(S.length:Int):=by rw[<-hSD,Ap]
 rw[hSD]at cPo;have n0:((0:Int) != 0)=false:=rfl;have n4:((4:Int) != 0)=true:=rfl;have ws:IntKind.i64.wrap (Av l-left)=Av l-left:=wI (by omega) (by omega);refine AJ GR e3 hm0 cPo AB AB AB AB ?_
 by_cases hz:Av l=left
 ·rw[AF hz]at hE
  rw[hE]at hX hL⊢;rw[AE (λh=>h rfl)]at hX hL;rw[AF hz]at hL;rw[hX,hL];unfold AG.D;dsimp only;unfold CT;rw[hSD];have e2:decide (left<Av l)=false:=Af (by omega);have cZ:AK C0 39 [.sl false 2 ([].map BM)] (i64 0):=Sr false [] 1 (λp hp=>by cases hp) (by omega) (by simp);refine AC.loop (α:=Nat) (λn=>⟨[(1,i64 left),(4,.optr 0 0 3 0 0),(7,.optr 109 12 3 0 0),(9,CE),(10,i64 0)],[⟨109,12,27,3,[.agg [str (sb x0.grain),i64 (Av l),.sl false 2 SD]]⟩,⟨0,0,27,3,[.agg [.prim (.string ⟨#[]⟩),.prim (.int .i64 0),.prim (.slice none 0 0)]]⟩],n⟩) (λ_=>0) (λ_=>True) _ AB AI ?_;intro n F _;rcases BI 0 S.length with h2|h2
  ·have e1:decide ((0:Int)<(S.length:Int))=true:=AX (by omega)
   refine AJ GR (At eSD e1 e2) AB AB AB AB AB AB ?_;refine Az.pure [.sl false 2 ([].map BM)] _ ⟨.nil 2,trivial⟩ cZ AH ?_;refine AJ GR (Ac hz n0) AB AB AB AB AB AB ?_;exact⟨_,Hd (.refl _) (.nil 2),AA.out,rfl⟩
  ·have e1:decide ((0:Int)<(S.length:Int))=false:=Af (by omega)
   refine AJ GR (Ac eSD e1) AB AB AB AB AB AB ?_;refine Az.pure [.sl false 2 ([].map BM)] _ ⟨.nil 2,trivial⟩ cZ AH ?_;refine AJ GR (Ac hz n0) AB AB AB AB AB AB ?_;exact⟨_,Hd (.refl _) (.nil 2),AA.out,rfl⟩
 rw[AE hz]at hE hL;have hlt2:left<Av l:=by omega
 have e2:decide (left<Av l)=true:=AX hlt2;rw[hlt]at q1 q2;rw[hlt,q1]at hE;rw[hlt,q1]at hL;rw[q1]at q2;have hAE:∀q,Gq q=if q.any (λp=>CL p.2)then 4 else 0:=λq=>rfl
 have hAL:∀q,HC q=if q.any (λp=>CL p.2)then[]else Dq q:=λq=>rfl
 rw[hAE]at hE;rw[hAL,q2]at hL;have cF:=S9 (Av l-left) (by omega) (by omega);have hDr:=Nc (z:=Av l-left) (by omega) (by omega);have hWat:∀(i:Nat) (s:Au),S[i]?=some s->(Ee ⟨x0.grain,Av l-left,S⟩)[i]?=some (s.lot,CA s.part*((Av l-left:Int):Rat)):=λi s h=>by
  unfold Ee;rw[BH,h];rfl
 have hWl:(Ee ⟨x0.grain,Av l-left,S⟩).length=S.length:=by unfold Ee;rw[Ap]
 obtain⟨W,hW⟩:∃W,Ee ⟨x0.grain,Av l-left,S⟩=W:=⟨_,rfl⟩
 rw[hW]at hE hL hWat hWl;have hWrk:∀p∈W,rk p.2 601:=λp hp=>by
  rw[<-hW]at hp;unfold Ee at hp;obtain⟨s,hs,rfl⟩:=List.mem_map.1 hp;exact Nk (m2 s hs).2.2.2 hDr
 obtain⟨DR,hDR⟩:∃D,((Av l-left:Int):Rat)=D:=⟨_,rfl⟩
 rw[hDR]at cF hDr hWat;obtain⟨dD,hdD⟩:∃d,rR DR=d:=⟨_,rfl⟩
 have pdD:AA dD:=by rw[<-hdD];exact AH
 rw[hdD]at cF;have cLa:=Sr false W 601 hWrk (by omega) (by omega);refine AC.loop (α:=Nat×Nat×Nat) (λp=>⟨[(1,i64 left),(4,.optr 0 0 3 0 0),(7,.optr 109 12 3 0 0),(9,DK 821 p.2.1 2 ((W.take p.1).map BM)),(10,i64 (p.1:Int))],DB 821 p.2.1 95 2 ((W.take p.1).map BM)++[⟨109,12,27,3,[.agg [str (sb x0.grain),i64 (Av l),.sl false 2 SD]]⟩,⟨0,0,27,3,[.agg [.prim (.string ⟨#[]⟩),.prim (.int .i64 0),.prim (.slice none 0 0)]]⟩],p.2.2⟩) (λp=>S.length-p.1)
  (λp=>p.1<=S.length) (0,0,_) (BR _) AI ?_
 rintro⟨i,g,m⟩ F hi;dsimp only at hi⊢;have hTl:((W.take i).map BM).length=i:=by rw[Ap,BX];omega
 rcases BI i S.length with h2|h2
 rotate_left
 ·have e1:=Ca h2
  have:i=S.length:=by omega
  subst this;rw[B1 (Nat.le_of_eq hWl)];rcases W with _|⟨w0,W⟩
  ·have cZ:AK C0 39 [.sl false 2 ([].map BM)] (i64 0):=Sr false [] 1 (λp hp=>by cases hp) (by omega) (by simp)
   rw[AE (by simp)]at hE;rw[hE]at hX hL⊢;rw[AE (λh=>h rfl)]at hX hL;rw[AE (by simp)]at hL;rw[hX,hL];unfold AG.D;dsimp only;unfold CT;rw[hSD];rw[show DK 821 g 2 (List.map BM [])=CE from rfl,show DB 821 g 95 2 (List.map BM [])=[]from rfl,FK];refine AJ GR (Ac eSD e1) AB AB AB AB AB AB ?_;refine Az.pure [.sl false 2 ([].map BM)] _ ⟨.nil 2,trivial⟩ cZ AH ?_;refine AJ GR n0 AB AB AB AB AB AB ?_;exact⟨_,Hd (.refl _) (.nil 2),AA.out,rfl⟩
  have hfz:∀H0:Hp,Fz (⟨821,g,95,2,(w0::W).map BM⟩::H0) [] (.osl 821 g 2 0 ((W.map BM).length+1)) (.sl false 2 ((w0::W).map BM)):=λH0=>Se rfl
  have pW:Bv (.sl false 2 ((w0::W).map BM)):=AA.out;have pW2:AA (.sl false 2 ((w0::W).map BM)):=⟨pW⟩
  rw[show DK 821 g 2 (List.map BM (w0::W))=.osl 821 g 2 0 ((W.map BM).length+1)from rfl,show DB 821 g 95 2 (List.map BM (w0::W))=[⟨821,g,95,2,(w0::W).map BM⟩]from rfl];rw[EF,FK];obtain⟨WD,hWD⟩:∃d,(w0::W).map BM=d:=⟨_,rfl⟩
  obtain⟨bA,hbA⟩:∃q,(w0::W).any (λp=>CL p.2)=q:=⟨_,rfl⟩
  rw[hWD]at hfz pW2 cLa⊢;rw[hbA]at cLa hE hL;cases bA
  ·rw[AE (by decide)]at cLa hE
   rw[hE]at hX hL⊢;rw[AE (λh=>h rfl)]at hX hL;rw[AE (by decide)]at hL;rw[hX,hL,hWD];unfold AG.D;dsimp only;unfold CT;rw[hSD];refine AJ GR (Ac eSD e1) AB AB AB AB AB AB ?_;refine Az.own _ (Ic cLa rfl (λi a d h1 h2=>by
    match i with
    | 0=>cases h1;cases h2;exact .of (hfz _)
    |n+1=>cases h1) AH (.prim _)) ?_
   rintro d H' n' ⟨rfl,rfl,rfl⟩;refine AJ GR n0 AB AB AB AB AB AB ?_;exact⟨_,Hd (.refl _) (hfz _),by rw[hWD]at pW;exact(AA.out (d:=.tup [.agg [str (sb x0.grain),i64 left,.sl false 2 SD],.sl false 2 WD,i64 0])),rfl⟩
  ·rw[AF rfl]at cLa hE
   rw[hE]at hX hL⊢;rw[AF (by decide)]at hX hL;rw[hX,hL];refine AJ GR (Ac eSD e1) AB AB AB AB AB AB ?_;refine Az.own _ (Ic cLa rfl (λi a d h1 h2=>by
    match i with
    | 0=>cases h1;cases h2;exact .of (hfz _)
    |n+1=>cases h1) AH (.prim _)) ?_
   rintro d H' n' ⟨rfl,rfl,rfl⟩;refine AJ GR n4 AB AB AB AB AB AB ?_;exact⟨_,Hd (MS _) (.nil 2),AA.out,rfl⟩
 have e1:=CX h2;have wi:=Cf (i:=i) (by omega);obtain⟨s,hs⟩:=CQ h2;have hWi:=hWat i s hs;have hms:SD[i]?=some (.agg [str (sb s.lot),str (sb s.part)]):=by rw[<-hSD,BH,hs];rfl
 have hso:=m2 s (A8 hs);have cM:AK C0 69 [str (sb s.part),dD] (str (sb (Al (CA s.part*DR)))):=by
  have:=UA (CA s.part) DR 600 1 hso.2.2.2 hDr (by decide)
  rw[hdD]at this;unfold rR at this;rw[(Ka hso.2.2.1).2.2.1]at this;exact this
 have hsn:((W.take (i+1)).map BM)=(W.take i).map BM++[.agg [str (sb s.lot),str (sb (Al (CA s.part*DR)))]]:=by
  rw[Dv,hWi,DE];rfl
 obtain⟨TL,hTL⟩:∃TL,(W.take i).map BM=TL:=⟨_,rfl⟩
 rw[hTL]at hTl hsn⊢;rcases TL with _|⟨z9,TL⟩
 ·dsimp only[Fg,Fh,List.nil_append]
  refine AJ GR (Ex eSD e1 e2 ws wi kN) hms cF cM AB AB AB ?_;exact⟨(i+1,_,_),h2,by dsimp only;omega,by(dsimp only;rw[hsn];exact AI)⟩
 ·dsimp only[Eg,Eh,List.cons_append,List.nil_append]
  have htk:List.take (TL.length+1) (z9::TL)=z9::TL:=by simp
  rw[Bl]at hTl;have hb64:TL.length+1<64:=by omega
  refine AJ GR (Dy eSD e1 e2 ws wi htk kN) hms cF cM AB AB AB ?_;exact⟨(i+1,_,_),h2,by dsimp only;omega,by(dsimp only;rw[hsn,KZ];exact AI)⟩
abbrev SX:Dr:=[(6,[0,1,2,3,4,5,6,7,8,9,10,11,12,13,14,15,16,17,18,19,20,21],[22,23])]
abbrev SW:Dr:=[(6,[0,1,2,3,4,5,6,7,8,9,10,11,12,13,14,15,16,17,18,19],[20,21,22])]
abbrev SY:Dr:=[(6,[0,1,2,3,4,5,6,7,8,9,10,11,12,13,14,15,16,17,18,19,20,21],[22,23])]
open Go.Proofs Go.RowKit
set_option maxRecDepth 20000
set_option maxHeartbeats 4000000
theorem iF (b1 b2:Bool)(S:List Au)(hl:S.length<=1000000):AK C0 52 [CT b1 S,CT b2 S] (Aq true):=by
 refine Ai.walk w1 aE rfl λF=>?_
 have el:(((S.map Au.D).length:Nat):Int)=(S.length:Int):=by rw[Ap]
 have hne:((S.length:Int) != (S.length:Int))=false:=bne_self_eq_false _;refine AJ SX (Ac el hne) AB AB AB AB AB AB ?_;refine AC.loop (α:=Nat×Nat) (λp=>⟨[(0,CT b1 S),(1,CT b2 S),(5,i64 (p.1:Int))],[],p.2⟩) (λp=>S.length-p.1) (λq=>q.1<=S.length) (0,_) (BR _) AI ?_;rintro⟨i,n⟩ F hi;dsimp only at hi⊢;rcases BI i S.length with h2|h2
 rotate_left
 ·have e1:=Ca h2
  refine AJ SX (Ac el e1) AB AB AB AB AB AB ?_;exact AO rfl AA.out
 have e1:=CX h2;have wi:=Cf (i:=i) (by omega);obtain⟨x,hx⟩:=CQ h2;have hm:(S.map Au.D)[i]?=some (.agg [str (sb x.lot),str (sb x.part)]):=by rw[BH,hx];rfl
 have s1:=strEq_self (sb x.lot);have s2:=strEq_self (sb x.part);refine AJ SX (Dy el e1 wi s1 s2 kN (Ac kT kF)) hm AB AB AB AB AB ?_;exact⟨(i+1,_),h2,by dsimp only;omega,AI⟩
theorem jF (x:AG)(hl:x.shs.length<=1000000):AK C0 68 [x.D,x.D] (Aq true):=by
 refine Ai.walk w1 aP rfl λF=>?_
 have c:=iF false false x.shs hl;have s1:=strEq_self (sb x.grain);unfold AG.D;unfold CT at c⊢;obtain⟨S,hS⟩:∃S,x.shs.map Au.D=S:=⟨_,rfl⟩
 have pS:AA (.sl false 2 S):=by rw[<-hS];exact AH
 rw[hS]at c⊢;refine AJ Ad (At s1 kT kF) c AB AB AB AB AB ?_;exact AO rfl AA.out
theorem Xs (b1 b2:Bool)(l:List AG)(hl:l.length<=1000000)(hs:∀x∈l,x.shs.length<=1000000):AK C0 17 [A0 b1 l,A0 b2 l] (Aq true):=by
 refine Ai.walk w1 aC rfl λF=>?_
 have el:(((l.map AG.D).length:Nat):Int)=(l.length:Int):=by rw[Ap]
 have hne:((l.length:Int) != (l.length:Int))=false:=bne_self_eq_false _;refine AJ SW (Ac el hne) AB AB AB AB AB AB ?_;refine AC.loop (α:=Nat×Nat) (λp=>⟨[(0,A0 b1 l),(1,A0 b2 l),(5,i64 (p.1:Int))],[],p.2⟩) (λp=>l.length-p.1) (λq=>q.1<=l.length) (0,_) (BR _) AI ?_;rintro⟨i,n⟩ F hi;dsimp only at hi⊢;rcases BI i l.length with h2|h2
 rotate_left
 ·have e1:=Ca h2
  refine AJ SW (Ac el e1) AB AB AB AB AB AB ?_;exact AO rfl AA.out
 have e1:=CX h2;have wi:=Cf (i:=i) (by omega);obtain⟨x,hx⟩:=CQ h2;have hm:(l.map AG.D)[i]?=some (.agg [str (sb x.grain),i64 x.mass,.sl false 2 (x.shs.map Au.D)]):=by rw[BH,hx];rfl
 have c:=jF x (hs x (A8 hx));have s1:(x.mass != x.mass)=false:=bne_self_eq_false _;unfold AG.D CT at c;obtain⟨S,hS⟩:∃S,x.shs.map Au.D=S:=⟨_,rfl⟩
 have pS:AA (.sl false 2 S):=by rw[<-hS];exact AH
 rw[hS]at c hm;refine AJ SW (Dy el e1 wi s1 kN kT kF) hm c AB AB AB AB ?_;exact⟨(i+1,_),h2,by dsimp only;omega,AI⟩
def CH (p:List UInt8×List UInt8):D:=.agg [str (sb p.1),str (sb p.2)]
instance  (p:List UInt8×List UInt8):Ak (CH p):=by unfold CH;exact AH
instance  (p:List UInt8×List UInt8):AA (CH p):=by unfold CH;exact AH
theorem dc (b1 b2:Bool)(l:List (List UInt8×List UInt8))(hl:l.length<=1000000):AK C0 71 [.sl b1 2 (l.map CH),.sl b2 2 (l.map CH)] (Aq true):=by
 refine Ai.walk w1 aQ rfl λF=>?_
 have el:(((l.map CH).length:Nat):Int)=(l.length:Int):=by rw[Ap]
 have hne:((l.length:Int) != (l.length:Int))=false:=bne_self_eq_false _;refine AJ SY (Ac el hne) AB AB AB AB AB AB ?_;refine AC.loop (α:=Nat×Nat) (λp=>⟨[(0,.sl b1 2 (l.map CH)),(1,.sl b2 2 (l.map CH)),(5,i64 (p.1:Int))],[],p.2⟩) (λp=>l.length-p.1) (λq=>q.1<=l.length) (0,_) (BR _) AI ?_;rintro⟨i,n⟩ F hi;dsimp only at hi⊢;rcases BI i l.length with h2|h2
 rotate_left
 ·have e1:=Ca h2
  refine AJ SY (Ac el e1) AB AB AB AB AB AB ?_;exact AO rfl AA.out
 have e1:=CX h2;have wi:=Cf (i:=i) (by omega);obtain⟨x,hx⟩:=CQ h2;have hm:(l.map CH)[i]?=some (.agg [str (sb x.1),str (sb x.2)]):=by rw[BH,hx];rfl
 have s1:=strEq_self (sb x.1);have s2:=strEq_self (sb x.2);refine AJ SY (Dy el e1 wi s1 s2 kN (Ac kT kF)) hm AB AB AB AB AB ?_;exact⟨(i+1,_),h2,by dsimp only;omega,AI⟩
theorem th (l:List UInt8)(hl:l.length<=1000000):AK C0 15 [str (sb l)] (i64 (if Co l then 0 else 8)):=by
 refine Ai.walk w1 sy rfl λF=>?_
 have c:=Tl l hl;obtain⟨K,hK⟩:∃K,Co l=K:=⟨_,rfl⟩
 rw[hK]at c⊢;cases K
 ·refine AJ Ad kB c AB AB AB AB AB ?_
  exact AO rfl AA.out
 ·refine AJ Ad kB c AB AB AB AB AB ?_
  exact AO rfl AA.out
theorem rN (m k:Int):AK C0 18 [i64 m,i64 k] (i64 (if m<k then 3 else 0)):=by
 refine Ai.walk w1 tD rfl λF=>?_
 by_cases h:m<k
 ·have e:=AX h
  rw[AF h];refine AJ Ad e AB AB AB AB AB AB ?_;exact AO rfl AA.out
 ·have e:=Af h
  rw[AE h];refine AJ Ad e AB AB AB AB AB AB ?_;exact AO rfl AA.out
theorem Y6 (v:List Int)(hl:v.length<=1000):AK C0 13 [.sl true 1 (v.map λe=>i64 e)] (i64 (Ec v)):=by
 refine Ai.walk w1 sw rfl λF=>?_
 have el:(((v.map λe=>i64 e).length:Nat):Int)=(v.length:Int):=by rw[Ap]
 refine AJ Ad el AB AB AB AB AB AB ?_;refine AC.loop (α:=Nat×Nat) (λp=>⟨[(5,.sl true 1 (v.map λe=>i64 e)),(6,i64 (v.length:Int)),(7,i64 (p.1:Int))],[],p.2⟩) (λp=>v.length-p.1) (λp=>p.1<=v.length/\∀(j:Nat) (e:Int),j<p.1->v[j]?=some e->e=0) (0,_) ⟨BR _,λj e h=>AY h (HP j)⟩ AI ?_;rintro⟨i,m⟩ F ⟨hi,ha⟩;dsimp only at hi ha⊢;rcases BI i v.length with h2|h2
 rotate_left
 ·have e1:=Ca h2
  have:i=v.length:=by omega
  subst this;have hd:Ec v=0:=by rw[Ou ha,JS];rfl
  rw[hd];refine AJ Ad e1 AB AB AB AB AB AB ?_;exact AO rfl AA.out
 have e1:=CX h2;have wi:=Cf (i:=i) (by omega);obtain⟨l,hl'⟩:=CQ h2;have hm:(v.map λe=>i64 e)[i]?=some (i64 l):=by rw[BH,hl'];rfl
 by_cases g:l=0
 ·have e5:(l != 0)=false:=by rw[g];rfl
  refine AJ Ad (BV e1 wi e5 kN) hm AB AB AB AB AB ?_;exact⟨(i+1,_),⟨h2,λj e hj he=>by
   rcases Nat.lt_succ_iff_lt_or_eq.1 hj with q|q
   ·exact ha j e q he
   ·subst q;rw[hl']at he;cases he;exact g⟩,by dsimp only;omega,AI⟩
 ·have e5:(l != 0)=true:=SS g
  have hd:Ec v=l:=by
   rw[Ou ha,EQ h2];rw[BF h2]at hl';rw[FX hl'];exact AF g
  rw[hd];refine AJ Ad (BV e1 wi e5 kN) hm AB AB AB AB AB ?_;exact AO rfl AA.out
theorem tj (b1 b2:Bool)(l:List (List UInt8×List UInt8))(hl:l.length<=1000000):AK C0 22 [.sl b1 2 (l.map CH),.sl b2 2 (l.map CH)] (Aq true):=by
 refine Ai.walk w1 aB rfl λF=>?_
 have el:(((l.map CH).length:Nat):Int)=(l.length:Int):=by rw[Ap]
 have cS:=dc false b2 l hl;refine AJ Ad el AB AB AB AB AB AB ?_;refine AC.loop (α:=Nat×Nat×Nat) (λp=>⟨[(1,.sl b2 2 (l.map CH)),(5,DK 503 p.2.1 2 ((l.take p.1).map CH)),(8,.sl b1 2 (l.map CH)),(9,i64 (l.length:Int)),(10,i64 (p.1:Int))],DB 503 p.2.1 95 2 ((l.take p.1).map CH),p.2.2⟩) (λp=>l.length-p.1) (λq=>q.1<=l.length) (0,0,_) (BR _) AI ?_;rintro⟨i,g,n⟩ F hi;dsimp only at hi⊢;rcases BI i l.length with h2|h2
 rotate_left
 ·have e1:=Ca h2
  have:i=l.length:=by omega
  subst this;rw[DL];obtain⟨N,hN⟩:∃N,l.length=N:=⟨_,rfl⟩
  rw[hN]at e1⊢;clear hN el hi h2 hl;rcases l with _|⟨z,l⟩
  ·rw[List.map_nil]at cS⊢
   rw[Fg,Fh];refine AJ Ad e1 AB AB AB AB AB AB ?_;refine Az.pure [.sl false 2 [],.sl b2 2 []] _ ⟨.nil 2,.refl _,trivial⟩ cS AH ?_;refine AJ Ad kB AB AB AB AB AB AB ?_;exact AO rfl AA.out
  ·rw[CJ]at cS⊢
   rw[Eg,Eh];have pT:AA (.sl b2 2 (CH z::l.map CH)):=(AH:AA (.sl b2 2 ((z::l).map CH)))
   have pT2:AA (.sl b1 2 (CH z::l.map CH)):=(AH:AA (.sl b1 2 ((z::l).map CH)))
   have pT3:AA (.sl false 2 (CH z::l.map CH)):=(AH:AA (.sl false 2 ((z::l).map CH)))
   obtain⟨T,hT⟩:∃T,l.map CH=T:=⟨_,rfl⟩
   obtain⟨t,ht⟩:∃t,CH z=t:=⟨_,rfl⟩
   rw[hT,ht]at cS pT pT2 pT3⊢;have hfz:=IN (H:=[⟨503,g,95,2,t::T⟩]) (Hf:=[]) (k:=503) (g:=g) (T:=95) (sz:=2) (l:=t::T) rfl;refine AJ Ad e1 AB AB AB AB AB AB ?_;refine Az.own _ (Ic cS rfl (λi a d h1 h2=>by
    match i with
    | 0=>cases h1;cases h2;exact .of hfz
    | 1=>cases h1;cases h2;exact .refl _ _
    |n+2=>cases h1) AH (.prim _)) ?_
   rintro d H' n' ⟨rfl,rfl,rfl⟩;refine AJ Ad kB AB AB AB AB AB AB ?_;exact AO rfl AA.out
 have e1:=CX h2;have wi:=Cf (i:=i) (by omega);obtain⟨x,hx⟩:=CQ h2;have hm:(l.map CH)[i]?=some (.agg [str (sb x.1),str (sb x.2)]):=by rw[BH,hx];rfl
 have ht:l.take (i+1)=l.take i++[x]:=by rw[Dv,hx];rfl
 have hln:(l.take i).length=i:=by rw[BX];omega
 obtain⟨R,hR⟩:∃R,l.take i=R:=⟨_,rfl⟩
 rw[hR]at ht hln⊢;rcases R with _|⟨z,R⟩
 ·rw[List.map_nil,Fg,Fh]
  refine AJ Ad (At e1 wi kN) hm AB AB AB AB AB ?_;refine⟨(i+1,n+1+1+1+1+1+1+1+1,n+1+1+1+1+1+1+1+1+1+1+1+1),h2,by dsimp only;omega,?_⟩;dsimp only;rw[ht];exact AI
 ·rw[CJ,Eg,Eh]
  obtain⟨T,hT⟩:∃T,R.map CH=T:=⟨_,rfl⟩
  obtain⟨t,hz⟩:∃t,CH z=t:=⟨_,rfl⟩
  have hTl:T.length+1=i:=by rw[<-hT,Ap];exact hln
  rw[hT,hz];refine AJ Ad (At e1 wi kN) hm AB AB AB AB AB ?_;refine⟨(i+1,n+1+1+1+1+1+1+1+1,n+1+1+1+1+1+1+1+1+1+1+1+1),h2,by dsimp only;omega,?_⟩;dsimp only;rw[ht,DE,CJ,hT,hz,CJ,List.map_nil];rw[EF,Eg,Eh,B3];rw[show List.take (T.length+1) (t::T)=t::T from DL (l:=t::T)];exact AI
def Au.shB (s:Au):Bool:=decide (s.lot.length<=100)&&decide (s.part.length<=14)
def AG.shB (x:AG):Bool:=decide (x.grain.length<=100)&&(decide (x.shs.length<=8)||decide (64<x.shs.length))&&decide (x.shs.length<=80)&&x.shs.all Au.shB
def IU (l:List AG):Bool:=l.all AG.shB&&(decide (l.length<=8)||(decide (64<l.length)&&decide (l.length<=80)))
theorem rP (b:Bool)(l:List AG)(hl:l.length<=9223372036854775807)(hs:∀x∈l,x.shs.length<=9223372036854775807):AK C0 9 [A0 b l] (Aq (IU l)):=by
 refine Ai.walk w1 um rfl λF=>?_
 have el:(((l.map AG.D).length:Nat):Int)=(l.length:Int):=by rw[Ap]
 refine AJ Ad el AB AB AB AB AB AB ?_;refine AC.loop (α:=Nat×Nat) (λp=>⟨[(0,A0 b l),(7,A0 b l),(8,i64 (l.length:Int)),(9,i64 (p.1:Int))],[],p.2⟩) (λp=>l.length-p.1) (λq=>q.1<=l.length/\(l.take q.1).all AG.shB=true) (0,_) ⟨BR _,rfl⟩ AI ?_;rintro⟨i,n⟩ F ⟨hi,ha⟩;dsimp only at hi ha⊢;rcases BI i l.length with h2|h2
 rotate_left
 ·have e1:=Ca h2
  have:i=l.length:=by omega
  subst this;rw[DL]at ha;obtain⟨q1,h1⟩:∃q,decide ((l.length:Int)<=8)=q:=⟨_,rfl⟩
  obtain⟨q2,h2'⟩:∃q,decide ((l.length:Int)>64)=q:=⟨_,rfl⟩
  obtain⟨q3,h3⟩:∃q,decide ((l.length:Int)<=80)=q:=⟨_,rfl⟩
  have hb:IU l=(q1||(q2&&q3)):=by
   unfold IU;rw[ha,<-h1,<-h2',<-h3,If]
   congr 1
   ·exact Cr.2 (by omega)
   ·congr 1
    ·exact Cr.2 (by omega)
    ·exact Cr.2 (by omega)
  rw[hb];cases q1<;>cases q2<;>cases q3
  all_goals
   refine AJ Ad (Dy e1 el h1 h2' h3 kT kF) AB AB AB AB AB AB ?_;exact AO rfl AA.out
 have e1:=CX h2;have wi:=Cf (i:=i) (by omega);obtain⟨x,hx⟩:=CQ h2;have hm:(l.map AG.D)[i]?=some (.agg [str (sb x.grain),i64 x.mass,.sl false 2 (x.shs.map Au.D)]):=by rw[BH,hx];rfl
 have hsx:=hs x (A8 hx);have ex:(((x.shs.map Au.D).length:Nat):Int)=(x.shs.length:Int):=by rw[Ap]
 have hsz:=CN x.grain;obtain⟨p1,h1⟩:∃q,decide ((x.grain.length:Int)>100)=q:=⟨_,rfl⟩
 obtain⟨p2,h2'⟩:∃q,decide ((x.shs.length:Int)>8)=q:=⟨_,rfl⟩
 obtain⟨p3,h3⟩:∃q,decide ((x.shs.length:Int)<=64)=q:=⟨_,rfl⟩
 obtain⟨p4,h4⟩:∃q,decide ((x.shs.length:Int)>80)=q:=⟨_,rfl⟩
 have hb:x.shB=(!p1&&(!p2 || !p3) && !p4&&x.shs.all Au.shB):=by
  unfold AG.shB;rw[<-h1,<-h2',<-h3,<-h4]
  congr 1
  congr 1
  ·congr 1
   ·rw[<-decide_not];exact Cr.2 (by omega)
   ·congr 1
    ·rw[<-decide_not];exact Cr.2 (by omega)
    ·rw[<-decide_not];exact Cr.2 (by omega)
  ·rw[<-decide_not];exact Cr.2 (by omega)
 by_cases g:(!p1&&(!p2 || !p3) && !p4)=true
 rotate_left
 ·have hbf:x.shB=false:=by rw[hb];simp only[Bool.not_eq_true]at g;rw[g];rfl
  have hsf:IU l=false:=by unfold IU;rw[SP hx hbf];rfl
  rw[hsf];cases p1<;>cases p2<;>cases p3<;>cases p4
  all_goals first
   |exact AY rfl g
   |skip
  all_goals
   refine AJ Ad (Dy e1 hsz ex h1 h2' h3 (BV h4 kN kT kF)) hm AB AB AB AB AB ?_;exact AO rfl AA.out
 rw[g,If]at hb;cases p1<;>cases p2<;>cases p3<;>cases p4
 all_goals first
  |exact AY g (by decide)
  |skip
 all_goals
  refine AJ Ad (Dy e1 hsz ex h1 h2' h3 (BV h4 kN kT kF)) hm AB AB AB AB AB ?_;refine AC.loop (α:=Nat×Nat) (λp=>⟨[(0,A0 b l),(7,A0 b l),(8,i64 (l.length:Int)),(9,i64 (i:Int)),(36,.sl false 2 (x.shs.map Au.D)),(37,i64 (x.shs.length:Int)),(38,i64 (p.1:Int))],[],p.2⟩) (λp=>x.shs.length-p.1) (λq=>q.1<=x.shs.length/\(x.shs.take q.1).all Au.shB=true) (0,_) ⟨BR _,rfl⟩ AI ?_;clear h1 h2' h3 h4 g;rintro⟨j,n⟩ F ⟨hj,haj⟩;dsimp only at hj haj⊢;rcases BI j x.shs.length with g2|g2
  ·have e3:=CX g2
   have wj:=Cf (i:=j) (by omega);obtain⟨y,hy⟩:=CQ g2;have hmy:(x.shs.map Au.D)[j]?=some (.agg [str (sb y.lot),str (sb y.part)]):=by rw[BH,hy];rfl
   have hs1:=CN y.lot;have hs2:=CN y.part;obtain⟨r1,k1⟩:∃q,decide ((y.lot.length:Int)>100)=q:=⟨_,rfl⟩
   obtain⟨r2,k2⟩:∃q,decide ((y.part.length:Int)>14)=q:=⟨_,rfl⟩
   have hby:y.shB=(!r1 && !r2):=by
    unfold Au.shB;rw[<-k1,<-k2]
    congr 1
    ·rw[<-decide_not];exact Cr.2 (by omega)
    ·rw[<-decide_not];exact Cr.2 (by omega)
   have fin:y.shB=false->IU l=false:=λh=>by
    have:x.shB=false:=by rw[hb,SP hy h]
    unfold IU;rw[SP hx this];rfl
   cases r1
   ·cases r2
    ·refine AJ Ad (Dy e3 wj hs1 hs2 k1 k2 (At kN kT kF)) hmy AB AB AB AB AB ?_
     exact⟨(j+1,_),⟨g2,WC hy haj hby⟩,by dsimp only;omega,AI⟩
    ·rw[fin hby]
     refine AJ Ad (Dy e3 wj hs1 hs2 k1 k2 (At kN kT kF)) hmy AB AB AB AB AB ?_;exact AO rfl AA.out
   ·rw[fin hby]
    refine AJ Ad (Dy e3 wj hs1 hs2 k1 kN (Ac kT kF)) hmy AB AB AB AB AB ?_;exact AO rfl AA.out
  ·have e3:=Ca g2
   have:j=x.shs.length:=by omega
   subst this;rw[DL]at haj;refine AJ Ad (Ac e3 wi) AB AB AB AB AB AB ?_;exact⟨(i+1,_),⟨h2,WC hx ha (hb.trans haj)⟩,by dsimp only;omega,AI⟩
theorem lk {l:List AG}(h:IU l=true):(∀x∈l,x.lite/\x.modr)/\l.length<=80/\(l.length<=8\/64<l.length):=by
 unfold IU at h;simp only[BZ,Me,CI,Gw]at h;obtain⟨h1,h2⟩:=h;refine⟨λx hx=>?_,by omega,by omega⟩;have hb:=h1 x hx;unfold AG.shB at hb;simp only[BZ,Me,CI,Gw]at hb;obtain⟨⟨⟨b1,b2⟩,b3⟩,b4⟩:=hb;have hs:∀s∈x.shs,s.lot.length<=100/\s.part.length<=14:=λs hs=>by
  have:=b4 s hs
  unfold Au.shB at this;simpa using this
 have hl:x.lite:=⟨⟨by omega,by omega,λs q=>⟨by have:=(hs s q).1;omega,by have:=(hs s q).2;omega⟩⟩,λs q=>⟨by have:=(hs s q).1;omega,by have:=(hs s q).2;omega⟩⟩
 exact⟨hl,by omega,hl⟩
theorem j9 {l:List AG}(hf:∀x∈l,x.lite):(FS l).shs.length<=64:=by
 rcases Nat.decEq (Df l) 0 with h|h
 ·have:FS l=⟨[],0,[]⟩:=AF h
  rw[this];exact BR _
 ·rw[Pm h]
  exact(Po hf h).1
theorem gS {l:List AG}{g:List UInt8}(hg:g.length<=100000)(hf:∀x∈l,x.lite):(Hs l g).shs.length<=64:=by
 unfold Hs;split
 ·exact BR _
 ·exact j9 (PY hg hf)
theorem Wb {l:List AG}{left:Int}(hf:∀x∈l,x.lite):(Hz l left).shs.length<=64:=by
 rcases Nat.decEq (DX l left) 0 with h|h
 ·have:Hz l left=⟨[],0,[]⟩:=AF h
  rw[this];exact BR _
 ·have hX:Hz l left=⟨(Bi l 0).grain,left,DQ (l.map (B9 (Bi l 0).grain))⟩:=AE (λq=>q h)
  rw[hX];have h2:=h;unfold DX at h2;split at h2
  ·rename_i q;exact AY h2 q
  ·split at h2
   ·cases h2
   ·split at h2
    ·cases h2
    ·split at h2
     ·cases h2
     ·split at h2
      ·rename_i q;exact AY h2 q
      ·rename_i q
       have hn:EK l (Bi l 0).grain=0:=Decidable.byContradiction q;unfold EK at hn;split at hn
       ·rename_i q2;exact AY hn q2
       ·have hgl:(Bi l 0).grain.length<=100000:=by
         cases l with
         |nil=>exact BR _
         |cons y r=>exact(hf y Ce).1.1
        exact(Po (PY hgl hf) hn).1
theorem jS {l:List AG}{left:Int}(hf:∀x∈l,x.lite):(Fq l left).length<=64:=by
 have hx:=Wb (left:=left) hf;unfold Hz at hx;unfold Fq
 by_cases h:DX l left≠0
 ·rw[AF h];exact BR _
 ·rw[AE h]at hx⊢
  split
  ·exact BR _
  ·unfold HC
   split
   ·exact BR _
   ·rw[(Na l left).2]
    unfold Ee;rw[Ap];exact hx
def MV (l:List AG)(g:List UInt8):Nat:=if CC l≠0 then CC l else if Co g=false then 8 else 0
theorem jt (l:List AG)(g:List UInt8):Ec [(CC l:Int),if Co g then 0 else 8]=(MV l g:Nat):=by
 unfold MV
 by_cases h1:CC l=0<;>cases Co g<;>simp[Ec,h1]
theorem jf (l:List AG)(g:List UInt8):D3 l g=if MV l g≠0 then MV l g else if l.length=0 then 13 else 0:=by
 unfold MV D3
 by_cases h1:CC l=0<;>cases Co g<;>simp[h1]
def Ia (l:List AG)(left:Int):Nat:=if CC l≠0 then CC l else if left<1 then 3 else 0
theorem ju (l:List AG)(left:Int):Ec [(CC l:Int),if left<1 then 3 else 0]=(Ia l left:Nat):=by
 unfold Ia
 by_cases h1:CC l=0<;>by_cases h2:left<1<;>simp[Ec,h1,h2]
def JH (l:List AG)(left:Int):Nat:=if Ia l left≠0 then Ia l left else if Av l<left then 13 else 0
def JI (l:List AG)(left:Int):Nat:=if JH l left≠0 then JH l left else if CZ l=false then 16 else 0
theorem Wa {l:List AG}{left:Int}(h:JI l left≠0):DX l left=JI l left:=by
 unfold DX;unfold JI JH Ia at h⊢
 by_cases h1:CC l=0
 ·simp only[h1,ne_eq,not_true_eq_false,if_false]at h⊢
  by_cases h2:left<1
  ·simp[h2]
  ·by_cases h3:Av l<left
   ·simp[h2,h3]
   ·cases h4:CZ l
    ·simp[h2,h3]
    ·simp[h2,h3,h4]at h
 ·simp[h1]
theorem jv {l:List AG}{left:Int}(h:JI l left=0):CC l=0/\1<=left/\left<=Av l/\CZ l=true:=by
 unfold JI JH Ia at h
 by_cases h1:CC l=0
 ·by_cases h2:left<1
  ·simp[h1,h2]at h
  ·by_cases h3:Av l<left
   ·simp[h1,h2,h3]at h
   ·cases h4:CZ l
    ·simp[h1,h2,h3,h4]at h
    ·exact⟨h1,by omega,by omega,rfl⟩
 ·simp[h1]at h
theorem Mq {n:Nat}(h:n=0):(((n:Nat):Int)==0)=true:=by rw[h];rfl
theorem Mp {n:Nat}(h:n≠0):(((n:Nat):Int)==0)=false:=B6.2 (by omega)
theorem Zv {H Hf:Hp}{k gg T sz:Nat}{r r':Hp}(h:CV H Hf r r'):CV H Hf (⟨k,gg,T,sz,[.agg [.prim (.string ⟨#[]⟩),.prim (.int .i64 0),.prim (.slice none 0 0)]]⟩::r) (⟨k,gg,T,sz,[.agg [str (sb []),i64 0,.sl false 2 []]]⟩::r'):=
 .turn rfl (λj d d' h1 h2=>by
  match j with
  | 0=>cases h1;cases h2;rfl
  |j+1=>cases h1) (λj d d' q c c' h1 h2 h3 h4=>by
  match j with
  | 0=>
   cases h1;cases h2
   match q with
   | 0=>cases h3;cases h4;exact .refl _
   | 1=>cases h3;cases h4;exact .refl _
   | 2=>cases h3;cases h4;exact .nil 2
   |q+3=>cases h3
  |j+1=>cases h1) h
theorem li (q:Bb):q.map BM=(q.map λp=>(p.1,Al p.2)).map CH:=by rw[List.map_map];rfl
theorem qE (ha:AK C0 10 [] (Aq true))(b:Bool)(l:List AG)(hl:l.length<=9223372036854775807)(hs:∀x∈l,x.shs.length<=9223372036854775807)(g:List UInt8)(left:Int):
  AK C0 3 [A0 b l,str (sb g),i64 left] (Aq true):=by
 refine Ai.walk w1 ul rfl λF=>?_
 have cS:=rP b l hl hs;have hsz:=CN g;rcases hsh:IU l with _|_
 ·rw[hsh]at cS
  refine AJ Ad kB cS ha AB AB AB AB ?_;exact AO rfl AA.out
 rw[hsh]at cS
 by_cases hg:g.length<=100
 rotate_left
 ·have k1:decide ((g.length:Int)>100)=true:=AX (by omega)
  refine AJ Ad (BV hsz k1 kT kF) cS ha AB AB AB AB ?_;exact AO rfl AA.out
 have k1:decide ((g.length:Int)>100)=false:=Af (by omega);obtain⟨hx,hl80,hl8⟩:=lk hsh;have cP:=Tj b l g (by omega) (λx q=>(hx x q).1) (by omega);have cX:=Xf b l left (by omega) (λx q=>(hx x q).1);have cC:=uV b l (by omega) (λx q=>(hx x q).2);have cN:=th g (by omega);unfold AG.D CT at cP cX;obtain⟨p,hp⟩:∃p,Hs l g=p:=⟨_,rfl⟩
 obtain⟨x,hxx⟩:∃p,Hz l left=p:=⟨_,rfl⟩
 rw[hp]at cP;rw[hxx]at cX;refine AJ Ad (BV hsz k1 kT kF) cS cP cX AB AB AB ?_;refine cI cC ?_;refine cI cN ?_;have cF1:=Y6 [(CC l:Int),if Co g then 0 else 8] (by simp);rw[jt]at cF1;refine cI cF1 ?_;refine JM (λn=>⟨[(0,A0 b l),(1,str (sb g)),(2,i64 left),(7,.optr 306 15 3 0 0),(8,i64 (EK l g:Nat)),(9,.optr 407 25 3 0 0),(10,.sl false 2 ((Fq l left).map BM)),(11,i64 (DX l left:Nat)),(12,i64 (D3 l g:Nat))],
  [⟨407,25,27,3,[.agg [str (sb x.grain),i64 x.mass,.sl false 2 (x.shs.map Au.D)]]⟩,⟨306,15,27,3,[.agg [str (sb p.grain),i64 p.mass,.sl false 2 (p.shs.map Au.D)]]⟩],n⟩) ?_ ?_
 ·have hE:=jf l g
  rcases Nat.decEq (MV l g) 0 with h1|h1
  ·have e1:=Mp h1
   rw[AF h1]at hE;rw[hE];refine AJ Ad (At e1 kT kF) AB AB AB AB AB AB ?_;exact⟨trivial,_,AI⟩
  ·have e1:=Mq h1
   rw[AE (λq=>q h1)]at hE;have el:(((l.map AG.D).length:Nat):Int)=(l.length:Int):=by rw[Ap]
   rcases Nat.decEq l.length 0 with h2|h2
   ·have e2:=Mp h2
    rw[AE h2]at hE;rw[hE,h1];rw[h1]at e1;refine AJ Ad (Ck e1 el e2 kT kF) AB AB AB AB AB AB ?_;exact⟨trivial,_,AI⟩
   ·have e2:=Mq h2
    rw[AF h2]at hE;rw[hE];refine AJ Ad (Ck e1 el e2 kT kF) AB AB AB AB AB AB ?_;exact⟨trivial,_,AI⟩
 intro n;refine sR 800 ?_;refine JM (λm=>⟨[(0,A0 b l),(1,str (sb g)),(2,i64 left),(7,.optr 306 15 3 0 0),(8,i64 (EK l g:Nat)),(9,.optr 407 25 3 0 0),(10,.sl false 2 ((Fq l left).map BM)),(11,i64 (DX l left:Nat)),(12,i64 (EK l g:Nat)),(13,.optr 800 n 3 0 0)],[⟨800,n,27,3,[.agg [str (sb p.grain),i64 p.mass,.sl false 2 (p.shs.map Au.D)]]⟩,⟨407,25,27,3,[.agg [str (sb x.grain),i64 x.mass,.sl false 2 (x.shs.map Au.D)]]⟩,⟨306,15,27,3,[.agg [str (sb p.grain),i64 p.mass,.sl false 2 (p.shs.map Au.D)]]⟩],m⟩) ?_ ?_
 ·have hN:EK l g=if D3 l g≠0 then D3 l g else Df (l.map (B9 g)):=rfl
  have hL:Hs l g=if D3 l g≠0 then⟨[],0,[]⟩else FS (l.map (B9 g)):=rfl
  rw[hp]at hL;rcases Nat.decEq (D3 l g) 0 with h1|h1
  ·have e1:=Mp h1
   rw[AF h1]at hN hL;rw[hN,hL];refine AJ Ad e1 AB AB AB AB AB AB ?_;exact⟨trivial,_,AI (a:=Zv (Fx _))⟩
  ·have e1:=Mq h1
   rw[AE (λq=>q h1)]at hN hL;have hc0:=(jg h1).1;have cRP:=ak b l g (by have:=(Ly hc0).1;omega) (λx q=>(hx x q).2) (by omega);rw[<-hL,<-hN]at cRP;unfold AG.D CT at cRP;refine AJ Ad e1 cRP AB AB AB AB AB ?_;exact⟨trivial,_,AI⟩
 intro m;have n1:(((EK l g:Nat):Int) != ((EK l g:Nat):Int))=false:=bne_self_eq_false _;have hpl:p.shs.length<=64:=by rw[<-hp];exact gS (by omega) λx q=>(hx x q).1
 have hxl:x.shs.length<=64:=by rw[<-hxx];exact Wb λx q=>(hx x q).1
 have cSm:=Xs true true [p] (by simp) (by simp;omega);unfold A0 AG.D CT at cSm;rw[CJ,List.map_nil]at cSm;refine AJ Ad (At n1 kT kF) cSm cC AB AB AB AB ?_;refine cI (rN left 1) ?_;have cF2:=Y6 [(CC l:Int),if left<1 then 3 else 0] (by simp);rw[ju]at cF2;refine cI cF2 ?_;refine JM (λm=>⟨[(0,A0 b l),(2,i64 left),(9,.optr 407 25 3 0 0),(10,.sl false 2 ((Fq l left).map BM)),(11,i64 (DX l left:Nat)),(13,.optr 800 n 3 0 0),(12,i64 (JH l left:Nat))],[⟨800,n,27,3,[.agg [str (sb p.grain),i64 p.mass,.sl false 2 (p.shs.map Au.D)]]⟩,⟨407,25,27,3,[.agg [str (sb x.grain),i64 x.mass,.sl false 2 (x.shs.map Au.D)]]⟩],m⟩) ?_ ?_
 ·have hE:JH l left=if Ia l left≠0 then Ia l left else if Av l<left then 13 else 0:=rfl
  rcases Nat.decEq (Ia l left) 0 with h1|h1
  ·have e1:=Mp h1
   rw[AF h1]at hE;rw[hE];refine AJ Ad (At e1 kT kF) AB AB AB AB AB AB ?_;exact⟨trivial,_,AI⟩
  ·have e1:=Mq h1
   rw[AE (λq=>q h1)]at hE;have hc0:CC l=0:=by
    unfold Ia at h1;split at h1
    ·rename_i q;exact AY h1 q
    ·rename_i q;exact Decidable.byContradiction q
   obtain⟨c1,c2,c3⟩:=Ly hc0;have cM:=ai b l ⟨by omega,λx q=>by have:=IL (c2 x q);omega⟩
   by_cases h2:Av l<left
   ·have e2:decide (Av l<left)=true:=AX h2
    rw[AF h2]at hE;rw[hE];refine AJ Ad (BV e1 e2 kT kF) cM AB AB AB AB AB ?_;exact⟨trivial,_,AI⟩
   ·have e2:decide (Av l<left)=false:=Af h2
    rw[AE h2]at hE;rw[hE];rw[h1]at e1⊢;refine AJ Ad (BV e1 e2 kT kF) cM AB AB AB AB AB ?_;exact⟨trivial,_,AI⟩
 intro m;refine JM (λm=>⟨[(0,A0 b l),(2,i64 left),(9,.optr 407 25 3 0 0),(10,.sl false 2 ((Fq l left).map BM)),(11,i64 (DX l left:Nat)),(13,.optr 800 n 3 0 0),(12,i64 (JI l left:Nat))],[⟨800,n,27,3,[.agg [str (sb p.grain),i64 p.mass,.sl false 2 (p.shs.map Au.D)]]⟩,⟨407,25,27,3,[.agg [str (sb x.grain),i64 x.mass,.sl false 2 (x.shs.map Au.D)]]⟩],m⟩) ?_ ?_
 ·have hE:JI l left=if JH l left≠0 then JH l left else if CZ l=false then 16 else 0:=rfl
  rcases Nat.decEq (JH l left) 0 with h1|h1
  ·have e1:=Mp h1
   rw[AF h1]at hE;rw[hE];refine AJ Ad (At e1 kT kF) AB AB AB AB AB AB ?_;exact⟨trivial,_,AI⟩
  ·have e1:=Mq h1
   rw[AE (λq=>q h1)]at hE;have cG:=kq b l (by omega);cases hG:CZ l
   ·rw[hG]at cG
    rw[hG,AF rfl]at hE;rw[hE];refine AJ Ad (At e1 kT kF) cG AB AB AB AB AB ?_;exact⟨trivial,_,AI⟩
   ·rw[hG]at cG
    rw[hG,AE (λq=>by cases q)]at hE;rw[hE];rw[h1]at e1⊢;refine AJ Ad (At e1 kT kF) cG AB AB AB AB AB ?_;exact⟨trivial,_,AI⟩
 intro m;refine sR 1800 ?_;refine sR 1900 ?_;have hxz:JI l left≠0->x=⟨[],0,[]⟩/\Fq l left=[]:=λh=>by
  have h3:DX l left≠0:=by rw[Wa h];exact h
  exact⟨by rw[<-hxx];exact AF h3,AF h3⟩
 refine JM (λm=>⟨[(9,.optr 407 25 3 0 0),(10,.sl false 2 ((Fq l left).map BM)),(11,i64 (DX l left:Nat)),(13,.optr 800 n 3 0 0),(14,.sl false 2 ((Fq l left).map BM)),(12,i64 (DX l left:Nat))],[⟨800,n,27,3,[.agg [str (sb x.grain),i64 x.mass,.sl false 2 (x.shs.map Au.D)]]⟩,⟨407,25,27,3,[.agg [str (sb x.grain),i64 x.mass,.sl false 2 (x.shs.map Au.D)]]⟩],m⟩) ?_ ?_
 ·rcases Nat.decEq (JI l left) 0 with h1|h1
  ·have e1:=Mp h1
   obtain⟨rfl,hL0⟩:=hxz h1;rw[hL0,Wa h1];refine AJ Ad e1 AB AB AB AB AB AB ?_;exact⟨trivial,_,AI (a:=Zv (Fx _)) (b:=⟨.refl _,.refl _,.refl _,.refl _,.nil 2,.refl _,trivial⟩)⟩
  ·have e1:=Mq h1
   obtain⟨c0,c1,c2,c3⟩:=jv h1;have cR:=kw b l left (by have:=(Ly c0).1;omega) (λx q=>(hx x q).2) c0 c1 c2 c3;rw[hxx]at cR;unfold AG.D CT at cR;refine AJ Ad e1 cR AB AB AB AB AB ?_;exact⟨trivial,_,AI⟩
 intro m;have n2:(((DX l left:Nat):Int)==((DX l left:Nat):Int))=true:=beq_self_eq_true _;have cSx:=Xs true true [x] (by simp) (by simp;omega);unfold A0 AG.D CT at cSx;rw[CJ,List.map_nil]at cSx;have cSl:=tj false false ((Fq l left).map λp=>(p.1,Al p.2)) (by rw[Ap];have:=jS (left:=left) λx q=>(hx x q).1;omega);rw[<-li]at cSl;refine AJ Ad (At n2 kT kF) cSx cSl ha AB AB AB ?_;exact AO rfl AA.out
def tA:List UInt8:=[97]
def tB:List UInt8:=[98]
def El:List UInt8:=[119,104,101,97,116]
def Lq:List UInt8:=[102,117,110,110,101,108]
def Cd (m:Int):AG:=⟨El,m,[⟨tA,[49]⟩]⟩
def Cy (m:Int):AG:=⟨El,m,[⟨tA,[49,47,50]⟩,⟨tB,[49,47,50]⟩]⟩
def Ey (x:AG):D:=.agg [str (sb x.grain),i64 x.mass,.sl true 2 (x.shs.map Au.D)]
def b6:D:=.agg [str (sb Lq),i64 4,i64 30,i64 12,.sl true 1 [.sl true 3 [Ey (Cd 10),Ey (Cy 6)],.sl true 3 [Ey (Cd 5)]]]
theorem rq:AK C0 47 [] b6:=CD DO 400 40 (by kernel_rfl)
def Lo (d d':D):Prop:=∀(ρ:Lk) (O:Nat->Prop) (w:World) (v:Value),AU ρ O w d v->AU ρ O w d' v
theorem Lo.refl (d:D):Lo d d:=λ_ _ _ _ h=>h
theorem Lo.agg {ds ds':List D}(hl:ds.length=ds'.length)(h:∀(i:Nat) (d d':D),ds[i]?=some d->ds'[i]?=some d'->Lo d d'):Lo (.agg ds) (.agg ds'):=λρ O w v hv=>by
 cases hv with
 |agg hn ho hd=>
  refine .agg (hn.trans hl) ho λi d' hd'=>?_
  have hi:i<ds.length:=by rw[hl];exact(List.getElem?_eq_some_iff.1 hd').1
  exact h i _ d' (BF hi) hd' _ _ _ _ (hd i _ (BF hi))
theorem Lo.tup {ds ds':List D}(hl:ds.length=ds'.length)(h:∀(i:Nat) (d d':D),ds[i]?=some d->ds'[i]?=some d'->Lo d d'):Lo (.tup ds) (.tup ds'):=λρ O w v hv=>by
 cases hv with
 |tup hn hd=>
  refine .tup (hn.trans hl) λi d' hd'=>?_
  have hi:i<ds.length:=by rw[hl];exact(List.getElem?_eq_some_iff.1 hd').1
  exact h i _ d' (BF hi) hd' _ _ _ _ (hd i _ (BF hi))
def Mw (e e':D):Prop:=e'.cells.length=e.cells.length/\∀(j:Nat) (d d':D),e.cells[j]?=some d->e'.cells[j]?=some d'->Lo d d'
theorem Lo.sl {b:Bool}{sz:Nat}{es es':List D}(hl:es.length=es'.length)(hc:∀(i:Nat) (e e':D),es[i]?=some e->es'[i]?=some e'->Mw e e'):Lo (.sl b sz es) (.sl false sz es'):=λρ O w v hv=>by
 cases hv with
 |nil=>
  have:es'=[]:=List.length_eq_zero_iff.1 hl.symm
  subst this;exact .nil sz
 |emp a=>
  have:es'=[]:=List.length_eq_zero_iff.1 hl.symm
  subst this;exact .emp a
 |sl f hl' hc' hO hb hz hcell ho h=>
  have hx:∀(i:Nat) (e':D),es'[i]?=some e'->∃e,es[i]?=some e/\Mw e e':=λi e' he'=>by
   have hi:i<es.length:=by rw[hl];exact(List.getElem?_eq_some_iff.1 he').1
   exact⟨_,BF hi,hc i _ e' (BF hi) he'⟩
  refine .sl f (hl.symm.trans hl') hc' hO hb (λi e' he'=>?_) hcell ho λi e' j d' he' hd'=>?_
  ·obtain⟨e,he,h1,h2⟩:=hx i e' he'
   rw[h1];exact hz i e he
  ·obtain⟨e,he,h1,h2⟩:=hx i e' he'
   have hj:j<e.cells.length:=by rw[<-h1];exact(List.getElem?_eq_some_iff.1 hd').1
   exact h2 j _ d' (BF hj) hd' _ _ _ _ (h i e j _ he (BF hj))
def loosen:Nat->D->D
 | 0,d=>d
 |n+1,.agg ds=>.agg (ds.map (loosen n))
 |n+1,.tup ds=>.tup (ds.map (loosen n))
 |n+1,.sl _ sz es=>.sl false sz (es.map (loosen n))
 |_+1,d=>d
theorem Sz {f:D->D}(hf:∀d,Lo d (f d))(ds:List D)(i:Nat)(d d':D)(h:ds[i]?=some d)(h':(ds.map f)[i]?=some d'):Lo d d':=by
 rw[BH,h]at h';cases h';exact hf d
theorem Vn:∀n:Nat,(∀d,Lo d (loosen n d))/\∀e,Mw e (loosen n e)
 | 0=>⟨λd=>.refl d,λe=>⟨rfl,λj d d' h h'=>by
   have:d=d':=by
    have:=h.symm.trans h'
    injection this
   subst this;exact .refl d⟩⟩
 |n+1=>by
  obtain⟨h1,h2⟩:=Vn n;have hs:∀(es:List D) (i:Nat) (e e':D),es[i]?=some e->(es.map (loosen n))[i]?=some e'->Mw e e':=λes i e e' h h'=>by
   rw[BH,h]at h';cases h';exact h2 e
  have hL:∀d,Lo d (loosen (n+1) d):=λd=>by
   cases d with
   |agg ds=>exact .agg (by simp) (Sz h1 ds)
   |tup ds=>exact .tup (by simp) (Sz h1 ds)
   |sl b sz es=>exact .sl (by simp) (hs es)
   |_=>exact .refl _
  refine⟨hL,λe=>?_⟩;have one:e.cells=[e]->(loosen (n+1) e).cells=[loosen (n+1) e]->Mw e (loosen (n+1) e):=λa b=>by
   refine⟨by rw[a,b];rfl,λj d d' h h'=>?_⟩;rw[a]at h;rw[b]at h'
   match j with
   | 0=>cases h;cases h';exact hL e
   |j+1=>cases h
  cases e with
  |agg ds=>exact⟨by simp[loosen,D.cells],λj d d' h h'=>Sz h1 ds j d d' h h'⟩
  |_=>exact one rfl rfl
theorem AK.loosen {C:BC}{f:Nat}{args:List D}{d:D}(h:AK C f args d)(n:Nat):AK C f args (loosen n d):=
 ⟨h.1,λX w vs a b c e g=>(h.2 X w vs a b c e g).mono λ_ _ ⟨v,d,h1,h2,h3,h4⟩=>⟨v,_,h1,h2,rfl,by subst h3;exact(Vn n).1 _ _ _ _ _ h4⟩⟩
theorem DG.clo2 {H:Hp}{fn:Fn}{c c' x x':D}(h:DG H c c')(k:DG H x x'):DG H (.clo fn [] [c,x]) (.clo fn [] [c',x']):=λC F ρ w m hO hN v hv=>by
 cases hv with
 |clo hf hc h1 h2=>
  refine .clo hf (by simpa using hc) (λi d hd=>by simp at hd) λi d hd=>?_
  match i with
  | 0=>
   simp at hd;subst hd;exact h C F ρ w m hO hN _ (h2 0 _ rfl)
  | 1=>
   simp at hd;subst hd;exact k C F ρ w m hO hN _ (h2 1 _ rfl)
  |i+2=>simp at hd
theorem SO (b bk:Bool)(T:List D)[pT:AA (.sl b 3 T)]:AK C0 141 [.sl b 3 T,Aq bk] (.clo (.func 185) [] [.pptr (.sl b 3 T),.pptr (Aq bk)]):=by
 refine vh w1 Yy rfl λF=>?_
 have hp:Bv (.clo (.func 185) [] [.pptr (.sl b 3 T),.pptr (Aq bk)]):=(AH:AA (.clo (.func 185) [] [.pptr (.sl b 3 T),.pptr (Aq bk)])).out;refine fR 0 ?_;refine fR 100 ?_;refine Ab ?_;exact⟨_,.clo2 (.ptr rfl rfl rfl rfl) (.ptr rfl rfl rfl rfl),hp,rfl⟩
theorem Tv {E:FP}{l:Nat}{R:LR}(hE:FP.ok E)(b bk:Bool)(T:List D)[pT:AA (.sl b 3 T)](hT:∀x∈T,∃a c d,x=.agg [a,c,d])(hl:T.length<=1000000)
  {σ:Type} (S:Nat->σ->Hp) (P:Nat->σ->Prop) (c:Code) (Z:Hp->Prop) (a0:σ) (h0:P 0 a0) (n0:Nat)
  (hY:∀k a x n,P k a->k<T.length->T[if bk then T.length-1-k else k]?=some x->P7 C0 E l R [x] (S k a) n (λj H' _=>(j=none/\∃a',P (k+1) a'/\CV H' (S (k+1) a') H' (S (k+1) a'))\/(j=some c/\Z H'))):
  Nh C0 E 185 [.clo (.yield l) [] [],.pptr (.sl b 3 T),.pptr (Aq bk)] l R (S 0 a0) n0 (λj _ H' _=>(j=none/\∃a,P T.length a/\H'=S T.length a)\/(j=some c/\Z H')):=by
 refine Nh.walk w1 hE YO rfl λB F hR=>?_
 obtain⟨N,hN⟩:∃N,T.length=N:=⟨_,rfl⟩
 rw[hN]at hY hl⊢;have el:((T.length:Nat):Int)=(N:Int):=by rw[hN]
 refine sZ 0 ?_;refine AD el ?_;refine AC.block ?_;refine Fr (α:=Nat×σ×Nat) (λp=>⟨[(0,.clo (.yield l) [] []),(1,.pptr (.sl b 3 T)),(2,.pptr (Aq bk)),(6,i64 (N:Int)),(7,i64 (p.1:Int))],S p.1 p.2.1,p.2.2⟩) (λp=>N-p.1)
  (λp F=>K5 C0 E B F l R/\p.1<=N/\P p.1 p.2.1) (0,a0,_) ⟨hR,BR _,h0⟩ AI ?_
 clear hR;rintro⟨i,a,m⟩ F ⟨hR,h1,hP⟩;dsimp only at h1 hR hP⊢;refine sR 100 ?_;refine AC.seq ?_;refine AL ?_
 (refine Br (λh8=>?_) (λh8=>?_))<;>(try simp only[Bf,Bp]at h8)<;>(try simp only[h8])
 ·have hi:i<N:=by
   have:=Cz h8
   omega
  have a3:IntKind.i64.wrap ((i:Int)+1)=((i+1:Nat):Int):=wI (by omega) (by omega);have a4:IntKind.i64.wrap ((N:Int)-1)=((N-1:Nat):Int):=by rw[wI (by omega) (by omega)];omega
  have a5:IntKind.i64.wrap (((N-1:Nat):Int)-(i:Int))=((N-1-i:Nat):Int):=by rw[wI (by omega) (by omega)];omega
  have hq:(if bk then N-1-i else i)<T.length:=by rw[hN];split<;>omega
  obtain⟨x,hx⟩:∃x,T[if bk then N-1-i else i]?=some x:=⟨_,BF hq⟩
  have hy:=λn=>hY i a x n hP hi hx
  obtain⟨x1,x2,x3,rfl⟩:=hT x (A8 hx);refine Aj ?_;refine AC.seq ?_;refine AC.block ?_;refine sR 200 ?_;refine AC.seq ?_;refine sR 300 ?_;cases bk
  ·replace hx:T[i]?=some (.agg [x1,x2,x3]):=hx
   refine AL ?_;refine Aj ?_;refine AC.seq ?_;refine bP w1 500 [0,1,2,3,4] 5 [6] rfl (by kernel_rfl) hR ?_;refine BL ?_;refine Bo kT hx ?_;refine And.intro ⟨rfl,trivial⟩ ?_;refine BL ?_;refine⟨rfl,_,hy _,?_,?_⟩
   ·rintro H2 n2 (⟨_,a',hP',hf⟩|⟨h,-⟩)
    rotate_left
    ·cases h
    refine And.intro (by exact B4) ?_;refine As ?_;refine AL ?_;refine Aj ?_;refine An w1 600 (by kernel_rfl) ?_;refine AT a3 ?_;exact⟨(i+1,a',_),⟨hR,hi,hP'⟩,(by dsimp only;omega),AI (a:=hf)⟩
   ·rintro c2 H2 n2 (⟨h,-⟩|⟨h,hZ⟩) F2 hst
    ·cases h
    cases h;refine BL ?_;refine AL ?_;refine AC.weak ⟨[],H2,_⟩ AI ?_;refine AC.ret ?_;exact⟨_,hst,trivial,.inr ⟨rfl,hZ⟩⟩
  ·replace hx:T[N-1-i]?=some (.agg [x1,x2,x3]):=hx
   refine AL ?_;refine An w1 400 (by kernel_rfl) ?_;refine AT (At a4 a5 el) ?_;refine AC.seq ?_;refine bP w1 500 [0,1,2,3,4] 5 [6] rfl (by kernel_rfl) hR ?_;refine BL ?_;refine Bo kT hx ?_;refine And.intro ⟨rfl,trivial⟩ ?_;refine BL ?_;refine⟨rfl,_,hy _,?_,?_⟩
   ·rintro H2 n2 (⟨_,a',hP',hf⟩|⟨h,-⟩)
    rotate_left
    ·cases h
    refine And.intro (by exact B4) ?_;refine As ?_;refine AL ?_;refine Aj ?_;refine An w1 600 (by kernel_rfl) ?_;refine AT a3 ?_;exact⟨(i+1,a',_),⟨hR,hi,hP'⟩,(by dsimp only;omega),AI (a:=hf)⟩
   ·rintro c2 H2 n2 (⟨h,-⟩|⟨h,hZ⟩) F2 hst
    ·cases h
    cases h;refine BL ?_;refine AL ?_;refine AC.weak ⟨[],H2,_⟩ AI ?_;refine AC.ret ?_;exact⟨_,hst,trivial,.inr ⟨rfl,hZ⟩⟩
 ·have hi:i=N:=by
   have:=C5 h8
   omega
  subst hi;refine B7 ?_;exact⟨none,hR.stat,trivial,.inl ⟨rfl,a,hP,rfl⟩⟩
def AG.w (x:AG)(m:Int):AG:=⟨x.grain,m,x.shs⟩
def HX:List AG->Int->List AG
 | [],_=>[]
 |x::r,m=>x.w (min x.mass m)::if m-x.mass<=0 then[]else HX r (m-x.mass)
def Gz (g1:Nat)(p:List AG×Int×Nat):Hp:=DB 408 p.2.2 27 3 (p.1.map AG.D)++[⟨100,g1,22,1,[DK 408 p.2.2 3 (p.1.map AG.D)]⟩,⟨0,0,3,1,[i64 p.2.1]⟩]
theorem Xk (g1:Nat)(m:Int)(g:Nat):Gz g1 ([],m,g)=[⟨100,g1,22,1,[CE]⟩,⟨0,0,3,1,[i64 m]⟩]:=rfl
theorem SF (g1:Nat)(z:AG)(o:List AG)(m:Int)(g:Nat):Gz g1 (z::o,m,g)=[⟨408,g,27,3,z.D::o.map AG.D⟩,⟨100,g1,22,1,[.osl 408 g 3 0 ((o.map AG.D).length+1)]⟩,⟨0,0,3,1,[i64 m]⟩]:=rfl
def Oj (L:List AG)(m:Int)(k:Nat)(p:List AG×Int×Nat):Prop:=p.1.length=k/\p.1++HX (L.drop k) p.2.1=HX L m/\0<=p.2.1/\p.2.1<=1000000000000
def KG (bk:Bool)(l:List AG):List AG:=if bk then l.reverse else l
theorem r5 (bk:Bool)(l:List AG){k:Nat}(hk:k<l.length):(l.map AG.D)[if bk then(l.map AG.D).length-1-k else k]?=((KG bk l)[k]?).map AG.D:=by
 unfold KG;rw[Ap,BH];cases bk
 ·rfl
 ·simp only[if_true]
  rw[List.getElem?_reverse hk]
theorem Xi (b bk:Bool)(l:List AG)(m:Int)(hl:l.length<=1000000)(hm:0<=m/\m<=1000000000000)(hx:∀x∈l,0<=x.mass/\x.mass<=1000000000)
  (ho:∀x∈l,∀m,AK C0 63 [x.D,i64 m] (x.w m).D) (R:D) [pR:AA R] (hN:AK C0 84 [A0 false (HX (KG bk l) m)] R):
  AK C0 91 [A0 b l,i64 m,Aq bk] R:=by
 refine Ai.walk w1 aV rfl λF=>?_
 have cV:=SO b bk (l.map AG.D);have hT:∀x∈l.map AG.D,∃a c d,x=.agg [a,c,d]:=λx hx=>by
  obtain⟨y,-,rfl⟩:=List.mem_map.1 hx;exact⟨_,_,_,rfl⟩
 have hoL:∀k,k<l.length->∃x,x∈l/\(KG bk l)[k]?=some x:=λk hk=>by
  unfold KG;cases bk
  ·exact⟨_,List.getElem_mem hk,BF hk⟩
  ·simp only[if_true]
   rw[List.getElem?_reverse hk]
   have:l.length-1-k<l.length:=by omega
   exact⟨_,List.getElem_mem this,BF this⟩
 have hlen:(KG bk l).length=l.length:=by unfold KG;cases bk<;>simp
 obtain⟨L,hL⟩:∃L,KG bk l=L:=⟨_,rfl⟩
 have hoA:=λk (hk:k<l.length)=>r5 bk l hk
 rw[hL]at hoL hoA hN hlen;unfold A0;obtain⟨T,hTT⟩:∃T,l.map AG.D=T:=⟨_,rfl⟩
 have pT:AA (.sl b 3 T):=by rw[<-hTT];exact AH
 have hTl:T.length=l.length:=by rw[<-hTT,Ap]
 rw[hTT]at cV hT hoA⊢;refine sR 0 ?_;refine sR 100 ?_;refine AC.seq ?_;refine sR 200 ?_;refine cI cV ?_;refine AC.block ?_;have h0:Oj L m 0 ([],m,0):=⟨rfl,rfl,hm⟩
 refine AC.rangeFunc (fi:=185) (first:=[]) (captured:=[.pptr (.sl b 3 T),.pptr (Aq bk)]) (Ψ:=λj _ H' _=>(j=none/\∃a,Oj L m T.length a/\H'=Gz 2 a)\/(j=some (.exit 0)/\∃m' g,H'=Gz 2 (HX L m,m',g))) rfl
  (λds H n Φ=>∃k a x,Oj L m k a/\k<T.length/\T[if bk then T.length-1-k else k]?=some x/\ds=[x]/\H=Gz 2 a/\Φ=λj H' _=>(j=none/\∃a',Oj L m (k+1) a'/\CV H' (Gz 2 a') H' (Gz 2 a'))\/(j=some (.exit 0)/\∃m' g,H'=Gz 2 (HX L m,m',g))) ?_
  (λE l' R' hE hY=>Tv hE b bk T hT (by omega) (λ_ a=>Gz 2 a) (Oj L m) (.exit 0) (λH'=>∃m' g,H'=Gz 2 (HX L m,m',g)) ([],m,0) h0 _ λk a x n hP hk hx=>hY _ _ _ _ ⟨k,a,x,hP,hk,hx,rfl,rfl,rfl⟩) ?_
 ·rintro l' ds H n Φ ⟨k,⟨o,m',g⟩,x,⟨p1,p2,p3,p4⟩,hk,hxT,rfl,rfl,rfl⟩
  dsimp only at p1 p2 p3 p4;obtain⟨y,hy1,hy2⟩:=hoL k (by omega);rw[hoA k (by omega),hy2]at hxT;cases hxT;have hd:L.drop k=y::L.drop (k+1):=by
   have:=(List.getElem?_eq_some_iff.1 hy2)
   rw[EQ this.1,this.2]
  rw[hd]at p2;have hb:=hx y hy1;have cO:=ho y hy1 (min y.mass m');have p5:(o++[y.w (min y.mass m')])++(if m'-y.mass<=0 then[]else HX (L.drop (k+1)) (m'-y.mass))=HX L m:=by
   rw[<-p2,Du];rfl
  have a1:IntKind.i64.wrap (m'-y.mass)=m'-y.mass:=wI (by omega) (by omega);refine⟨rfl,λF=>?_⟩;unfold AG.w AG.D at cO;unfold AG.D;dsimp only at cO⊢;obtain⟨SD,hSD⟩:∃d,CT false y.shs=d:=⟨_,rfl⟩
  have pS:AA SD:=by rw[<-hSD];exact AH
  rw[hSD]at cO⊢;rcases o with _|⟨z,o⟩
  ·rw[Xk]
   dsimp only[GT];refine An w1 300 (by kernel_rfl) ?_;refine AD kB ?_;refine⟨trivial,trivial,λF'=>?_⟩;refine AC.block ?_;refine AC.seq ?_;refine B5 w1 400 [0,1,2,3,4,5,6,7] [8,9] (by kernel_rfl) ?_;refine BL ?_;refine BS.same _ (cO) AH ?_;refine BL ?_;refine sZ 500 ?_;refine AT a1 ?_;refine sR 600 ?_;refine AC.weak ⟨[(27,Aq (decide (m'-y.mass<=0)))],[⟨408,n+1+1+10,27,3,[.agg [str (sb y.grain),i64 (min y.mass m'),SD]]⟩,⟨100,2,22,1,[.osl 408 (n+1+1+10) 3 0 1]⟩,⟨0,0,3,1,[i64 (m'-y.mass)]⟩],_⟩ AI ?_;rw[<-hSD]
   by_cases hz:m'-y.mass<=0
   ·rw[AX hz]
    rw[AF hz,DS]at p5;refine AL ?_;refine B7 ?_;refine .inr ⟨rfl,m'-y.mass,n+1+1+10,?_⟩;rw[<-p5];rfl
   ·rw[Af hz]
    rw[AE hz]at p5;refine AL ?_;refine Aj ?_;exact .inl ⟨rfl,([y.w (min y.mass m')],m'-y.mass,n+1+1+10),⟨by rw[<-p1];rfl,p5,by dsimp only;omega,by dsimp only;omega⟩,Fx _⟩
  ·have wl:AA (.sl false 3 ((z::o).map AG.D)):=AH
   have hol:o.length<=1000000:=by rw[Bl]at p1;omega
   rw[CJ]at wl;rw[SF];dsimp only[GT];obtain⟨O,hO⟩:∃O,o.map AG.D=O:=⟨_,rfl⟩
   obtain⟨zD,hzD⟩:∃O,z.D=O:=⟨_,rfl⟩
   have hOl:O.length=o.length:=by rw[<-hO,Ap]
   rw[hO,hzD];refine An w1 300 (by kernel_rfl) ?_;refine AD kB ?_;refine⟨trivial,trivial,λF'=>?_⟩;refine AC.block ?_;refine AC.seq ?_;refine B5 w1 400 [0,1,2,3,4,5,6,7] [8,9] (by kernel_rfl) ?_;refine BL ?_;refine BS.same _ (cO) AH ?_;refine BL ?_;rw[show List.take (O.length+1) (zD::O)=zD::O from DL (l:=zD::O)];refine sZ 500 ?_;refine AT a1 ?_;refine sR 600 ?_;refine AC.weak ⟨[(27,Aq (decide (m'-y.mass<=0)))],[⟨408,n+1+1+10,27,3,zD::O++[.agg [str (sb y.grain),i64 (min y.mass m'),SD]]⟩,⟨100,2,22,1,[.osl 408 (n+1+1+10) 3 0 (O.length+1+1)]⟩,⟨0,0,3,1,[i64 (m'-y.mass)]⟩],_⟩ AI ?_;have hs:∀g' mm,Gz 2 (z::o++[y.w (min y.mass m')],mm,g')=[⟨408,g',27,3,zD::O++[.agg [str (sb y.grain),i64 (min y.mass m'),SD]]⟩,⟨100,2,22,1,[.osl 408 g' 3 0 (O.length+1+1)]⟩,⟨0,0,3,1,[i64 mm]⟩]:=λg' mm=>by
    rw[EF,SF,<-hO,<-hzD,<-hSD,DE];rw[B3];rfl
   rw[<-hs]
   by_cases hz:m'-y.mass<=0
   ·rw[AX hz]
    rw[AF hz,DS]at p5;refine AL ?_;refine B7 ?_;exact .inr ⟨rfl,m'-y.mass,n+1+1+10,by rw[<-p5];rfl⟩
   ·rw[Af hz]
    rw[AE hz]at p5;refine AL ?_;refine Aj ?_;exact .inl ⟨rfl,(z::o++[y.w (min y.mass m')],m'-y.mass,n+1+1+10),⟨by rw[<-p1];simp,p5,by dsimp only;omega,by dsimp only;omega⟩,Fx _⟩
 ·rintro j d H' n' F' hE
  have hE2:∃m' g,H'=Gz 2 (HX L m,m',g)/\(j=none\/j=some (.exit 0)):=by
   rcases hE with⟨hj,⟨o,m',g⟩,⟨p1,p2,-,-⟩,rfl⟩|⟨hj,m',g,rfl⟩
   ·refine⟨m',g,?_,.inl hj⟩
    dsimp only at p2;rw[List.drop_eq_nil_of_le (by omega)]at p2;rw[show o=HX L m by rw[<-p2];exact(DS o).symm]
   ·exact⟨m',g,rfl,.inr hj⟩
  obtain⟨m',g,rfl,hj⟩:=hE2;obtain⟨o,hO⟩:∃o,HX L m=o:=⟨_,rfl⟩
  rw[hO]at hN⊢;rcases o with _|⟨z,o⟩
  ·rw[Xk]
   rcases hj with rfl|rfl
   all_goals
    change AC _ _ _ _ _ _ _;refine sR 700 ?_;refine Az.pure [.sl false 3 []] _ ⟨.nil 3,trivial⟩ hN AH ?_;refine BL ?_;refine Ab ?_;exact AO rfl pR.out
  ·have hR:=IN (H:=Gz 2 (z::o,m',g)) (Hf:=[]) (k:=408) (g:=g) (T:=27) (sz:=3) (l:=(z::o).map AG.D) rfl
   have hle:((z::o).map AG.D).length=(o.map AG.D).length+1:=rfl;rw[hle]at hR;rw[SF]at hR⊢;rcases hj with rfl|rfl
   all_goals
    change AC _ _ _ _ _ _ _;refine sR 700 ?_;refine Az.own _ (KJ [] hN (.drop (.drop (.drop .nil))) ⟨hR,trivial⟩ AH) ?_;rintro d H2 n2 ⟨rfl,rfl,rfl⟩;refine BL ?_;refine Ab ?_;exact AO rfl pR.out
abbrev SV:Dr:=[(1,[0,1,2,3,4,5,6],[7]),(9,[0,1,2,3,4],[5,6])]
open Go.Proofs Go.RowKit
set_option maxRecDepth 20000
set_option maxHeartbeats 4000000
def K9:List AG->Int->Int->List AG
 | [],_,_=>[]
 |x::r,low,left=>x.w (min (x.mass-min x.mass low) left)::K9 r (low-min x.mass low) (left-min (x.mass-min x.mass low) left)
structure US where
 o:List AG
 low:Int
 left:Int
 g:Nat
def JC (g1 g2:Nat)(p:US):Hp:=DB 905 p.g 27 3 (p.o.map AG.D)++[⟨200,g2,22,1,[DK 905 p.g 3 (p.o.map AG.D)]⟩,⟨106,g1,3,1,[i64 p.left]⟩,⟨0,0,3,1,[i64 p.low]⟩]
theorem W6 (g1 g2:Nat)(a b:Int)(g:Nat):JC g1 g2 ⟨[],a,b,g⟩=[⟨200,g2,22,1,[CE]⟩,⟨106,g1,3,1,[i64 b]⟩,⟨0,0,3,1,[i64 a]⟩]:=rfl
theorem Pi (g1 g2:Nat)(z:AG)(o:List AG)(a b:Int)(g:Nat):JC g1 g2 ⟨z::o,a,b,g⟩=[⟨905,g,27,3,z.D::o.map AG.D⟩,⟨200,g2,22,1,[.osl 905 g 3 0 ((o.map AG.D).length+1)]⟩,⟨106,g1,3,1,[i64 b]⟩,⟨0,0,3,1,[i64 a]⟩]:=rfl
def N6 (L:List AG)(low left:Int)(k:Nat)(p:US):Prop:=p.o.length=k/\p.o++K9 (L.drop k) p.low p.left=K9 L low left/\0<=p.low/\p.low<=1000000000000/\0<=p.left/\p.left<=1000000000000000
theorem eO (b:Bool)(l:List AG)(low high:Int)(hl:l.length<=1000000)(h1:0<=low/\low<=1000000000000)(h2:0<=high/\high<=1000000000000)(t:Int)(ht:low+high<=t/\t<=1000000000000000)(hx:∀x∈l,0<=x.mass/\x.mass<=1000000000)
  (cT:AK C0 59 [A0 b l] (i64 t))
  (ho:∀x∈l,∀m,AK C0 63 [x.D,i64 m] (x.w m).D) (R:D) [pR:AA R] (hN:AK C0 84 [A0 false (K9 l low (t-low-high))] R):
  AK C0 92 [A0 b l,i64 low,i64 high] R:=by
 refine Ai.walk w1 aW rfl λF=>?_
 have cV:=SO b false (l.map AG.D);have hT:∀x∈l.map AG.D,∃a c d,x=.agg [a,c,d]:=λx hx=>by
  obtain⟨y,-,rfl⟩:=List.mem_map.1 hx;exact⟨_,_,_,rfl⟩
 have hoA:∀k,k<l.length->∃y,y∈l/\l[k]?=some y/\(l.map AG.D)[if false then(l.map AG.D).length-1-k else k]?=some y.D:=λk hk=>⟨_,List.getElem_mem hk,BF hk,by
  show(l.map AG.D)[k]?=_;rw[BH,BF hk];rfl⟩
 unfold A0 at cT⊢;obtain⟨T,hTT⟩:∃T,l.map AG.D=T:=⟨_,rfl⟩
 have pT:AA (.sl b 3 T):=by rw[<-hTT];exact AH
 have hTl:T.length=l.length:=by rw[<-hTT,Ap]
 rw[hTT]at cV hT hoA cT⊢;have w1':IntKind.i64.wrap (t-low)=t-low:=wI (by omega) (by omega);have w2:IntKind.i64.wrap (t-low-high)=t-low-high:=wI (by omega) (by omega);obtain⟨e,he⟩:∃e,t-low-high=e:=⟨_,rfl⟩
 have w2':IntKind.i64.wrap (t-low-high)=e:=by rw[w2,he]
 rw[he]at hN;have he0:0<=e/\e<=1000000000000000:=by omega
 refine AJ SV (Ac w1' w2') cT cV AB AB AB AB ?_;have h0:N6 l low e 0 ⟨[],low,e,0⟩:=⟨rfl,rfl,h1.1,h1.2,he0.1,he0.2⟩
 refine AC.rangeFunc (fi:=185) (first:=[]) (captured:=[.pptr (.sl b 3 T),.pptr (Aq false)]) (Ψ:=λj _ H' _=>(j=none/\∃a,N6 l low e T.length a/\H'=JC 8 11 a)\/(j=some (.exit 0)/\False)) rfl
  (λds H n Φ=>∃k a x,N6 l low e k a/\k<T.length/\T[if false then T.length-1-k else k]?=some x/\ds=[x]/\H=JC 8 11 a/\Φ=λj H' _=>(j=none/\∃a',N6 l low e (k+1) a'/\CV H' (JC 8 11 a') H' (JC 8 11 a'))\/(j=some (.exit 0)/\False)) ?_
  (λE l' R' hE hY=>Tv hE b false T hT (by omega) (λ_ a=>JC 8 11 a) (N6 l low e) (.exit 0) (λ_=>False) ⟨[],low,e,0⟩ h0 _ λk a x n hP hk hx=>hY _ _ _ _ ⟨k,a,x,hP,hk,hx,rfl,rfl,rfl⟩) ?_
 ·rintro l' ds H n Φ ⟨k,⟨o,lw,lf,g⟩,x,⟨p1,p2,p3,p4,p6,p7⟩,hk,hxT,rfl,rfl,rfl⟩
  dsimp only at p1 p2 p3 p4 p6 p7;obtain⟨y,hy1,hy2,hy3⟩:=hoA k (by omega);rw[hy3]at hxT;cases hxT;have hd:l.drop k=y::l.drop (k+1):=by
   have:=(List.getElem?_eq_some_iff.1 hy2)
   rw[EQ this.1,this.2]
  rw[hd]at p2;have hb:=hx y hy1;have cO:=ho y hy1 (min (y.mass-min y.mass lw) lf);have p5:(o++[y.w (min (y.mass-min y.mass lw) lf)])++K9 (l.drop (k+1)) (lw-min y.mass lw) (lf-min (y.mass-min y.mass lw) lf)=K9 l low e:=by
   rw[<-p2,Du];rfl
  have a1:IntKind.i64.wrap (lw-min y.mass lw)=lw-min y.mass lw:=wI (by omega) (by omega);have a2:IntKind.i64.wrap (y.mass-min y.mass lw)=y.mass-min y.mass lw:=wI (by omega) (by omega);have a3:IntKind.i64.wrap (lf-min (y.mass-min y.mass lw) lf)=lf-min (y.mass-min y.mass lw) lf:=wI (by omega) (by omega);have q1:0<=lw-min y.mass lw/\lw-min y.mass lw<=1000000000000/\0<=lf-min (y.mass-min y.mass lw) lf/\lf-min (y.mass-min y.mass lw) lf<=1000000000000000:=by omega
  refine⟨rfl,λF=>?_⟩;unfold AG.w AG.D at cO;unfold AG.D;dsimp only at cO⊢;obtain⟨SD,hSD⟩:∃d,CT false y.shs=d:=⟨_,rfl⟩
  have pS:AA SD:=by rw[<-hSD];exact AH
  rw[hSD]at cO⊢;rcases o with _|⟨z,o⟩
  ·rw[W6]
   dsimp only[GT];refine An w1 400 (by kernel_rfl) ?_;refine AD kB ?_;refine⟨trivial,trivial,λF'=>?_⟩;refine AJ SV (At a1 a2 a3) cO AB AB AB AB AB ?_;refine .inl ⟨rfl,⟨[y.w (min (y.mass-min y.mass lw) lf)],lw-min y.mass lw,lf-min (y.mass-min y.mass lw) lf,n+1+1+1+1+1+1+1+1+1+1+1+1+1+1+1+1+1+1+1+1+1+1+7⟩,⟨by rw[<-p1];rfl,p5,q1⟩,?_⟩;rw[Pi,<-hSD];exact .keep (.drop (Fx _))
  ·have hol:o.length<=1000000:=by rw[Bl]at p1;omega
   rw[Pi];dsimp only[GT];obtain⟨O,hO⟩:∃O,o.map AG.D=O:=⟨_,rfl⟩
   obtain⟨zD,hzD⟩:∃O,z.D=O:=⟨_,rfl⟩
   have hOl:O.length=o.length:=by rw[<-hO,Ap]
   rw[hO,hzD];refine An w1 400 (by kernel_rfl) ?_;refine AD kB ?_;refine⟨trivial,trivial,λF'=>?_⟩;refine AJ SV (At a1 a2 a3) cO AB AB AB AB AB ?_;rw[show List.take (O.length+1) (zD::O)=zD::O from DL (l:=zD::O)];refine .inl ⟨rfl,⟨z::o++[y.w (min (y.mass-min y.mass lw) lf)],lw-min y.mass lw,lf-min (y.mass-min y.mass lw) lf,n+1+1+1+1+1+1+1+1+1+1+1+1+1+1+1+1+1+1+1+1+1+1+7⟩,⟨by rw[<-p1];simp,p5,q1⟩,?_⟩;have hs:∀g' a b,JC 8 11 ⟨z::o++[y.w (min (y.mass-min y.mass lw) lf)],a,b,g'⟩=[⟨905,g',27,3,zD::O++[.agg [str (sb y.grain),i64 (min (y.mass-min y.mass lw) lf),SD]]⟩,⟨200,11,22,1,[.osl 905 g' 3 0 (O.length+1+1)]⟩,⟨106,8,3,1,[i64 b]⟩,⟨0,0,3,1,[i64 a]⟩]:=λg' a b=>by
    rw[EF,Pi,<-hO,<-hzD,<-hSD,DE];rw[B3];rfl
   rw[hs];exact .keep (.drop (Fx _))
 ·rintro j d H' n' F' hE
  rcases hE with⟨rfl,⟨o,lw,lf,g⟩,⟨p1,p2,-⟩,rfl⟩|⟨-,h⟩
  rotate_left
  ·exact h.elim
  dsimp only at p2;rw[List.drop_eq_nil_of_le (by omega)]at p2;have ho2:o=K9 l low e:=by rw[<-p2];exact(DS o).symm
  rw[<-ho2]at hN;rcases o with _|⟨z,o⟩
  ·rw[W6]
   change AC _ _ _ _ _ _ _;refine sR 1000 ?_;refine Az.pure [.sl false 3 []] _ ⟨.nil 3,trivial⟩ hN AH ?_;refine BL ?_;refine Ab ?_;exact AO rfl pR.out
  ·have hR:=IN (H:=JC 8 11 ⟨z::o,lw,lf,g⟩) (Hf:=[]) (k:=905) (g:=g) (T:=27) (sz:=3) (l:=(z::o).map AG.D) rfl
   have hle:((z::o).map AG.D).length=(o.map AG.D).length+1:=rfl;rw[hle]at hR;rw[Pi]at hR⊢;change AC _ _ _ _ _ _ _;refine sR 1000 ?_;refine Az.own _ (KJ [] hN (.drop (.drop (.drop (.drop .nil)))) ⟨hR,trivial⟩ AH) ?_;rintro d H2 n2 ⟨rfl,rfl,rfl⟩;refine BL ?_;refine Ab ?_;exact AO rfl pR.out
def QU (lot:List UInt8)(x:AG):Bool:=x.shs.any λs=>Bj (sb s.lot) (sb lot)
def KV (lot:List UInt8):List AG->Int->List (Int×Int)
 | [],_=>[]
 |x::r,n=>(if QU lot x then[(n+1,n+x.mass)]else[])++KV lot r (n+x.mass)
def Fd (p:Int×Int):D:=.agg [i64 p.1,i64 p.2]
instance  (p:Int×Int):Ak (Fd p):=by unfold Fd;exact AH
instance  (p:Int×Int):AA (Fd p):=by unfold Fd;exact AH
theorem uE (lot:List UInt8)(s:Au):AK C0 187 [s.D,.pptr (str (sb lot))] (Aq (Bj (sb s.lot) (sb lot))):=by
 refine Ai.walk w1 YQ rfl λF=>?_
 unfold Au.D;refine AJ Ad kB AB AB AB AB AB AB ?_;exact AO rfl AA.out
theorem sq (b:Bool)(l:List Au)(c:D)[pc:AA c](p:Au->Bool)(hl:l.length<=1000000)(hc:∀x∈l,AK C0 187 [x.D,c] (Aq (p x))):AK C0 233 [CT b l,.clo (.func 187) [] [c]] (i64 (KC p l)):=by
 refine Ai.walk w1 ZZ rfl λF=>?_
 have el:(((l.map Au.D).length:Nat):Int)=(l.length:Int):=by rw[Ap]
 refine AJ Ad el AB AB AB AB AB AB ?_;refine AC.loop (α:=Nat×Nat) (λp=>⟨[(0,CT b l),(1,.clo (.func 187) [] [c]),(7,i64 l.length),(8,i64 (p.1:Int))],[],p.2⟩) (λp=>l.length-p.1) (λq=>q.1<=l.length/\∀(j:Nat) (x:Au),j<q.1->l[j]?=some x->p x=false) (0,_) ⟨BR _,λj x hj=>AY hj (HP j)⟩ AI ?_;rintro⟨i,n⟩ F ⟨hi,ha⟩;dsimp only at hi ha⊢;rcases BI i l.length with h2|h2
 rotate_left
 ·have e1:=Ca h2
  have:i=l.length:=by omega
  subst this;refine AJ Ad e1 AB AB AB AB AB AB ?_;exact AO (by rw[Vv ha]) AA.out
 have e1:=CX h2;have wi:=Cf (i:=i) (by omega);obtain⟨x,hx⟩:=CQ h2;have hm:(l.map Au.D)[i]?=some (.agg [str (sb x.lot),str (sb x.part)]):=by rw[BH,hx];rfl
 have cn:=hc x (A8 hx);unfold Au.D at cn;cases hb:p x
 ·rw[hb]at cn
  refine AJ Ad (At e1 wi kN) hm cn AB AB AB AB ?_;refine⟨(i+1,_),⟨h2,λj z hj hjz=>?_⟩,by dsimp only;omega,AI⟩;rcases BI j i with h|h
  ·exact ha j z h hjz
  ·have:j=i:=by dsimp only at hj;omega
   subst this;rw[hx]at hjz;cases hjz;exact hb
 ·rw[hb]at cn
  refine AJ Ad (At e1 wi kN) hm cn AB AB AB AB ?_;exact AO (by rw[XP hx hb ha]) AA.out
theorem sk (b:Bool)(l:List Au)(c:D)[pc:AA c](p:Au->Bool)(hl:l.length<=1000000)(hc:∀x∈l,AK C0 187 [x.D,c] (Aq (p x))):AK C0 186 [CT b l,.clo (.func 187) [] [c]] (Aq (l.any p)):=by
 refine Ai.walk w1 YP rfl λF=>?_
 have c1:=sq b l c p hl hc;have e1:=XQ p l;refine AJ Ad e1 c1 AB AB AB AB AB ?_;exact AO rfl AA.out
structure UU where
 o:List (Int×Int)
 n:Int
 g:Nat
def JZ (lot:List UInt8)(g1 g2:Nat)(p:UU):Hp:=DB 609 p.g 132 2 (p.o.map Fd)++[⟨200,g2,3,1,[i64 p.n]⟩,⟨100,g1,130,1,[DK 609 p.g 2 (p.o.map Fd)]⟩,⟨0,0,9,1,[str (sb lot)]⟩]
theorem Xu (lot:List UInt8)(g1 g2:Nat)(n:Int)(g:Nat):JZ lot g1 g2 ⟨[],n,g⟩=[⟨200,g2,3,1,[i64 n]⟩,⟨100,g1,130,1,[CE]⟩,⟨0,0,9,1,[str (sb lot)]⟩]:=rfl
theorem Pd (lot:List UInt8)(g1 g2:Nat)(z:Int×Int)(o:List (Int×Int))(n:Int)(g:Nat):JZ lot g1 g2 ⟨z::o,n,g⟩=[⟨609,g,132,2,Fd z::o.map Fd⟩,⟨200,g2,3,1,[i64 n]⟩,⟨100,g1,130,1,[.osl 609 g 2 0 ((o.map Fd).length+1)]⟩,⟨0,0,9,1,[str (sb lot)]⟩]:=rfl
def OI (lot:List UInt8)(l:List AG)(k:Nat)(p:UU):Prop:=p.o.length<=k/\p.o++KV lot (l.drop k) p.n=KV lot l 0/\0<=p.n/\p.n<=(k:Int)*1000000000
theorem dG (b:Bool)(l:List AG)(lot:List UInt8)(hl:l.length<=1000000)(hx:∀x∈l,0<=x.mass/\x.mass<=1000000000/\x.shs.length<=1000000):
  AK C0 142 [A0 b l,str (sb lot)] (.sl false 2 ((KV lot l 0).map Fd)):=by
 refine Ai.walk w1 Yz rfl λF=>?_
 have cV:=SO b false (l.map AG.D);have hT:∀x∈l.map AG.D,∃a c d,x=.agg [a,c,d]:=λx hx=>by
  obtain⟨y,-,rfl⟩:=List.mem_map.1 hx;exact⟨_,_,_,rfl⟩
 have hoA:∀k,k<l.length->∃y,y∈l/\l[k]?=some y/\(l.map AG.D)[if false then(l.map AG.D).length-1-k else k]?=some y.D:=λk hk=>⟨_,List.getElem_mem hk,BF hk,by
  show(l.map AG.D)[k]?=_;rw[BH,BF hk];rfl⟩
 unfold A0;obtain⟨T,hTT⟩:∃T,l.map AG.D=T:=⟨_,rfl⟩
 have pT:AA (.sl b 3 T):=by rw[<-hTT];exact AH
 have hTl:T.length=l.length:=by rw[<-hTT,Ap]
 rw[hTT]at cV hT hoA⊢;refine AJ Ad kB cV AB AB AB AB AB ?_;have h0:OI lot l 0 ⟨[],0,0⟩:=⟨Ag _,rfl,Int.le_refl _,Int.le_refl _⟩
 refine AC.rangeFunc (fi:=185) (first:=[]) (captured:=[.pptr (.sl b 3 T),.pptr (Aq false)]) (Ψ:=λj _ H' _=>(j=none/\∃a,OI lot l T.length a/\H'=JZ lot 2 3 a)\/(j=some (.exit 0)/\False)) rfl
  (λds H n Φ=>∃k a x,OI lot l k a/\k<T.length/\T[if false then T.length-1-k else k]?=some x/\ds=[x]/\H=JZ lot 2 3 a/\Φ=λj H' _=>(j=none/\∃a',OI lot l (k+1) a'/\CV H' (JZ lot 2 3 a') H' (JZ lot 2 3 a'))\/(j=some (.exit 0)/\False)) ?_
  (λE l' R' hE hY=>Tv hE b false T hT (by omega) (λ_ a=>JZ lot 2 3 a) (OI lot l) (.exit 0) (λ_=>False) ⟨[],0,0⟩ h0 _ λk a x n hP hk hx=>hY _ _ _ _ ⟨k,a,x,hP,hk,hx,rfl,rfl,rfl⟩) ?_
 ·rintro l' ds H n Φ ⟨k,⟨o,nn,g⟩,x,⟨p1,p2,p3,p4⟩,hk,hxT,rfl,rfl,rfl⟩
  dsimp only at p1 p2 p3 p4;obtain⟨y,hy1,hy2,hy3⟩:=hoA k (by omega);rw[hy3]at hxT;cases hxT;have hd:l.drop k=y::l.drop (k+1):=by
   have:=(List.getElem?_eq_some_iff.1 hy2)
   rw[EQ this.1,this.2]
  rw[hd]at p2;have hb:=hx y hy1;have cH:=sk false y.shs (.pptr (str (sb lot))) (λs=>Bj (sb s.lot) (sb lot)) hb.2.2 λs _=>uE lot s
  have hK:(y.shs.any λs=>Bj (sb s.lot) (sb lot))=QU lot y:=rfl;rw[hK]at cH;have p5:(o++(if QU lot y then[(nn+1,nn+y.mass)]else[]))++KV lot (l.drop (k+1)) (nn+y.mass)=KV lot l 0:=by
   rw[<-p2,Du];rfl
  obtain⟨K,hKK⟩:∃K,QU lot y=K:=⟨_,rfl⟩
  rw[hKK]at cH p5;have a1:IntKind.i64.wrap (nn+y.mass)=nn+y.mass:=wI (by omega) (by omega);have a2:IntKind.i64.wrap (nn+1)=nn+1:=wI (by omega) (by omega);have q1:0<=nn+y.mass/\nn+y.mass<=((k+1:Nat):Int)*1000000000:=by omega
  refine⟨rfl,λF=>?_⟩;unfold AG.D;unfold CT at cH⊢;obtain⟨SD,hSD⟩:∃d,y.shs.map Au.D=d:=⟨_,rfl⟩
  have pS:AA (.sl false 2 SD):=by rw[<-hSD];exact AH
  rw[hSD]at cH⊢;rcases o with _|⟨z,o⟩
  ·rw[Xu]
   dsimp only[GT];refine An w1 400 (by kernel_rfl) ?_;refine AD kB ?_;refine⟨trivial,trivial,λF'=>?_⟩;refine AJ Ad kB AB AB AB AB AB AB ?_;refine Az.own _ (Ic cH rfl (λi a d h1 h2=>by
    match i with
    | 0=>cases h1;cases h2;exact .refl _ _
    | 1=>cases h1;cases h2;exact .clo1 (.ptr rfl rfl rfl rfl)
    |n+2=>cases h1) AH (.prim _)) ?_
   rintro d H' n' ⟨rfl,rfl,rfl⟩;cases K
   ·refine AJ Ad (Ac a1 a2) AB AB AB AB AB AB ?_
    exact .inl ⟨rfl,⟨[],nn+y.mass,0⟩,⟨BR _,p5,q1⟩,.drop (Fx _)⟩
   ·refine AJ Ad (Ac a1 a2) AB AB AB AB AB AB ?_
    exact .inl ⟨rfl,⟨[(nn+1,nn+y.mass)],nn+y.mass,n+1+1+1+1+1+1+1+1+1+1+1+1+1+1+1⟩,⟨by simp,p5,q1⟩,.keep (.drop (Fx _))⟩
  ·have hol:o.length<=1000000:=by rw[Bl]at p1;omega
   rw[Pd];dsimp only[GT];obtain⟨O,hO⟩:∃O,o.map Fd=O:=⟨_,rfl⟩
   obtain⟨zD,hzD⟩:∃O,Fd z=O:=⟨_,rfl⟩
   have hOl:O.length=o.length:=by rw[<-hO,Ap]
   rw[hO,hzD];refine An w1 400 (by kernel_rfl) ?_;refine AD kB ?_;refine⟨trivial,trivial,λF'=>?_⟩;refine AJ Ad kB AB AB AB AB AB AB ?_;refine Az.own _ (Ic cH rfl (λi a d h1 h2=>by
    match i with
    | 0=>cases h1;cases h2;exact .refl _ _
    | 1=>cases h1;cases h2;exact .clo1 (.ptr rfl rfl rfl rfl)
    |n+2=>cases h1) AH (.prim _)) ?_
   rintro d H' n' ⟨rfl,rfl,rfl⟩;cases K
   ·refine AJ Ad (Ac a1 a2) AB AB AB AB AB AB ?_
    refine .inl ⟨rfl,⟨z::o,nn+y.mass,g⟩,⟨Nat.le_succ_of_le p1,by rw[<-p5,AE Bool.false_ne_true,DS],q1⟩,?_⟩;rw[Pd,hO,hzD];exact .drop (Fx _)
   ·refine AJ Ad (Ac a1 a2) AB AB AB AB AB AB ?_
    rw[show List.take (O.length+1) (zD::O)=zD::O from DL (l:=zD::O)];refine .inl ⟨rfl,⟨z::o++[(nn+1,nn+y.mass)],nn+y.mass,n+1+1+1+1+1+1+1+1+1+1+1+1+1+1+1⟩,⟨by rw[B3];exact Nat.succ_le_succ p1,p5,q1⟩,?_⟩;have hs:∀g' a,JZ lot 2 3 ⟨z::o++[(nn+1,nn+y.mass)],a,g'⟩=[⟨609,g',132,2,zD::O++[.agg [i64 (nn+1),i64 (nn+y.mass)]]⟩,⟨200,3,3,1,[i64 a]⟩,⟨100,2,130,1,[.osl 609 g' 2 0 (O.length+1+1)]⟩,⟨0,0,9,1,[str (sb lot)]⟩]:=λg' a=>by
     rw[EF,Pd,<-hO,<-hzD,DE];rw[B3];rfl
    rw[hs];exact .keep (.drop (Fx _))
 ·rintro j d H' n' F' hE
  rcases hE with⟨rfl,⟨o,nn,g⟩,⟨p1,p2,-⟩,rfl⟩|⟨-,h⟩
  rotate_left
  ·exact h.elim
  dsimp only at p2;rw[List.drop_eq_nil_of_le (by omega)]at p2;have ho2:o=KV lot l 0:=by rw[<-p2];exact(DS o).symm
  rw[<-ho2];rcases o with _|⟨z,o⟩
  ·rw[Xu]
   change AC _ _ _ _ _ _ _;refine sR 800 ?_;refine Ab ?_;exact⟨_,.nil 2,AA.out,rfl⟩
  ·have hR:=IN (H:=JZ lot 2 3 ⟨z::o,nn,g⟩) (Hf:=[]) (k:=609) (g:=g) (T:=132) (sz:=2) (l:=(z::o).map Fd) rfl
   have hle:((z::o).map Fd).length=(o.map Fd).length+1:=rfl;rw[hle]at hR;rw[Pd]at hR⊢;change AC _ _ _ _ _ _ _;refine sR 800 ?_;refine Ab ?_;exact⟨_,hR,AA.out,rfl⟩
end Go.Ide
namespace Go.Proofs
open Go.Shelf Go.RowKit Go.Lib
def Tryz.growLay_ren:Go.Shelf.Ren:=⟨fun|4=>140|n=>n,fun|22=>22|25=>27|3=>3|4=>4|9=>9|20=>20|0=>0|n=>n,fun|n=>n⟩
theorem vZ:Go.Proofs.Lays8.n4 Tryz.prog Tryz.growLay_ren:={
 mixed:=by kernel_rfl
 f4:=⟨Tryz.f140.name,by decide,Tryz.func140.trans (congrArg some (by kernel_rfl))⟩
 t0:=Tryz.underlying0
 a0:=Tryz.isAgg0
 z0:=Tryz.sizeOf0
 v0:=Tryz.zeroValue0
 t3:=Tryz.underlying3
 a3:=Tryz.isAgg3
 z3:=Tryz.sizeOf3
 v3:=Tryz.zeroValue3
 t4:=Tryz.underlying4
 a4:=Tryz.isAgg4
 z4:=Tryz.sizeOf4
 v4:=Tryz.zeroValue4
 t9:=Tryz.underlying9
 a9:=Tryz.isAgg9
 z9:=Tryz.sizeOf9
 v9:=Tryz.zeroValue9
 t20:=Tryz.underlying20
 a20:=Tryz.isAgg20
 z20:=Tryz.sizeOf20
 v20:=Tryz.zeroValue20
 t22:=Tryz.underlying22
 a22:=Tryz.isAgg22
 z22:=Tryz.sizeOf22
 v22:=Tryz.zeroValue22 }
end Go.Proofs
namespace Go.Ide
open Go.Proofs Go.RowKit Go.Lib
set_option maxRecDepth 20000
set_option maxHeartbeats 4000000
theorem JV (K n:Nat)(h0:0<n)(hn:n<=1000000)(H:Hp)(m:Nat):CW C0 140 [CE,i64 (n:Int)] H m (λd H' n'=>d=.osl K m 3 0 0/\H'=⟨K,m,27,3,[]⟩::H/\n'=m+1):=by
 refine⟨by obtain⟨fn,a1,a2,a3,-⟩:=Yx;exact⟨fn,_,a1,a2,a3⟩,λF ρ w vs mm fr gn hsz rep=>?_⟩;obtain⟨v0,v1,rfl⟩:∃v0 v1,vs = #[v0,v1]:=by
  match vs,hsz with
  |⟨[a,b]⟩,_=>exact⟨a,b,rfl⟩
 have r0:AU ρ _ w CE v0:=rep 0 _ rfl;have r1:AU ρ _ w (i64 (n:Int)) v1:=rep 1 _ rfl;cases r0;cases r1;have hT:∃i,X1.tt 22=some i/\i.ti=.slice 27 3 48 (.agg #[.string ⟨#[]⟩,.int .i64 0,.slice none 0 0]):=⟨_,rfl,rfl⟩
 obtain⟨i,hi1,hi2⟩:=hT;obtain⟨-,⟨inf,k1,k2,k3,k4⟩,k5,k6⟩:=Ea (w1.tt _ _ hi1) hi2;have hc:=Any8.slices_Grow_grow vZ inf _ k1 k4 (by rw[k2];decide) none 0 0 n [] w (Ag _) (by omega) (by rw[k3];omega) (by omega) (by rw[k2];rfl) (λ_=>rfl) (λa h=>by cases h);refine Calls.mono hc ?_;rintro e w' ⟨rfl,rfl⟩;rw[show Tryz.growLay_ren.t 25=27 from rfl,BQ];have hge:n<=grownCap w n 0 27:=grownCap_ge ..;have hmx:grownCap w n 0 27<=maxLen:=grownCap_le_maxLen _ _ _ _ (by simp only[maxLen];omega);generalize grownCap w n 0 27=cap at hge hmx⊢;obtain⟨z,hz⟩:∃z,(Value.agg #[.string ⟨#[]⟩,.int .i64 0,.slice none 0 0])=z:=⟨_,rfl⟩
 rw[hz]at k5 k6⊢;generalize hcs' : #[]++Builtin.zeroCells z.cells (n-0)++Builtin.zeroCells z.cells (cap-n)=cs';have hsz':cs'.size=cap*3:=by
  rw[<-hcs',Ie,Ie,size_zeroCells,size_zeroCells,k5];simp only[JQ,HN];omega
 have ho:C3 ρ (AM F.X ρ H) w.drew ⟨K,m,27,3,[]⟩ cs':=by
  refine⟨by simp,λq d h=>by simp at h,λq v hv=>?_,λq d j c h=>by simp at h⟩;rw[<-hcs']at hv;rcases BI q (#[]++Builtin.zeroCells z.cells (n-0)).size with hq|hq
  ·rw[GG hq,Array.empty_append]at hv
   exact Ot k6 _ _ v hv
  ·rw[GE hq]at hv
   exact Ot k6 _ _ v hv
 obtain⟨m1,x1⟩:=mm.drew.alloc ⟨K,m,27,3,[]⟩ cs' (fr _ _ (Ag _)) (λe' he' h=>Nat.ne_of_lt (gn e' he') h.2) ho;refine⟨_,_,_,_,_,rfl,⟨rfl,rfl,rfl⟩,m1,(BN.drew _ _ _).trans x1,λk g hg=>?_,λe he=>?_,?_⟩
 ·unfold Lk.put
  rw[AE λh=>by have:=h.2;dsimp only at this;omega];exact fr k g (by omega)
 ·rcases A7.1 he with rfl|he
  ·exact Gy _
  ·exact C6 (gn e he)
 ·exact OQ (b:=w.heap.size) (T:=27) (cs:=cs') (fz:=(0,0)) (ED _ _ _ _) (by rw[D8];exact AF rfl) (BR _) hsz'.symm hmx
theorem Vw {vs:List (List AG)}{i:Nat}{l:List AG}(h:vs[i]?=some l):(vs.take (i+1)).flatten=(vs.take i).flatten++l:=by
 rw[Dv,h];simp
theorem XS {vs:List (List AG)}(i:Nat):(vs.take i).flatten.length<=vs.flatten.length:=by
 have:vs.flatten=(vs.take i).flatten++(vs.drop i).flatten:=by rw[<-List.flatten_append,Er]
 rw[this,B3];omega
theorem fN (vs:List (List AG))(h0:vs.flatten≠[])(hl:vs.flatten.length<=1000000)(hv:vs.length<=1000000):AK C0 88 [.sl true 1 (vs.map (A0 false))] (A0 false vs.flatten):=by
 refine Ai.walk w1 aU rfl λF=>?_
 have el:(((vs.map (A0 false)).length:Nat):Int)=(vs.length:Int):=by rw[Ap]
 have hpos:0<vs.flatten.length:=List.length_pos_iff.2 h0;have cG:=λm=>JV 1302 vs.flatten.length hpos hl [] m
 refine AJ Ad el AB AB AB AB AB AB ?_;refine AC.loop (α:=Nat×Nat) (λp=>⟨[(0,.sl true 1 (vs.map (A0 false))),(3,i64 ((vs.take p.1).flatten.length:Int)),(9,.sl true 1 (vs.map (A0 false))),(10,i64 (vs.length:Int)),(11,i64 (p.1:Int))],[],p.2⟩) (λp=>vs.length-p.1) (λq=>q.1<=vs.length) (0,_) (BR _) AI ?_;rintro⟨i,n⟩ F hi;dsimp only at hi⊢;rcases BI i vs.length with h2|h2
 ·have e1:=CX h2
  have wi:=Cf (i:=i) (by omega);obtain⟨x,hx⟩:=CQ h2;have hm:(vs.map (A0 false))[i]?=some (.sl false 3 (x.map AG.D)):=by rw[BH,hx];rfl
  have hs:=Vw hx;have hle:=XS (vs:=vs) (i+1);have ex:(((x.map AG.D).length:Nat):Int)=(x.length:Int):=by rw[Ap]
  rw[hs,B3]at hle;have w1':IntKind.i64.wrap (((vs.take i).flatten.length:Int)+(x.length:Int))=(((vs.take (i+1)).flatten.length:Nat):Int):=by
   rw[wI (by omega) (by omega),hs,B3];omega
  have g0:decide ((((vs.take (i+1)).flatten.length:Nat):Int)<0)=false:=Af (by omega);refine AJ Ad (Ex e1 wi ex w1' g0 kN) hm AB AB AB AB AB ?_;exact⟨(i+1,_),h2,by dsimp only;omega,AI⟩
 have e1:=Ca h2
 have:i=vs.length:=by omega
 subst this;rw[DL];refine AJ Ad e1 AB AB AB AB AB AB ?_;refine Az.own _ (cG _) ?_;rintro d H' n' ⟨rfl,rfl,rfl⟩;refine AJ Ad el AB AB AB AB AB AB ?_;refine AC.loop (α:=Nat×Nat×Nat) (λp=>⟨[(6,.osl 1302 p.2.1 3 0 (vs.take p.1).flatten.length),(25,.sl true 1 (vs.map (A0 false))),(26,i64 (vs.length:Int)),(27,i64 (p.1:Int))],[⟨1302,p.2.1,27,3,(vs.take p.1).flatten.map AG.D⟩],p.2.2⟩) (λp=>vs.length-p.1) (λq=>q.1<=vs.length) (0,n+1+1,_) (BR _) AI ?_;clear hi h2 e1;rintro⟨i,g,n⟩ F hi;dsimp only at hi⊢;rcases BI i vs.length with h2|h2
 ·have e1:=CX h2
  have wi:=Cf (i:=i) (by omega);obtain⟨x,hx⟩:=CQ h2;have hm:(vs.map (A0 false))[i]?=some (.sl false 3 (x.map AG.D)):=by rw[BH,hx];rfl
  have hs:=Vw hx;have hle:=XS (vs:=vs) (i+1);have hln:((vs.take i).flatten.map AG.D).length=(vs.take i).flatten.length:=Ap ..;have hlx:(x.map AG.D).length=x.length:=Ap ..;rw[hs,B3]at hle;obtain⟨R,hR⟩:∃R,(vs.take i).flatten=R:=⟨_,rfl⟩
  obtain⟨X,hX⟩:∃X,x.map AG.D=X:=⟨_,rfl⟩
  have pX:AA (.sl false 3 X):=by rw[<-hX];exact AH
  rw[hR]at hs hle hln⊢;rw[hX]at hm hlx;obtain⟨RD,hRD⟩:∃X,R.map AG.D=X:=⟨_,rfl⟩
  rw[hRD]at hln⊢;refine AJ Ad (At e1 wi kN) hm AB AB AB AB AB ?_;refine⟨(i+1,n+1+1+1+1+1+1,n+1+1+1+1+1+1+1+1+1+1),h2,by dsimp only;omega,?_⟩;dsimp only;rw[hs,B3,DE,hRD,hX,hlx];rw[B1 (show RD.length<=R.length by omega)];exact AI
 have e1:=Ca h2
 have:i=vs.length:=by omega
 subst this;rw[DL];have hR:=IN (H:=[⟨1302,g,27,3,vs.flatten.map AG.D⟩]) (Hf:=[]) (k:=1302) (g:=g) (T:=27) (sz:=3) (l:=vs.flatten.map AG.D) rfl;rw[Ap]at hR;refine AJ Ad e1 AB AB AB AB AB AB ?_;exact⟨_,hR,AA.out,rfl⟩
end Go.Ide
namespace Go.Ide
open Go.Proofs Go.RowKit
set_option maxRecDepth 20000
set_option maxHeartbeats 4000000
def Qt (H:Hp)(env:Ao):Ao->Prop
 | []=>True
 |(t,d)::r=>DG H (env.get t) d/\Qt H env r
theorem Qt.get {H:Hp}{env:Ao}:∀ {env':Ao},Qt H env env'->∀t,DG H (env.get t) (env'.get t)
 | [],_,t=>λ_ _ _ _ _ _ _ v _=>.any v
 |(k,d)::r,h,t=>by
  simp only[Ao.get];cases hb:Nat.beq k t with
  |true=>
   have:=Bz hb
   subst this;exact h.1
  |false=>exact h.2.get t
theorem bX {C:BC}{B F:AZ}{rd:Option Nat}{c:Code}{s:St}{Q:Exit->AZ->St->Prop}(env':Ao)(he:Qt s.H s.env env')(h:AC C B rd F c ⟨env',[],s.n⟩ Q):AC C B rd F c s Q:=⟨λhB hd ρ a w hs=>by
 have hH:CV s.H [] s.H []:=by
  generalize s.H=H0
  have:∀H1:Hp,CV H0 [] H1 []:=λH1=>by
   induction H1 with
   |nil=>exact .nil
   |cons e r ih=>exact .drop ih
  exact this H0
 obtain⟨m,hO,hN⟩:=hH.mem hs.mem;exact h.out hB hd ρ a w ⟨m,hs.fresh,by simp,λt=>he.get t _ _ _ _ hs.mem hO (λe he b hb=>hN e he b hb rfl) _ (hs.env t),hs.nt,hs.dfr⟩⟩
theorem TN (B:D)[pB:AA B][pC:Ak B](hB:∃a b c d e,B=.agg [a,b,c,d,e])(b:Bool)(ls:List D)[pL:AA (.sl b 1 ls)](i:Nat)(x:Int)(hx:ls[i]?=some (i64 x))(R:D)[pR:AA R](m:Int)
  (cB:AK C0 77 [.sl b 1 ls,i64 (i:Int),.clo (.func 131) [] [.pptr (.sl b 1 ls),.pptr (i64 (i:Int)),.pptr B]] R)
  (cL:AK C0 76 [i64 x,R] (i64 m)):AK C0 74 [B,.sl b 1 ls,i64 (i:Int)] (i64 m):=by
 refine Ai.walk w1 aR rfl λF=>?_
 obtain⟨a1,a2,a3,a4,a5,rfl⟩:=hB;refine sR 0 ?_;refine AC.seq ?_;refine bX [(3,.pptr (.agg [a1,a2,a3,a4,a5])),(4,.pptr (.sl b 1 ls)),(5,.pptr (i64 (i:Int)))] ⟨.ptr rfl rfl rfl rfl,.ptr rfl rfl rfl rfl,.ptr rfl rfl rfl rfl,trivial⟩ ?_;refine B5 w1 100 [0,1,2,3,4,5,6,7] [8,9] (by kernel_rfl) ?_;refine BL ?_;refine Bo kT hx ?_;refine AD kB ?_;refine BS.same _ (cB) AH ?_;refine BL ?_;refine cI cL ?_;refine Ab ?_;exact AO rfl AA.out
theorem ly (B:D)[pB:AA B][pC:Ak B](a1 a2 a4 a5:D)(room:Int)(hB:B=.agg [a1,a2,i64 room,a4,a5])(ls:List D)[pL:AA (.sl false 1 ls)](i:Nat)(x:Int)(hx:ls[i]?=some (i64 x))(R:D)[pR:AA R](m:Int)
  (cC:AK C0 73 [B,.sl true 1 [i64 (i:Int)]] (i64 0)) (cV:AK C0 75 [B] (.sl false 1 ls))
  (cB:AK C0 77 [.sl false 1 ls,i64 (i:Int),.clo (.func 78) [] [.pptr B,.pptr (.sl false 1 ls),.pptr (i64 (i:Int))]] R) (r:Int) (hr:IntKind.i64.wrap (room-x)=r)
  (cL:AK C0 76 [i64 r,R] (i64 m)):AK C0 25 [B,i64 (i:Int)] (.tup [i64 m,i64 0]):=by
 refine Ai.walk w1 aD rfl λF=>?_
 have e0:((0:Int) != 0)=false:=rfl;subst hB;refine sR 0 ?_;refine AC.seq ?_;refine sR 100 ?_;refine cI cC ?_;refine sZ 200 ?_;refine AT e0 ?_;refine AL ?_;refine Aj ?_;refine sR 400 ?_;refine cI cV ?_;refine AC.seq ?_;refine bX [(2,.pptr (.agg [a1,a2,i64 room,a4,a5])),(3,.pptr (i64 (i:Int))),(7,.pptr (.sl false 1 ls))] ⟨.ptr rfl rfl rfl rfl,.ptr rfl rfl rfl rfl,.ptr rfl rfl rfl rfl,trivial⟩ ?_;refine B5 w1 500 [0,1,2,3,4,5,6,7,8,9,10] [11,12,13] (by kernel_rfl) ?_;refine BL ?_;refine Bo kT hx ?_;refine AD hr ?_;refine BS.same _ (cB) AH ?_;refine BL ?_;refine cI cL ?_;refine Ab ?_;exact AO rfl AA.out
abbrev DV (l:List Int):List D:=l.map λx=>i64 x
theorem de (a1 a2 a3 a4:D)[AA a1][AA a2][AA a3][AA a4](b:Bool)(cs:List D)[pc:AA (.sl b 1 cs)](ls:List Int)(hlen:ls.length=cs.length)(h0:cs≠[])(hl:cs.length<=1000000)
  (hc:∀(i:Nat) (c:D) (m:Int),cs[i]?=some c->ls[i]?=some m->AK C0 59 [c] (i64 m)) (hp:∀c∈cs,∃bb l,c=.sl bb 3 l/\AA c) (g0:Nat) (x:D) (n:Nat):
  CW C0 75 [.agg [a1,a2,a3,a4,.sl b 1 cs]] [⟨0,g0,48,5,[x]⟩] n (λd H' _=>∃g,d=.osl 504 g 1 0 ls.length/\H'=[⟨504,g,3,1,DV ls⟩,⟨0,g0,48,5,[x]⟩]):=by
 refine CW.walk w1 aS rfl λF=>?_
 refine AJ Ad kB AB AB AB AB AB AB ?_;refine AC.loop (α:=Nat×Nat×Nat) (λp=>⟨[(3,DK 504 p.2.1 1 (DV (ls.take p.1))),(7,.sl b 1 cs),(8,i64 (cs.length:Int)),(9,i64 (p.1:Int))],DB 504 p.2.1 3 1 (DV (ls.take p.1))++[⟨0,g0,48,5,[x]⟩],p.2.2⟩) (λp=>cs.length-p.1) (λq=>q.1<=cs.length) (0,0,_) (BR _) AI ?_;rintro⟨i,g,n⟩ F hi;dsimp only at hi⊢;rcases BI i cs.length with h2|h2
 rotate_left
 ·have e1:=Ca h2
  have hi2:i=cs.length:=by omega
  rw[B1 (by omega:ls.length<=i)];have hls:ls≠[]:=λh=>h0 (FW (by rw[<-hlen,h];rfl))
  obtain⟨z,r,rfl⟩:∃z r,ls=z::r:=by
   cases ls with
   |nil=>exact AY rfl hls
   |cons z r=>exact⟨z,r,rfl⟩
  rw[show DV (z::r)=i64 z::DV r from rfl,Eg,Eh,EF,FK];refine AJ Ad e1 AB AB AB AB AB AB ?_;exact⟨_,by rw[Ap],rfl⟩
 have e1:=CX h2;have wi:=Cf (i:=i) (by omega);obtain⟨c,hm⟩:=CQ h2;obtain⟨m,hm2⟩:=CQ (show i<ls.length by omega);obtain⟨bb,cl,rfl,pcl⟩:=hp c (A8 hm);have cT:=hc i _ m hm hm2;have ht:ls.take (i+1)=ls.take i++[m]:=by rw[Dv,hm2];rfl
 obtain⟨R,hR⟩:∃R,ls.take i=R:=⟨_,rfl⟩
 rw[hR]at ht⊢;rcases R with _|⟨z,R⟩
 ·rw[show DV []=[]from rfl,Fg,Fh,FK]
  refine AJ Ad (At e1 wi kN) hm cT AB AB AB AB ?_;refine⟨(i+1,n+1+1+1+1+1+1+1+1,n+1+1+1+1+1+1+1+1+1+1+1+1),h2,by dsimp only;omega,?_⟩;dsimp only;rw[ht];exact AI
 ·rw[show DV (z::R)=i64 z::DV R from rfl,Eg,Eh,EF,FK]
  obtain⟨O,hO⟩:∃O,DV R=O:=⟨_,rfl⟩
  have hOl:O.length+1=i:=by
   rw[<-hO,Ap]
   have:(z::R).length=i:=by rw[<-hR,BX];omega
   exact this
  rw[hO];refine AJ Ad (At e1 wi kN) hm cT AB AB AB AB ?_;refine⟨(i+1,n+1+1+1+1+1+1+1+1,n+1+1+1+1+1+1+1+1+1+1+1+1),h2,by dsimp only;omega,?_⟩;dsimp only;rw[ht,show DV (z::R++[m])=i64 z::O++[i64 m]from by rw[<-hO];unfold DV;rw[DE];rfl];rw[EF,Eg,Eh,B3];rw[show List.take (O.length+1) (i64 z::O)=i64 z::O from DL (l:=i64 z::O)];exact AI
def N8 (k g sz:Nat)(env:Ao):Ao->Prop
 | []=>True
 |(t,d)::r=>(d=env.get t\/(env.get t=CE/\d=.osl k g sz 0 0))/\N8 k g sz env r
theorem N8.get {k g sz:Nat}{env:Ao}:∀ {env':Ao},N8 k g sz env env'->∀t,env'.get t=.any\/env'.get t=env.get t\/(env.get t=CE/\env'.get t=.osl k g sz 0 0)
 | [],_,t=>.inl rfl
 |(q,d)::r,h,t=>by
  rw[H4]
  by_cases hk:q=t
  ·subst hk;rw[AF rfl];exact .inr h.1
  ·rw[AE hk];exact N8.get h.2 t
theorem AC.ghost {C:BC}{B F:AZ}{rd:Option Nat}{c:Code}{s:St}{Q:Exit->AZ->St->Prop}(k T sz:Nat)(env':Ao)(he:N8 k s.n sz s.env env')(h:AC C B rd F c ⟨env',⟨k,s.n,T,sz,[]⟩::s.H,s.n+1⟩ Q):AC C B rd F c s Q:=⟨λhB hd ρ a w hs=>by
 obtain⟨m1,hO⟩:=hs.mem.ghost (k:=k) (n:=s.n) (T:=T) (sz:=sz) (hs.fresh k _ (Ag _));refine h.out hB hd ρ a w ⟨m1,λk g hg=>hs.fresh k g (by dsimp only at hg;omega),λe he=>?_,λt=>?_,hs.nt,hs.dfr⟩
 ·rcases A7.1 he with rfl|he
  ·exact Gy _
  ·exact C6 (hs.gen e he)
 ·have hr:=hs.env t
  dsimp only;rw[hO];rcases he.get t with h|h|⟨h1,h2⟩
  ·rw[h];exact .any _
  ·rw[h];exact hr
  ·rw[h2]
   rw[h1]at hr;generalize a.tmps.getD t undef=v at hr⊢;cases hr;exact .onil _ _ _⟩
def IC (l:List Int):Nat->Nat
 | 0=>0
 |k+1=>if l.getD (IC l k) 0<l.getD k 0 then k else IC l k
def FY (l:List Int):Nat:=IC l l.length
theorem TO {l:List Int}(h:0<l.length):∀k,k<=l.length->IC l k<l.length
 | 0,_=>h
 |k+1,hk=>by
  unfold IC;split
  ·omega
  ·exact TO h k (by omega)
def KS (mf:List Int->Int):Nat->List Int->List (Nat×Int)->List (Nat×Int)×Int
 | 0,_,_=>([],19)
 |k+1,l,out=>if l.getD (FY l) 0=0 then(out,0)else if mf l=0 then([],7)else if out.length=256 then([],19)else KS mf k (l.set (FY l) (l.getD (FY l) 0-mf l)) (out++[(FY l,mf l)])
def JY (p:Nat×Int):D:=.agg [i64 (p.1:Int),i64 p.2]
instance  (p:Nat×Int):Ak (JY p):=by unfold JY;exact AH
instance  (p:Nat×Int):AA (JY p):=by unfold JY;exact AH
theorem Tp {l:List Int}{i:Nat}(h:i<l.length):(DV l)[i]?=some (i64 (l.getD i 0)):=by
 rw[BH,FH,BF h];rfl
theorem kO (a1 a2 a3 a4:D)[AA a1][AA a2][AA a3][AA a4](b:Bool)(cs:List D)[pc:AA (.sl b 1 cs)](ls:List Int)(hlen:ls.length=cs.length)(h0:cs≠[])(hl:cs.length<=1000000)
  (hc:∀(i:Nat) (c:D) (m:Int),cs[i]?=some c->ls[i]?=some m->AK C0 59 [c] (i64 m)) (hp:∀c∈cs,∃bb l,c=.sl bb 3 l/\AA c)
  (cK:AK C0 32 [.agg [a1,a2,a3,a4,.sl b 1 cs]] (i64 0))
  (mf:List Int->Int) (I:List Int->Prop) (hI0:I ls) (hI:∀l,I l->l.getD (FY l) 0≠0->AK C0 74 [.agg [a1,a2,a3,a4,.sl b 1 cs],.sl false 1 (DV l),i64 ((FY l:Nat):Int)] (i64 (mf l))/\IntKind.i64.wrap (l.getD (FY l) 0-mf l)=l.getD (FY l) 0-mf l/\I (l.set (FY l) (l.getD (FY l) 0-mf l))):
  AK C0 51 [.agg [a1,a2,a3,a4,.sl b 1 cs]] (.tup [.sl false 2 ((KS mf 257 ls []).1.map JY),i64 (KS mf 257 ls []).2]):=by
 refine Ai.walk w1 aa rfl λF=>?_
 have e0:((0:Int) != 0)=false:=rfl;have cL:=λn=>de a1 a2 a3 a4 b cs ls hlen h0 hl hc hp 0 (.agg [a1,a2,a3,a4,.sl b 1 cs]) n
 refine AJ Ad e0 cK AB AB AB AB AB ?_;refine Az.own _ (cL _) ?_;rintro d H' n' ⟨g,rfl,rfl⟩;refine AJ Ad kB AB AB AB AB AB AB ?_;obtain⟨N,hN⟩:∃N,ls.length=N:=⟨_,rfl⟩
 have hN0:0<N:=by rw[<-hN,hlen];exact List.length_pos_iff.2 h0
 have hN1:N<=1000000:=by omega
 rw[hN];clear cL cK hc hp;refine AC.ghost 2005 91 2 [(1,.optr 0 0 5 0 0),(5,.osl 2005 _ 2 0 0),(6,.osl 504 g 1 0 N)] ⟨.inl rfl,.inr ⟨rfl,rfl⟩,.inl rfl,trivial⟩ ?_;refine AC.loop (α:=List Int×List (Nat×Int)×Nat×Nat) (λp=>⟨[(1,.optr 0 0 5 0 0),(5,.osl 2005 p.2.2.1 2 0 p.2.1.length),(6,.osl 504 g 1 0 N)],[⟨2005,p.2.2.1,91,2,p.2.1.map JY⟩,⟨504,g,3,1,DV p.1⟩,⟨0,0,48,5,[.agg [a1,a2,a3,a4,.sl b 1 cs]]⟩],p.2.2.2⟩) (λp=>257-p.2.1.length)
  (λp=>p.1.length=N/\I p.1/\p.2.1.length<=256/\KS mf (257-p.2.1.length) p.1 p.2.1=KS mf 257 ls []) (ls,[],_,_) ⟨hN,hI0,BR _,rfl⟩ AI ?_
 rintro⟨l,out,go,n⟩ F ⟨hl1,hIl,ho,hR⟩;dsimp only at hl1 hIl ho hR⊢;obtain⟨OD,hOD⟩:∃O,out.map JY=O:=⟨_,rfl⟩
 have hODl:OD.length=out.length:=by rw[<-hOD,Ap]
 rw[hOD];obtain⟨L,hL⟩:∃L,DV l=L:=⟨_,rfl⟩
 have hLl:L.length=N:=by rw[<-hL,Ap,hl1]
 rw[hL];refine AJ Ad kB AB AB AB AB AB AB ?_;refine AC.loop (α:=Nat×Nat) (λp=>⟨[(1,.optr 0 0 5 0 0),(5,.osl 2005 go 2 0 out.length),(6,.osl 504 g 1 0 N),(18,.osl 504 g 1 0 N),(19,i64 (N:Int)),(20,i64 (p.1:Int)),(7,i64 ((IC l p.1:Nat):Int))],[⟨2005,go,91,2,OD⟩,⟨504,g,3,1,L⟩,⟨0,0,48,5,[.agg [a1,a2,a3,a4,.sl b 1 cs]]⟩],p.2⟩) (λp=>N-p.1) (λq=>q.1<=N) (0,_) (BR _) AI ?_;rintro⟨k,n⟩ F hk;dsimp only at hk⊢;rcases BI k N with h2|h2
 ·have e1:=CX h2
  have wi:=Cf (i:=k) (by omega);have hm:=Tp (l:=l) (i:=k) (by omega);have hq:=TO (l:=l) (by omega) k (by omega);have hm2:=Tp hq;obtain⟨u,hu⟩:∃u,l.getD k 0=u:=⟨_,rfl⟩
  obtain⟨v,hv⟩:∃v,l.getD (IC l k) 0=v:=⟨_,rfl⟩
  have hs:IC l (k+1)=if v<u then k else IC l k:=by rw[<-hu,<-hv];rfl
  rw[hu]at hm;rw[hv]at hm2;obtain⟨q,hq2⟩:∃q,IC l k=q:=⟨_,rfl⟩
  rw[hq2]at hm2 hs hq⊢;rw[hL]at hm hm2
  by_cases hlt:v<u
  ·have e2:decide (u>v)=true:=AX hlt
   rw[AF hlt]at hs;refine AJ Ad (Dy e1 e2 wi kN BQ hm hm2) AB AB AB AB AB AB ?_;refine⟨(k+1,n+1000),h2,by dsimp only;omega,?_⟩;dsimp only;rw[hs];exact AI
  ·have e2:decide (u>v)=false:=Af hlt
   rw[AE hlt]at hs;refine AJ Ad (Dy e1 e2 wi kN BQ hm hm2) AB AB AB AB AB AB ?_;refine⟨(k+1,n+1000),h2,by dsimp only;omega,?_⟩;dsimp only;rw[hs];exact AI
 have e1:=Ca h2
 have:k=N:=by omega
 subst this;have hq:=TO (l:=l) (by omega) k (by omega);have hm:=Tp hq;have hmI:IC l k=FY l:=by unfold FY;rw[hl1]
 rw[hmI]at hq hm⊢;have hIm:=hI l hIl;have hRs:KS mf (257-out.length) l out=if l.getD (FY l) 0=0 then(out,0)else if mf l=0 then([],7)else if out.length=256 then([],19)else KS mf (256-out.length) (l.set (FY l) (l.getD (FY l) 0-mf l)) (out++[(FY l,mf l)]):=by
  rw[show 257-out.length=(256-out.length)+1 by omega];rfl
 rw[hR]at hRs;obtain⟨q,hq2⟩:∃q,FY l=q:=⟨_,rfl⟩
 rw[hq2]at hq hm hIm hRs⊢;obtain⟨v,hv⟩:∃v,l.getD q 0=v:=⟨_,rfl⟩
 rw[hv]at hm hIm hRs;rw[hL]at hm
 by_cases hv0:v=0
 ·have e2:(v==0)=true:=by rw[hv0];rfl
  rw[AF hv0]at hRs;rw[hRs];refine AJ Ad (Ck e1 e2 kN BQ hm) AB AB AB AB AB AB ?_;have hf:=IN (H:=[⟨2005,go,91,2,OD⟩,⟨504,g,3,1,L⟩,⟨0,0,48,5,[.agg [a1,a2,a3,a4,.sl b 1 cs]]⟩]) (Hf:=[]) (k:=2005) (g:=go) (T:=91) (sz:=2) (l:=OD) rfl;rw[hODl]at hf;rw[hOD];have pO:AA (.sl false 2 OD):=by rw[<-hOD];exact AH
  exact⟨_,IP hf (.refl _),AA.out,rfl⟩
 rw[AE hv0]at hRs;have e2:(v==0)=false:=B6.2 hv0;obtain⟨cM,wm,hI'⟩:=hIm hv0;obtain⟨m,hmm⟩:∃m,mf l=m:=⟨_,rfl⟩
 rw[hmm]at cM wm hI' hRs;have pL:AA (.sl false 1 (DV l)):=AH;rw[hL]at cM pL;have hfL:=IN (H:=[⟨2005,go,91,2,OD⟩,⟨504,g,3,1,L⟩,⟨0,0,48,5,[.agg [a1,a2,a3,a4,.sl b 1 cs]]⟩]) (Hf:=[]) (k:=504) (g:=g) (T:=3) (sz:=1) (l:=L) rfl;rw[hLl]at hfL;refine AJ Ad (Ck e1 e2 kN BQ hm) AB AB AB AB AB AB ?_;refine Az.own _ (Ic (H:=[⟨2005,go,91,2,OD⟩,⟨504,g,3,1,L⟩,⟨0,0,48,5,[.agg [a1,a2,a3,a4,.sl b 1 cs]]⟩]) cM rfl (λi a d h1 h2=>by
  match i with
  | 0=>cases h1;cases h2;exact .refl _ _
  | 1=>cases h1;cases h2;exact .of hfL
  | 2=>cases h1;cases h2;exact .refl _ _
  |n+3=>cases h1) AH (.prim _)) ?_
 rintro d H' n' ⟨rfl,rfl,rfl⟩
 by_cases hm0:m=0
 ·have e3:(m==0)=true:=by rw[hm0];rfl
  rw[AF hm0]at hRs;rw[hRs];refine AJ Ad e3 AB AB AB AB AB AB ?_;exact⟨_,IP (.nil 2) (.refl _),AA.out,rfl⟩
 rw[AE hm0]at hRs;have e3:(m==0)=false:=B6.2 hm0
 by_cases h256:out.length=256
 ·have e4:((out.length:Int)==256)=true:=by rw[h256];rfl
  rw[AF h256]at hRs;rw[hRs];refine AJ Ad (Ac e3 e4) AB AB AB AB AB AB ?_;exact⟨_,IP (.nil 2) (.refl _),AA.out,rfl⟩
 rw[AE h256]at hRs;have e4:((out.length:Int)==256)=false:=B6.2 (by omega);refine AJ Ad (Ex e3 e4 wm kN BQ hm) AB AB AB AB AB AB ?_;have hle:out.length<256:=by omega
 refine⟨(l.set q (v-m),out++[(q,m)],n+1+1+1+1+1+1+1+1+1+1+1+1+1+1+1+1+1+1+1+1+1,n+1000),⟨by rw[Dc];exact hl1,?_,by rw[B3];exact hle,?_⟩,?_,?_⟩
 ·exact hI'
 ·dsimp only
  rw[hRs,B3];rw[show 257-(out.length+[(q,m)].length)=256-out.length by simp only[Bl,HN];omega]
 ·dsimp only
  rw[B3];simp only[Bl,HN];omega
 ·dsimp only
  rw[B3,DE,hOD,B1 (show OD.length<=out.length by omega)];rw[show DV (l.set q (v-m))=L.set q (i64 (v-m))from by rw[<-hL];unfold DV;rw[List.map_set]];exact AI
section
variable {C:BC} {F B:AZ} {ops:Array Oper} {rd:Option Nat}
theorem hJ {K1:St->Prop}{Q:Exit->Act->World->Prop}{l2:List Nat}(h2:∀(s1:St) (ρ:Lk) (a:Act) (w:World),K1 s1->Bg C F ρ s1 a w->wpOps C.P ops Q l2 a w):∀(l:List Nat) (a:Act) (w:World),wpOps C.P ops (Ja C F K1) l a w->wpOps C.P ops Q (l++l2) a w:=by
 intro l
 induction l with
 |nil=>rintro a w ⟨_,s',ρ',hq,hs'⟩;exact h2 s' ρ' a w hq hs'
 |cons i l ih=>
  intro a w h;simp only[EF,wpOps]at h⊢;cases ho:ops[i]? with
  |none=>simp only[ho]at h⊢;exact ih a w h
  |some o=>
   simp only[ho]at h⊢;split
   ·rename_i hw
    rw[AF hw]at h;rcases h with h|⟨_,⟨a0,w0,h0⟩⟩
    ·refine .inl ?_
     unfold Oper.wp Oper.upon at h⊢;split<;>rename_i hr<;>simp only[hr]at h
     ·exact ih _ _ h
     ·exact ih _ _ h
     ·exact ih _ _ h
     ·refine Calls.mono h λe w'' he=>?_
      cases e with
      |returned v=>exact ih _ _ he
      |panicked c=>cases he.1
      |outgrown=>obtain⟨a0,w0,h0⟩:=he;cases h0.1
     ·exact Rows.mono h λ_ _ he=>ih _ _ he
     ·cases h.1
    ·cases h0.1
   ·rename_i hw
    rw[AE hw]at h;exact ih _ _ h
theorem ux {K:St->Prop}{os1 os2:List Oper}{s:St}(h:BG C F ops os1 s (λs1=>BG C F ops os2 s1 K)):BG C F ops (os1++os2) s K:=by
 intro hd l hl ρ a w hs;rw[LS,BZ]at hd;have hlen:l.length=os1.length+os2.length:=by
  have:=congrArg List.length hl
  simpa using this
 obtain⟨l1,l2,rfl,e1⟩:∃l1 l2,l=l1++l2/\l1.length=os1.length:=⟨l.take os1.length,l.drop os1.length,(Er _ _).symm,by rw[BX];omega⟩
 rw[DE,DE]at hl;obtain⟨h1,h2⟩:=List.append_inj hl (by simpa using e1);exact hJ (λs1 ρ a w hk hs=>hk hd.2 l2 h2 ρ a w hs) l1 a w (h hd.1 l1 h1 ρ a w hs)
theorem vF {X:EV}{i:Nat}{s:St}{Q:Exit->AZ->St->Prop}(hX:C7 C X)(hnd:EO ops.toList=true)(h:BG C F ops ((List.range ops.size).map λj=>ops.getD j default) s (Q .normal F)):AC C B rd F (.region i ops false) s Q:=by
 refine⟨λhB hd ρ a w hs=>wpIn_region ?_⟩;have hd:=Iw hB hd;have h1:=BG.run h (λj hj=>List.mem_range.1 hj) hd hs
 have:=FO (rd:=rd) (Q:=E7 C B Q) (l2:=[]) (λ_ _ _ h=>Io hB (λ_ h=>h) h) (G7 hnd) _ a w h1
 rwa [DS]at this
def T1 (C:BC)(F:AZ)(X:EV)(kb:Nat)(ops:Array Oper):List (List Nat×Nat)->List Nat->St->(St->Prop)->Prop
 | [],l,s,K=>Ci C X kb ops l s True λacc s=>acc/\K s
 |(l1,i)::r,l,s,K=>Ci C X kb ops l1 s True λacc s1=>acc/\∃d,(∀(os:List Oper) (K':St->Prop),BG C F ops os ⟨BU s1.env (ops.getD i default).dst d,s1.H,s1.n+1⟩ K'->BG C F ops (ops.getD i default::os) s1 K')/\T1 C F X kb ops r l ⟨BU s1.env (ops.getD i default).dst d,s1.H,s1.n+1⟩ K
def Oe:List (List Nat×Nat)->List Nat->List Nat
 | [],l=>l
 |(l1,i)::r,l=>l1++i::Oe r l
theorem Xp {X:EV}(hX:C7 C X){kb:Nat}{K:St->Prop}:∀(r:List (List Nat×Nat)) (l:List Nat) (s:St),T1 C F X kb ops r l s K->BG C F ops ((Oe r l).map λj=>ops.getD j default) s K
 | [],l,s,h=>(E5 hX (λacc s h=>h) h).2
 |(l1,i)::r,l,s,h=>by
  show BG C F ops ((l1++i::Oe r l).map _) s K;rw[DE,CJ];refine ux ?_;refine(E5 (K':=λs1=>BG C F ops (ops.getD i default::(Oe r l).map λj=>ops.getD j default) s1 K) hX (λacc s1 h=>⟨h.1,?_⟩) h).2;obtain⟨d,h1,h2⟩:=h.2;exact h1 _ _ (Xp hX r l _ h2)
theorem vG {X:EV}{i:Nat}{s:St}{Q:Exit->AZ->St->Prop}(hX:C7 C X)(kb:Nat)(r:List (List Nat×Nat))(l:List Nat)(hl:List.range ops.size=Oe r l)(hnd:EO ops.toList=true)(h:T1 C F X kb ops r l s (Q .normal F)):AC C B rd F (.region i ops false) s Q:=
 vF hX hnd (by rw[hl];exact Xp hX r l s h)
def T2 (P:Program) (t:Nat):Prop:=∃(f1 f2:Field) (k1 k2:IntKind),P.underlying t=some (.struct #[f1,f2])/\P.stoodInHeld t=false/\P.eqGuardType P.depth t=false/\f1.name ≠ "_"/\f1.offset=0/\P.underlying f1.type=some (.int k1)/\f2.name ≠ "_"/\f2.offset=1/\P.underlying f2.type=some (.int k2)
theorem Uv {P:Program} {w:World} (d:Nat) {xs ys:Array Value} {f:Field} {fs:List Field} {i:Nat} {ka k:IntKind} {x y:Int} {b:Bool} (f1:f.name ≠ "_") (f2:f.offset=i) (f3:P.underlying f.type=some (.int k)) (hxa:xs[i]?=some (.int ka x)) (hya:ys[i]?=some (.int ka y))
  (ih:(Op.eqFields (d+1) xs ys fs).run P w=.ok b w):(Op.eqFields (d+1) xs ys (f::fs)).run P w=.ok (x==y&&b) w:=by
 have ag:(isAgg f.type).run P w=.ok false w:=by
  unfold isAgg;rw[run_bind,Cc f3];rfl
 have part1:(part f.type xs f.offset).run P w=.ok (.int ka x) w:=by
  unfold part;rw[run_bind,ag];dsimp only;rw[AE (by simp),f2];simp only[hxa];rfl
 have part2:(part f.type ys f.offset).run P w=.ok (.int ka y) w:=by
  unfold part;rw[run_bind,ag];dsimp only;rw[AE (by simp),f2];simp only[hya];rfl
 simp only[Op.eqFields];rw[AF f1,run_bind,part1];dsimp only;rw[run_bind,part2];dsimp only;rw[run_bind,run_equalIn_int w d f.type ka k x y f3];dsimp only;cases hb:x==y with
 |true=>simpa using ih
 |false=>rfl
theorem bO {o:Oper}{os:List Oper}{s:St}{K:St->Prop}{t tt:Nat}{x y:Operand}{a1 a2 b1 b2:Int}(hw:CB ops s.env o=some true)(ho:o.op=.binOp .neq t x y tt)(hT:T2 C.P t)(hx:BE s.env x=.agg [i64 a1,i64 a2])(hy:BE s.env y=.agg [i64 b1,i64 b2])
  (h:BG C F ops os ⟨BU s.env o.dst (Aq (!(a1==b1&&(a2==b2&&true)))),s.H,s.n+1⟩ K):BG C F ops (o::os) s K:=
 BG.step hw (λρ a w hs=>by
  refine⟨_,ρ,w,.inl ?_,Om.pure hs (.prim _),λe he=>C6 (hs.gen e he)⟩;have rx:=C8 hs.env x;have ry:=C8 hs.env y;rw[hx]at rx;rw[hy]at ry;unfold execOp;simp only[ho];generalize a.eval x=vx at rx⊢;generalize a.eval y=vy at ry⊢;cases rx with
  |agg n1 o1 r1=>
   cases ry with
   |agg n2 o2 r2=>
    rename_i xs ys;obtain⟨f1,f2,k1,k2,c1,c2,c3,c4,c5,c6,c7,c8,c9⟩:=hT;have at_:∀ {vs:Array Value} {u1 u2:Int},vs.size=[i64 u1,i64 u2].length->(∀(i:Nat) (d:D),[i64 u1,i64 u2][i]?=some d->AU ρ (AM F.X ρ s.H) w d (vs.getD i undef))->vs[0]?=some (.int .i64 u1)/\vs[1]?=some (.int .i64 u2):=λ{vs u1 u2} n r=>by
     have q0:=r 0 _ rfl;have q1:=r 1 _ rfl;have m0:0<vs.size:=by rw[n];exact Nat.zero_lt_succ _
     have m1:1<vs.size:=by rw[n];exact Gy _
     rw[Aw,Bd m0,H7]at q0;rw[Aw,Bd m1,H7]at q1;rw[Bd m0,Bd m1];generalize vs[0]=z0 at q0;generalize vs[1]=z1 at q1;cases q0;cases q1;exact⟨rfl,rfl⟩
    obtain⟨x0,x1⟩:=at_ n1 r1;obtain⟨y0,y1⟩:=at_ n2 r2;have eqf:C.P.fieldsOf t = #[f1,f2]:=by unfold Program.fieldsOf;rw[c1]
    have run:(Op.equalIn 10000 t (.agg xs) (.agg ys)).run C.P w=.ok (a1==b1&&(a2==b2&&true)) w:=by
     rw[show(10000:Nat)=9998+1+1 from rfl,run_equalIn_struct w _ t xs ys (by rw[eqf];exact c1) c2,eqf];exact Uv 9998 c4 c5 c6 x0 y0 (Uv 9998 c7 c8 c9 x1 y1 rfl)
    have r3:(do eqGuard .neq t x y (.agg xs) (.agg ys);binOp .neq t (.agg xs) (.agg ys):Sem Value).run C.P w=.ok (.bool (!(a1==b1&&(a2==b2&&true)))) w:=by
     rw[run_bind,run_eqGuard_agg w .neq t x y xs ys c3];dsimp only;rw[run_neq_struct,run];rfl
    rw[run_bind,r3];rfl) h
end
def Qy (P:Program)(t:Nat):Bool:=match P.underlying t with
 |some (.int _)=>true
 |_=>false
theorem XC {P:Program}{t:Nat}(h:Qy P t=true):∃k,P.underlying t=some (.int k):=by
 unfold Qy at h;split at h
 ·rename_i k hk;exact⟨k,hk⟩
 ·cases h
def be (P:Program):List Field->Bool
 | [f1,f2]=>(f1.name != "_")&&Nat.beq f1.offset 0&&Qy P f1.type&&(f2.name != "_")&&Nat.beq f2.offset 1&&Qy P f2.type
 |_=>false
def bc (P:Program)(t:Nat):Bool:=match P.underlying t with
 |some (.struct fs)=>!(P.stoodInHeld t) && !(P.eqGuardType P.depth t)&&be P fs.toList
 |_=>false
theorem rr {P:Program}{t:Nat}(h:bc P t=true):T2 P t:=by
 unfold bc at h;split at h<;>try(cases h;done)
 rename_i fs hu;simp only[BZ,Bf]at h;obtain⟨⟨h1,h2⟩,h3⟩:=h;obtain⟨l⟩:=fs
 match l,h3 with
 | [f1,f2],h3=>
  simp only[be,BZ,bne_iff_ne]at h3;obtain⟨⟨⟨⟨⟨g1,g2⟩,g3⟩,g4⟩,g5⟩,g6⟩:=h3;obtain⟨k1,e1⟩:=XC g3;obtain⟨k2,e2⟩:=XC g6;exact⟨f1,f2,k1,k2,hu,h1,h2,g1,Bz g2,e1,g4,Bz g5,e2⟩
theorem Xg:T2 C0.P 91:=rr (by kernel_rfl)
open Go.Sort
def lA:List AG:=[Cd 10,Cy 6]
def lB:List AG:=[Cd 5]
def cA:D:=A0 false lA
def cB:D:=A0 false lB
def DU:D:=.agg [str (sb Lq),i64 4,i64 30,i64 12,.sl false 1 [cA,cB]]
theorem uf:AK C0 47 [] DU:=by
 have h:=rq.loosen 10
 rwa [show loosen 10 b6=DU from rfl]at h
theorem XL {x:AG}(h:decide (x.grain.length<=1000)&&decide (x.shs.length<=1000)&&x.shs.all (λs=>decide (s.lot.length<=1000)&&decide (s.part.length<=40))=true):x.lite:=by
 simp only[BZ,Gw,CI]at h;obtain⟨⟨h1,h2⟩,h3⟩:=h;exact⟨⟨by omega,by omega,λs hs=>⟨by have:=(h3 s hs).1;omega,by have:=(h3 s hs).2;omega⟩⟩,h3⟩
theorem QV:∀x∈lA,x.lite:=by
 intro x hx;simp only[lA,A7,DD,or_false]at hx;rcases hx with rfl|rfl<;>exact XL rfl
theorem rO:∀x∈lB,x.lite:=by
 intro x hx;simp only[lB,A7,DD,or_false]at hx;subst hx;exact XL rfl
theorem QG:CC lA=0:=by kernel_rfl
theorem sG:CC lB=0:=by kernel_rfl
theorem mK:FA lA=[(tA,13),(tB,3)]:=by kernel_rfl
theorem Tu:Dq (Bh lA)=[(tA,13),(tB,3)]:=by rw[<-NI];exact mK
theorem Xl:(Bh lA).any (λp=>CL p.2)=false:=by kernel_rfl
theorem mL:Qg lA=0:=by
 unfold Qg Gq;rw[AE (by rw[QG];exact λh=>h rfl),Xl];rfl
theorem mM:Qh lA=[(tA,13),(tB,3)]:=by
 unfold Qh HC;rw[AE (by rw[QG];exact λh=>h rfl),Xl,Tu];rfl
def RN:List UInt8:=[49,51]
def t3:List UInt8:=[51]
def F6:List UInt8:=[49,51,47,49,54]
def GC:List UInt8:=[51,47,49,54]
def KE (m:Int):AG:=⟨El,m,[⟨tA,F6⟩,⟨tB,GC⟩]⟩
theorem tZ:BM (tA,13)=CH (tA,RN):=by unfold BM CH;rw[show Al 13=RN by kernel_rfl]
theorem t6:BM (tB,3)=CH (tB,t3):=by unfold BM CH;rw[show Al 3=t3 by kernel_rfl]
theorem nC:AK C0 36 [cA] (.tup [.sl false 2 [CH (tA,RN),CH (tB,t3)],i64 0]):=by
 have h:=tu false lA (by decide) QV;rw[mL,mM,CJ,CJ,List.map_nil,tZ,t6]at h;exact h
theorem Qp:lA.map (B9 El)=lA:=rfl
theorem sE:EC lA=0:=by kernel_rfl
theorem tc:[((tA,13):List UInt8×Rat),(tB,3)].any (λp=>CL (p.2/(Av lA:Rat)))=false:=by kernel_rfl
theorem td:(Bh lA).length=2:=by kernel_rfl
theorem Zz:Df lA=0:=by
 unfold Df;rw[AE (by rw[sE];exact λh=>h rfl),AE (by rw[td];decide),Tu,tc];rfl
theorem TV:DQ lA=[⟨tA,F6⟩,⟨tB,GC⟩]:=by
 unfold DQ;rw[Tu];kernel_rfl
theorem Qf:Av lA=16:=by kernel_rfl
theorem sF:FS lA=KE 16:=by rw[Pm Zz,TV,Qf];rfl
theorem Xm:D3 lA El=0:=by kernel_rfl
theorem Xn:EK lA El=0:=by unfold EK;rw[Xm,Qp,Zz];rfl
theorem mN:Hs lA El=KE 16:=by unfold Hs;rw[Xm,Qp,sF];rfl
theorem nI:AK C0 11 [cA,str (sb El)] (.tup [(KE 16).D,i64 0]):=by
 have h:=Tj false lA El (by decide) QV (by decide);rw[Xn,mN]at h;exact h
theorem sC:Ed lA 15=⟨El,1,[⟨tA,F6⟩,⟨tB,GC⟩]⟩:=by
 unfold Ed;rw[Qf,show(Bi lA 0).grain=El from rfl,Qp,TV];rfl
theorem Zy:Ee (Ed lA 15)=[(tA,mkRat 13 16),(tB,mkRat 3 16)]:=by rw[sC];kernel_rfl
theorem Zx:[((tA,mkRat 13 16):List UInt8×Rat),(tB,mkRat 3 16)].any (λp=>CL p.2)=false:=by kernel_rfl
theorem sB:Gq (Bh [Ed lA 15])=0:=by
 unfold Gq;rw[(Na lA 15).1,Zy,Zx];rfl
theorem sH:CZ lA=true:=by kernel_rfl
theorem TW:DX lA 15=0:=by
 unfold DX;rw[QG,AE (λh=>h rfl),AE (by decide),Qf,AE (by decide),sH,AE (λh=>by cases h),show(Bi lA 0).grain=El from rfl,Xn,AE (λh=>h rfl),AE (by decide),sB]
theorem sJ:Hz lA 15=KE 15:=by
 unfold Hz;rw[TW,AE (λh=>h rfl),show(Bi lA 0).grain=El from rfl,Qp,TV];rfl
theorem sI:Fq lA 15=[(tA,mkRat 13 16),(tB,mkRat 3 16)]:=by
 unfold Fq HC;rw[TW,AE (λh=>h rfl),Qf,AE (by decide),(Na lA 15).2,(Na lA 15).1,Zy,Zx];rfl
theorem t7:BM (tA,mkRat 13 16)=CH (tA,F6):=by unfold BM CH;rw[show Al (tA,mkRat 13 16).2=F6 by kernel_rfl]
theorem t8:BM (tB,mkRat 3 16)=CH (tB,GC):=by unfold BM CH;rw[show Al (tB,mkRat 3 16).2=GC by kernel_rfl]
theorem jH:AK C0 12 [cA,i64 15] (.tup [(KE 15).D,.sl false 2 [CH (tA,F6),CH (tB,GC)],i64 0]):=by
 have h:=Xf false lA 15 (by decide) QV;rw[TW,sJ,sI,CJ,CJ,List.map_nil,t7,t8]at h;exact h
theorem nF:AK C0 37 [cA] (i64 0):=by
 have h:=OF false lA (by decide) λx hx=>(QV x hx).1
 rw[QG]at h;exact h
theorem nH:AK C0 37 [cB] (i64 0):=by
 have h:=OF false lB (by decide) λx hx=>(rO x hx).1
 rw[sG]at h;exact h
theorem nE:AK C0 56 [str (sb tB)] (Aq true):=by
 have h:=Ps tB;rw[show Co tB=true by kernel_rfl]at h;exact h
theorem tq (x:AG)(h:x.shs.length<=1000000)(m:Int):AK C0 63 [x.D,i64 m] (x.w m).D:=ZG x m h
theorem TS {l:List AG}(h:l.all (λx=>decide (x.shs.length<=1000000))=true):∀x∈l,∀m,AK C0 63 [x.D,i64 m] (x.w m).D:=λx hx m=>tq x (Cz (CI.1 h x hx)) m
theorem Sj {l:List AG}(h:l.all (λx=>decide (0<=x.mass)&&decide (x.mass<=1000000000))=true):∀x∈l,0<=x.mass/\x.mass<=1000000000:=λx hx=>by
 have:=CI.1 h x hx
 simpa using this
theorem wA:AK C0 84 [A0 false [Cy 2]] (A0 false [Cy 2]):=CD DO 400 40 (by kernel_rfl)
theorem wB:AK C0 84 [A0 false [Cd 1]] (A0 false [Cd 1]):=CD DO 400 40 (by kernel_rfl)
theorem wC:AK C0 84 [A0 false [Cd 9,Cy 4]] (A0 false [Cd 9,Cy 4]):=CD DO 400 40 (by kernel_rfl)
theorem Z9:AK C0 59 [cA] (i64 16):=CD DO 400 40 (by kernel_rfl)
theorem kC:AK C0 91 [cA,i64 2,Aq true] (A0 false [Cy 2]):=Xi false true lA 2 (by decide) (by decide) (Sj rfl) (TS rfl) _ wA
theorem kD:AK C0 91 [cA,i64 1,Aq false] (A0 false [Cd 1]):=Xi false false lA 1 (by decide) (by decide) (Sj rfl) (TS rfl) _ wB
theorem mv:AK C0 92 [cA,i64 1,i64 2] (A0 false [Cd 9,Cy 4]):=eO false lA 1 2 (by decide) (by decide) (by decide) 16 (by decide) (Sj rfl) Z9 (TS rfl) _ wC
theorem rl:AK C0 142 [cA,str (sb tB)] (.sl false 2 [Fd (11,16)]):=by
 have h:=dG false lA tB (by decide) λx hx=>by
  simp only[lA,A7,DD,or_false]at hx;rcases hx with rfl|rfl<;>exact⟨by decide,by decide,by decide⟩
 rw[show KV tB lA 0=[(11,16)] by kernel_rfl]at h;exact h
theorem mz:AK C0 88 [.sl true 1 [A0 false [Cy 2],A0 false [Cd 1]]] (A0 false [Cy 2,Cd 1]):=fN [[Cy 2],[Cd 1]] (by simp) (by decide) (by decide)
def OM:List (Nat×List D×D):=[(37,[cA],i64 0),(37,[cB],i64 0),(56,[str (sb tB)],Aq true),
 (91,[cA,i64 2,Aq true],A0 false [Cy 2]),(91,[cA,i64 1,Aq false],A0 false [Cd 1]),(92,[cA,i64 1,i64 2],A0 false [Cd 9,Cy 4]),
 (142,[cA,str (sb tB)],.sl false 2 [Fd (11,16)]),(88,[.sl true 1 [A0 false [Cy 2],A0 false [Cd 1]]],A0 false [Cy 2,Cd 1])]
instance uG:AA cA:=by unfold cA;exact AH
instance uH:AA cB:=by unfold cB;exact AH
instance q_cA:Ak cA:=by unfold cA;exact AH
instance q_cB:Ak cB:=by unfold cB;exact AH
theorem Xh:∀e∈OM,AK C0 e.1 e.2.1 e.2.2/\Ah e.2.1:=by
 intro e he;simp only[OM,A7,DD,or_false]at he;rcases he with rfl|rfl|rfl|rfl|rfl|rfl|rfl|rfl
 ·exact⟨nF,AH⟩
 ·exact⟨nH,AH⟩
 ·exact⟨nE,AH⟩
 ·exact⟨kC,AH⟩
 ·exact⟨kD,AH⟩
 ·exact⟨mv,AH⟩
 ·exact⟨rl,AH⟩
 ·exact⟨mz,AH⟩
noncomputable def X5:EV:=⟨Ol,LY.get,Mr.get,λ_=>false,MP OM,RI,KF⟩
theorem EB:FB C0 X5:=⟨UB,Qo,JU,SH OM Xh,by kernel_rfl,Y9,Pp⟩
def b7:D:=.agg [str (sb Lq),i64 4,i64 30,i64 12,.sl false 1 [A0 false [Cd 9,Cy 4],A0 false [Cd 5]]]
theorem nA:AK C0 48 [DU,i64 0,i64 3] (.tup [b7,A0 false [Cy 2,Cd 1],i64 0]):=CD EB 400 40 (by kernel_rfl)
abbrev Tr (ls:List Int)(i:Int):D:=.clo (.func 131) [] [.pptr (.sl false 1 (DV ls)),.pptr (i64 i),.pptr DU]
abbrev rG (ls:List Int)(i:Int):D:=.clo (.func 78) [] [.pptr DU,.pptr (.sl false 1 (DV ls)),.pptr (i64 i)]
theorem iQ:AK C0 77 [.sl false 1 (DV [16,5]),i64 ((0:Nat):Int),Tr [16,5] ((0:Nat):Int)] (.sl false 1 [i64 23]):=CD EB 400 40 (by kernel_rfl)
theorem iR:AK C0 77 [.sl false 1 (DV [16,5]),i64 ((1:Nat):Int),Tr [16,5] ((1:Nat):Int)] (.sl false 1 [i64 1]):=CD EB 400 40 (by kernel_rfl)
theorem iS:AK C0 77 [.sl false 1 (DV [0,5]),i64 ((1:Nat):Int),Tr [0,5] ((1:Nat):Int)] (.sl false 1 [i64 17]):=CD EB 400 40 (by kernel_rfl)
theorem iT:AK C0 77 [.sl false 1 (DV [16,5]),i64 ((1:Nat):Int),rG [16,5] ((1:Nat):Int)] (.sl false 1 [i64 23]):=CD EB 400 40 (by kernel_rfl)
theorem vp:AK C0 76 [i64 16,.sl false 1 [i64 23]] (i64 16):=CD EB 400 40 (by kernel_rfl)
theorem vq:AK C0 76 [i64 5,.sl false 1 [i64 1]] (i64 1):=CD EB 400 40 (by kernel_rfl)
theorem vr:AK C0 76 [i64 5,.sl false 1 [i64 17]] (i64 5):=CD EB 400 40 (by kernel_rfl)
theorem vt:AK C0 76 [i64 25,.sl false 1 [i64 23]] (i64 23):=CD EB 400 40 (by kernel_rfl)
instance d5F:AA DU:=by unfold DU;exact AH
instance d5I:Ak DU:=by unfold DU;exact AH
theorem vu:AK C0 74 [DU,.sl false 1 (DV [16,5]),i64 ((0:Nat):Int)] (i64 16):=TN DU ⟨_,_,_,_,_,rfl⟩ false _ 0 16 rfl _ 16 iQ vp
theorem vw:AK C0 74 [DU,.sl false 1 (DV [16,5]),i64 ((1:Nat):Int)] (i64 1):=TN DU ⟨_,_,_,_,_,rfl⟩ false _ 1 5 rfl _ 1 iR vq
theorem vz:AK C0 74 [DU,.sl false 1 (DV [0,5]),i64 ((1:Nat):Int)] (i64 5):=TN DU ⟨_,_,_,_,_,rfl⟩ false _ 1 5 rfl _ 5 iS vr
theorem ri:AK C0 75 [DU] (.sl false 1 (DV [16,5])):=CD EB 400 40 (by kernel_rfl)
theorem my:AK C0 73 [DU,.sl true 1 [i64 1]] (i64 0):=CD EB 400 40 (by kernel_rfl)
theorem rh:AK C0 32 [DU] (i64 0):=CD EB 400 40 (by kernel_rfl)
theorem kA:AK C0 25 [DU,i64 1] (.tup [i64 23,i64 0]):=ly DU _ _ _ _ 30 rfl _ 1 5 rfl _ 23 my ri iT 25 rfl vt
def UC:List (Nat×List D×D):=(74,[DU,.sl false 1 (DV [16,5]),i64 1],i64 1)::OM
theorem mD:∀e∈UC,AK C0 e.1 e.2.1 e.2.2/\Ah e.2.1:=by
 intro e he;rcases A7.1 he with rfl|he
 ·exact⟨vw,AH⟩
 ·exact Xh e he
noncomputable def bj:EV:=⟨Ol,LY.get,Mr.get,λ_=>false,MP UC,RI,KF⟩
theorem rc:FB C0 bj:=⟨UB,Qo,JU,SH UC mD,by kernel_rfl,Y9,Pp⟩
theorem nD:AK C0 24 [DU,i64 1] (.tup [i64 1,i64 0]):=CD rc 400 40 (by kernel_rfl)
theorem jz:AK C0 49 [DU,i64 0,str (sb tB)] (.tup [i64 2,i64 0]):=CD EB 400 40 (by kernel_rfl)
theorem nB:AK C0 50 [DU,i64 0,str (sb tB)] (.tup [i64 8,i64 0]):=CD EB 400 40 (by kernel_rfl)
def b9 (l:List Int):Int:=if l=[16,5]then 16 else 5
theorem jy:AK C0 51 [DU] (.tup [.sl false 2 [JY (0,16),JY (1,5)],i64 0]):=by
 have h:=kO (str (sb Lq)) (i64 4) (i64 30) (i64 12) false [cA,cB] [16,5] rfl (by simp) (by decide) (λi c m h1 h2=>by
  match i with
  | 0=>cases h1;cases h2;exact Z9
  | 1=>cases h1;cases h2;exact CD EB 400 40 (by kernel_rfl)
  |i+2=>cases h1) (λc hc=>by
  simp only[A7,DD,or_false]at hc;rcases hc with rfl|rfl
  ·exact⟨_,_,rfl,uG⟩
  ·exact⟨_,_,rfl,uH⟩) rh b9 (λl=>l=[16,5]\/l=[0,5]\/l=[0,0]) (.inl rfl) (λl hl hn=>by
  rcases hl with rfl|rfl|rfl
  ·exact⟨vu,rfl,.inr (.inl rfl)⟩
  ·exact⟨vz,rfl,.inr (.inr rfl)⟩
  ·exact AY rfl hn)
 rw[show KS b9 257 [16,5] []=([(0,16),(1,5)],0) by kernel_rfl]at h;exact h
abbrev Wz:Dr:=[(16,[0,1,2,3,4,5,6,7,8,9,10,11,12,13,14,15,16,17,18],[19,20,21])]
open Go.Proofs Go.RowKit Go.Sort
set_option maxRecDepth 20000
set_option maxHeartbeats 8000000
def uZ:D:=.sl true 2 [.agg [str (sb tA),str (sb F6)],.agg [str (sb tB),str (sb GC)]]
theorem uD (m:Int):AK C0 52 [.sl false 2 [.agg [str (sb tA),str (sb F6)],.agg [str (sb tB),str (sb GC)]],uZ] (Aq true):=CD EB 400 40 (by kernel_rfl)
theorem rM:AK C0 22 [.sl false 2 [CH (tA,F6),CH (tB,GC)],.sl true 2 [CH (tA,F6),CH (tB,GC)]] (Aq true):=CD EB 400 40 (by kernel_rfl)
theorem ur:AK C0 53 [i64 2,Aq true] (Ey (Cy 2)):=CD EB 400 40 (by kernel_rfl)
theorem us:AK C0 53 [i64 1,Aq false] (Ey (Cd 1)):=CD EB 400 40 (by kernel_rfl)
theorem ut:AK C0 53 [i64 9,Aq false] (Ey (Cd 9)):=CD EB 400 40 (by kernel_rfl)
theorem uu:AK C0 53 [i64 4,Aq true] (Ey (Cy 4)):=CD EB 400 40 (by kernel_rfl)
theorem uv:AK C0 17 [A0 false [Cy 2,Cd 1],.sl true 3 [Ey (Cy 2),Ey (Cd 1)]] (Aq true):=CD EB 400 40 (by kernel_rfl)
theorem uw:AK C0 17 [A0 false [Cd 9,Cy 4],.sl true 3 [Ey (Cd 9),Ey (Cy 4)]] (Aq true):=CD EB 400 40 (by kernel_rfl)
theorem mq:AK C0 10 [] (Aq true):=by
 refine Ai.walk w1 Z6 rfl λF=>?_
 have cE:=uf;have cL:=nC;have cP:AK C0 11 [cA,.prim (.string ⟨#[119,104,101,97,116]⟩)] (.tup [(KE 16).D,i64 0]):=nI;have cD:=nA;have cM:=nD;have cS:=kA;have cF:AK C0 49 [DU,i64 0,.prim (.string ⟨#[98]⟩)] (.tup [i64 2,i64 0]):=jz;have cLa:AK C0 50 [DU,i64 0,.prim (.string ⟨#[98]⟩)] (.tup [i64 8,i64 0]):=nB;have cEm:=jy;have cSh:=jH;have pA:AA cA:=AH;have pB:AA cB:=AH;have pX:AA DU:=AH;unfold DU at cE cD cM cS cF cLa cEm pX;have hA:∃T,cA=.sl false 3 T:=⟨_,rfl⟩
 have hB:∃T,cB=.sl false 3 T:=⟨_,rfl⟩
 obtain⟨TA,hA⟩:=hA;obtain⟨TB,hB⟩:=hB;rw[hA,hB]at cE cD cM cS cF cLa cEm pX;rw[hA]at cL cP cSh pA;rw[hB]at pB;have hm:([.sl false 3 TA,.sl false 3 TB]:List D)[0]?=some (.sl false 3 TA):=rfl;have dP:(KE 16).D=.agg [str (sb El),i64 16,.sl false 2 [.agg [str (sb tA),str (sb F6)],.agg [str (sb tB),str (sb GC)]]]:=rfl;have dP2:(KE 15).D=.agg [str (sb El),i64 15,.sl false 2 [.agg [str (sb tA),str (sb F6)],.agg [str (sb tB),str (sb GC)]]]:=rfl;rw[dP]at cP;rw[dP2]at cSh;unfold b7 at cD;refine AJ Wz kB cE hm cL cP cD cM ?_;refine cI cS ?_;refine sR 700 ?_;refine cI cF ?_;refine sR 800 ?_;refine cI cLa ?_;refine sR 900 ?_;refine cI cEm ?_;refine sR 1000 ?_;refine Bo kT hm ?_;refine AD kB ?_;refine cI cSh ?_;have z0:IntKind.i64.wrap (0+0)=0:=rfl;have n0:((0:Int) != 0)=false:=rfl;have n1:((1:Int) != 1)=false:=rfl;have n23:((23:Int) != 23)=false:=rfl;have n2:((2:Int) != 2)=false:=rfl;have n2':(((2:Nat):Int) != 2)=false:=rfl;have s0:([.agg [i64 0,i64 16],.agg [i64 1,i64 5]]:List D)[0]?=some (.agg [i64 0,i64 16]):=rfl;have s1:([.agg [i64 0,i64 16],.agg [i64 1,i64 5]]:List D)[1]?=some (.agg [i64 1,i64 5]):=rfl;have n8:((8:Int) != 8)=false:=rfl;obtain⟨C1,hC1⟩:∃d,A0 false [Cd 9,Cy 4]=d:=⟨_,rfl⟩
 obtain⟨O1,hO1⟩:∃d,A0 false [Cy 2,Cd 1]=d:=⟨_,rfl⟩
 rw[hC1,hO1];refine AC.weak ⟨[(2,.sl false 2 [.agg [str (sb tA),str (sb RN)],.agg [str (sb tB),str (sb t3)]]),(3,i64 0),(4,.optr 308 22 3 0 0),(5,i64 0),(6,.optr 406 31 5 0 0),(7,O1),(8,i64 0),(9,i64 1),(10,i64 0),(11,i64 23),(12,i64 0),(13,i64 2),(14,i64 0),(15,i64 8),(16,i64 0),(17,.sl false 2 [.agg [i64 0,i64 16],.agg [i64 1,i64 5]]),(18,i64 0),(19,.optr 1009 79 3 0 0),(20,.sl false 2 [.agg [str (sb tA),str (sb F6)],.agg [str (sb tB),str (sb GC)]]),(21,i64 0)],
  [⟨1009,79,27,3,[.agg [str (sb El),i64 15,.sl false 2 [.agg [str (sb tA),str (sb F6)],.agg [str (sb tB),str (sb GC)]]]]⟩,⟨406,31,48,5,[.agg [str (sb Lq),i64 4,i64 30,i64 12,.sl false 1 [C1,A0 false [Cd 5]]]]⟩,⟨308,22,27,3,[.agg [str (sb El),i64 16,.sl false 2 [.agg [str (sb tA),str (sb F6)],.agg [str (sb tB),str (sb GC)]]]]⟩],_⟩ AI ?_
 refine AC.seq ?_;refine AC.seq ?_;refine vG w1 1100 [([0,1,2,3,4,5,6,7,8,9,10,11,12,13,14,15,16,17,18,19,20,21,22,23,24,25,26,27,28,29,30,31,32,33,34,35,36,37,38,39,40,41,42,43],44),([45,46,47,48,49,50],51)] [52] rfl (by kernel_rfl) ?_;change Ci _ _ _ _ _ _ _ _;refine AD (Dy z0 n0 n1 n23 n2 n2' (At n8 kT kF)) ?_;refine AD (Dy z0 n0 n1 n23 n2 n2' (At n8 kT kF)) ?_;refine AD (Dy z0 n0 n1 n23 n2 n2' (At n8 kT kF)) ?_;refine AD (Dy z0 n0 n1 n23 n2 n2' (At n8 kT kF)) ?_;refine AD (Dy z0 n0 n1 n23 n2 n2' (At n8 kT kF)) ?_;refine AD (At n2' kT kF) ?_;refine Bo kF s0 ?_;refine AD (At n2' kT kF) ?_;refine AD (At n2' kT kF) ?_;refine⟨Aq false,λos K' hk=>bO (a1:=0) (a2:=16) (b1:=0) (b2:=16) rfl rfl Xg rfl rfl hk,?_⟩;change Ci _ _ _ _ _ ⟨(124,Aq false)::_,_,_⟩ _ _;refine As ?_;refine AD (At n2' kT kF) ?_;refine AD (At n2' kT kF) ?_;refine Bo kF s1 ?_;refine AD (At n2' kT kF) ?_;refine AD (At n2' kT kF) ?_;refine⟨Aq false,λos K' hk=>bO (a1:=1) (a2:=5) (b1:=1) (b2:=5) rfl rfl Xg rfl rfl hk,?_⟩;change Ci _ _ _ _ _ ⟨(131,Aq false)::_,_,_⟩ _ _;refine As ?_;refine AD (At n2' kT kF) ?_;refine AL ?_;refine Aj ?_;refine AC.weak ⟨[(2,.sl false 2 [.agg [.prim (.string ⟨#[97]⟩),.prim (.string ⟨#[49,51]⟩)],.agg [.prim (.string ⟨#[98]⟩),.prim (.string ⟨#[51]⟩)]]),(4,.optr 308 22 3 0 0),(6,.optr 406 31 5 0 0),(7,O1),(19,.optr 1009 79 3 0 0),(20,.sl false 2 [.agg [.prim (.string ⟨#[97]⟩),.prim (.string ⟨#[49,51,47,49,54]⟩)],.agg [.prim (.string ⟨#[98]⟩),.prim (.string ⟨#[51,47,49,54]⟩)]])],
  [⟨1009,79,27,3,[.agg [str (sb El),i64 15,.sl false 2 [.agg [.prim (.string ⟨#[97]⟩),.prim (.string ⟨#[49,51,47,49,54]⟩)],.agg [.prim (.string ⟨#[98]⟩),.prim (.string ⟨#[51,47,49,54]⟩)]]]]⟩,⟨406,31,48,5,[.agg [str (sb Lq),i64 4,i64 30,i64 12,.sl false 1 [C1,A0 false [Cd 5]]]]⟩,⟨308,22,27,3,[.agg [str (sb El),i64 16,.sl false 2 [.agg [.prim (.string ⟨#[97]⟩),.prim (.string ⟨#[49,51,47,49,54]⟩)],.agg [.prim (.string ⟨#[98]⟩),.prim (.string ⟨#[51,47,49,54]⟩)]]]]⟩],_⟩ AI ?_
 have h1:AK C0 52 [.sl false 2 [.agg [.prim (.string ⟨#[97]⟩),.prim (.string ⟨#[49,51,47,49,54]⟩)],.agg [.prim (.string ⟨#[98]⟩),.prim (.string ⟨#[51,47,49,54]⟩)]],.sl true 2 [.agg [.prim (.string ⟨#[97]⟩),.prim (.string ⟨#[49,51,47,49,54]⟩)],.agg [.prim (.string ⟨#[98]⟩),.prim (.string ⟨#[51,47,49,54]⟩)]]] (Aq true):=uD 0;have h2:AK C0 22 [.sl false 2 [.agg [.prim (.string ⟨#[97]⟩),.prim (.string ⟨#[49,51,47,49,54]⟩)],.agg [.prim (.string ⟨#[98]⟩),.prim (.string ⟨#[51,47,49,54]⟩)]],.sl true 2 [.agg [.prim (.string ⟨#[97]⟩),.prim (.string ⟨#[49,51,47,49,54]⟩)],.agg [.prim (.string ⟨#[98]⟩),.prim (.string ⟨#[51,47,49,54]⟩)]]] (Aq true):=rM;have e1:Bj ⟨#[97]⟩ ⟨#[97]⟩=true:=strEq_self _;have e2:Bj ⟨#[49,51]⟩ ⟨#[49,51]⟩=true:=strEq_self _;have e3:Bj ⟨#[98]⟩ ⟨#[98]⟩=true:=strEq_self _;have e4:Bj ⟨#[51]⟩ ⟨#[51]⟩=true:=strEq_self _;have x0:([.agg [.prim (.string ⟨#[97]⟩),.prim (.string ⟨#[49,51]⟩)],.agg [.prim (.string ⟨#[98]⟩),.prim (.string ⟨#[51]⟩)]]:List D)[0]?=some (.agg [.prim (.string ⟨#[97]⟩),.prim (.string ⟨#[49,51]⟩)]):=rfl;have x1:([.agg [.prim (.string ⟨#[97]⟩),.prim (.string ⟨#[49,51]⟩)],.agg [.prim (.string ⟨#[98]⟩),.prim (.string ⟨#[51]⟩)]]:List D)[1]?=some (.agg [.prim (.string ⟨#[98]⟩),.prim (.string ⟨#[51]⟩)]):=rfl;have b1:(!(true&&(true&&true)))=false:=rfl;have n16:((16:Int) != 16)=false:=rfl;have n15:((15:Int) != 15)=false:=rfl;have k1:=ur;have k2:=us;have k3:=ut;have k4:=uu;have k5:=uv;have k6:=uw;have pA1:Ah [A0 false [Cy 2,Cd 1],.sl true 3 [Ey (Cy 2),Ey (Cd 1)]]:=⟨λd hd=>by
  simp only[A7,DD,or_false]at hd;rcases hd with rfl|rfl
  ·exact(AH:AA (A0 false [Cy 2,Cd 1])).out
  ·exact Gj (n:=30) (by kernel_rfl)⟩
 have pA2:Ah [A0 false [Cd 9,Cy 4],.sl true 3 [Ey (Cd 9),Ey (Cy 4)]]:=⟨λd hd=>by
  simp only[A7,DD,or_false]at hd;rcases hd with rfl|rfl
  ·exact(AH:AA (A0 false [Cd 9,Cy 4])).out
  ·exact Gj (n:=30) (by kernel_rfl)⟩
 rw[hO1]at k5 pA1;rw[hC1]at k6 pA2;obtain⟨u1,u2,u3,hu⟩:∃a b c,Ey (Cy 2)=.agg [a,b,c]:=⟨_,_,_,rfl⟩
 obtain⟨v1,v2,v3,hv⟩:∃a b c,Ey (Cd 1)=.agg [a,b,c]:=⟨_,_,_,rfl⟩
 obtain⟨y1,y2,y3,hy⟩:∃a b c,Ey (Cd 9)=.agg [a,b,c]:=⟨_,_,_,rfl⟩
 obtain⟨z1,z2,z3,hz⟩:∃a b c,Ey (Cy 4)=.agg [a,b,c]:=⟨_,_,_,rfl⟩
 rw[hu]at k1;rw[hv]at k2;rw[hy]at k3;rw[hz]at k4;rw[hu,hv]at k5 pA1;rw[hy,hz]at k6 pA2;obtain⟨C2,hC2⟩:∃d,A0 false [Cd 5]=d:=⟨_,rfl⟩
 obtain⟨C1L,hC1L⟩:∃T,C1=.sl false 3 T:=⟨_,hC1.symm⟩
 rw[hC2,hC1L];rw[hC1L]at k6 pA2;have q0:([.sl false 3 C1L,C2]:List D)[0]?=some (.sl false 3 C1L):=rfl;have n2e:(((2:Nat):Int)==2)=true:=rfl;refine AJ Wz (Dy b1 n2' n16 n15 e1 e2 (BV e3 e4 kT kF)) x0 x1 h1 h2 AB AB ?_;refine BS.same _ (k1) AH ?_;refine BL ?_;refine AD (At n2e kT kF) ?_;refine BS.same _ (k2) AH ?_;refine BL ?_;refine AD (At n2e kT kF) ?_;refine BS.same _ k5 pA1 ?_;refine As ?_;refine AD (At n2e kT kF) ?_;refine AD (At n2e kT kF) ?_;refine AD (At n2e kT kF) ?_;refine Bo kT q0 ?_;refine AD (At n2e kT kF) ?_;refine AD (At n2e kT kF) ?_;refine LU kT ?_;refine BS.same _ (k3) AH ?_;refine BL ?_;refine LU kT ?_;refine BS.same _ (k4) AH ?_;refine BL ?_;refine AD (At n2e kT kF) ?_;refine AD (At n2e kT kF) ?_;refine AD (At n2e kT kF) ?_;refine LU kT ?_;refine Az.same _ k6 pA2 ?_;refine As ?_;refine AD (At n2e kT kF) ?_;refine AD (At n2e kT kF) ?_;refine Ab ?_;exact AO rfl AA.out
end Go.Ide
