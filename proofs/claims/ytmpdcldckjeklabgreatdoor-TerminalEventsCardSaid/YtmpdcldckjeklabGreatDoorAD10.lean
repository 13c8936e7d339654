/- The layer of own lemmas and contracts, part 10. -/
import Derived.Test.YtmpdcldckjeklabGreatDoorAD9
import Derived.Test.YtmpdcldckjeklabGreatDoorAD7
set_option linter.unusedVariables false
set_option linter.unusedSimpArgs false
namespace Go.Ide
abbrev EU:Dr:=[(10,[0,1,2,3,4,5,6,7,8,9,10,11,12,13,14,15],[16]),(14,[0,1,2,3,4,5,6,7,8,9,10,11],[12])]
open Go.Proofs Go.RowKit
set_option maxRecDepth 20000
set_option maxHeartbeats 4000000
theorem LO (c:UInt8):∀l:List UInt8,((BO c l).map List.length).sum+l.count c=l.length
 | []=>rfl
 |b::l=>by
  have ih:=LO c l;rw[LV,CP]
  by_cases hb:b=c
  ·rw[AQ hb,hb,List.count_cons_self,BP,List.sum_cons,GJ];omega
  ·rw[AP hb,List.count_cons_of_ne hb]
   have hne:=P3 c l;split
   ·rename_i w ws h
    rw[h,BP,List.sum_cons]at ih;rw[BP,List.sum_cons,CP];omega
   ·rename_i h;exact AY h hne
theorem OK {w:List UInt8}:∀ {ws:List (List UInt8)},w∈ws->w.length<=(ws.map List.length).sum
 | [],h=>by cases h
 |a::ws,h=>by
  rw[BP,List.sum_cons];rcases Ae.1 h with rfl|h
  ·omega
  ·have:=OK h;omega
theorem Uu {c:UInt8}{l w:List UInt8}(h:w∈BO c l):w.length<=l.length:=by
 have:=OK h
 have:=LO c l
 omega
abbrev Kl:Bs:=⟨0,0,[],[],[]⟩
def Kq (ws:List (List UInt8)):Bs:=
 let e:=Gr (ws.getD 2 []) ((ws.take (ws.length-1)).drop 3)
 ⟨(Cg (ws.getD 0 []):Nat),(Cg (ws.getD 1 []):Nat),e.kind,e.names,e.masses⟩
def Kw (l:List UInt8):Bs×Nat:=
 if 4096<l.length then(Kl,23)
 else if(BO 32 l).length<4\/(BO 32 l).contains []=true then(Kl,21)
 else if B2 ((BO 32 l).getD ((BO 32 l).length-1) [])=false then(Kl,21)
 else if Lib.itoa (Bb (l.take (l.length-((BO 32 l).getD ((BO 32 l).length-1) []).length-1)):Nat)≠(BO 32 l).getD ((BO 32 l).length-1) []then(Kl,24)
 else if B2 ((BO 32 l).getD 0 [])=true/\B2 ((BO 32 l).getD 1 [])=true/\(Gs ((BO 32 l).getD 2 []) (((BO 32 l).take ((BO 32 l).length-1)).drop 3)).isSome=true/\Df (Kq (BO 32 l))=0 then(Kq (BO 32 l),0)
 else(Kl,21)
theorem WF {k:List UInt8}{ws n:List (List UInt8)}{m:List Int}(h:Gs k ws=some (n,m)):n.length<=ws.length/\m.length<=ws.length:=by
 unfold Gs at h;split at h<;>try(cases h;done)
 split at h<;>try(cases h;done)
 cases h;rw[Jb,Bi,LA];omega
theorem WE (k:List UInt8)(ws:List (List UInt8)):(Gr k ws).names.length<=ws.length/\(Gr k ws).masses.length<=ws.length:=by
 unfold Gr;split
 ·exact⟨Cv _,Cv _⟩
 ·rename_i h;exact WF h
theorem Wn {ws:List (List UInt8)}(h:4<=ws.length):∃w0 w1 w2 ms z,ws=w0::w1::w2::(ms++[z]):=by
 match ws,h with
 |w0::w1::w2::x::r,_=>
  obtain⟨ms,z,hm⟩:∃ms z,x::r=ms++[z]:=⟨(x::r).dropLast,(x::r).getLast (by simp),(List.dropLast_concat_getLast (by simp)).symm⟩
  exact⟨w0,w1,w2,ms,z,by rw[hm]⟩
section
attribute [local irreducible] FY
theorem Uj (l:List UInt8)(hl:l.length<=100000):Aa C0 9 [AR l] (.tup [Bc false false (Kw l).1,i64 ((Kw l).2:Nat)]):=by
 refine A0.walk w1 ec rfl λF=>?_
 have hsz:=Ch l;have cS:=Vx 32 l hl;unfold Kw;rcases Ar 4096 l.length with h1|h1
 ·have t1:decide (((l.length:Nat):Int)>4096)=true:=BB
  rw[AQ h1];refine AT EU (Bn hsz t1) AA AA AA AA AA AA ?_;exact⟨_,Dv E2 (.refl _),AB.out,rfl⟩
 have t1:decide (((l.length:Nat):Int)>4096)=false:=Au;rw[AP (show ¬ 4096<l.length by omega)];have hmem:∀w∈BO 32 l,w.length<=4096:=λw hw=>Ax (Uu hw) h1
 have hsum:=LO 32 l;have hlen:=LN 32 l;obtain⟨ws,hws⟩:∃ws,BO 32 l=ws:=⟨_,rfl⟩
 rw[hws]at cS hmem hsum hlen⊢;have hn:(ws.map AR).length=ws.length:=Bi ..;have hcl:l.count 32<=l.length:=List.count_le_length;have cC:=Tx ws [] false (by omega);have wl:IntKind.i64.wrap (((ws.length:Nat):Int)-1)=((ws.length-1:Nat):Int):=by rw[wI];omega
 rcases Ar ws.length 4 with h2|h2
 ·have t2:decide (((ws.length:Nat):Int)<4)=true:=BB
  rw[AQ (.inl h2)];refine AT EU (FV hsz t1 hn wl t2) cS AA AA AA AA AA ?_;exact⟨_,Dv E2 (.refl _),AB.out,rfl⟩
 have t2:decide (((ws.length:Nat):Int)<4)=false:=Au;cases h3:ws.contains []with
 |true=>
  rw[h3]at cC;rw[AQ (.inr rfl)];refine AT EU (FV hsz t1 hn wl t2) cS cC AA AA AA AA ?_;exact⟨_,Dv E2 (.refl _),AB.out,rfl⟩
 |false=>
 rw[h3]at cC;rw[AP (show ¬(ws.length<4\/false=true) by simp;omega)];obtain⟨u0,u1,u2,ms,z,rfl⟩:=Wn h2;have hN:(u0::u1::u2::(ms++[z])).length=ms.length+4:=by simp
 have hz:(u0::u1::u2::(ms++[z])).getD ((u0::u1::u2::(ms++[z])).length-1) []=z:=by
  rw[hN];simp
 have hmid:((u0::u1::u2::(ms++[z])).take ((u0::u1::u2::(ms++[z])).length-1)).drop 3=ms:=by
  rw[hN];simp
 have g0:(u0::u1::u2::(ms++[z])).getD 0 []=u0:=rfl;have g1:(u0::u1::u2::(ms++[z])).getD 1 []=u1:=rfl;have g2:(u0::u1::u2::(ms++[z])).getD 2 []=u2:=rfl;unfold Kq;rw[hz,hmid,g0,g1,g2];have m0:=hmem u0 (by simp);have m1:=hmem u1 (by simp);have mz:=hmem z (by simp);have mm:∀w∈ms,w.length<=100000:=λw hw=>Ax (hmem w (by simp[hw])) (by omega)
 have hzl:z.length+1<=l.length:=by
  have:=OK (w:=z) (ws:=u0::u1::u2::(ms++[z])) (by simp)
  omega
 have hml:ms.length<=100000:=by omega
 have q0:((u0::u1::u2::(ms++[z])).map AR)[0]?=some (AR u0):=rfl;have q1:((u0::u1::u2::(ms++[z])).map AR)[1]?=some (AR u1):=rfl;have q2:((u0::u1::u2::(ms++[z])).map AR)[2]?=some (AR u2):=rfl;have qz:((u0::u1::u2::(ms++[z])).map AR)[ms.length+3]?=some (AR z):=by
  rw[BW,show ms.length+3=(u0::u1::u2::ms).length from rfl,show u0::u1::u2::(ms++[z])=(u0::u1::u2::ms)++[z]from rfl,B3 (Ah _)];simp
 have qm:List.take (ms.length+3-3) (List.drop 3 ((u0::u1::u2::(ms++[z])).map AR))=ms.map AR:=by
  show List.take ms.length (List.map AR (ms++[z]))=_;rw[GM];exact List.take_left' (by simp)
 rw[hN]at hn;rw[hN,show ms.length+4-1=ms.length+3 from rfl]at wl;have t2':decide (((ms.length+4:Nat):Int)<4)=false:=Au;have hp:AG ((u0::u1::u2::(ms++[z])).map AR):=Ao;obtain⟨qq,hQ⟩:∃qq,(u0::u1::u2::(ms++[z])).map AR=qq:=⟨_,rfl⟩
 rw[hQ]at q0 q1 q2 qz qm hn hp cC cS;have cZ:=Ju z (by omega);have cW0:=Ju u0 (by omega);have cW1:=Ju u1 (by omega);clear hmem hsum hlen hcl h2 h3 g0 g1 g2 hz hmid hN hQ hws t2;cases i1:B2 z with
 |false=>
  rw[i1]at cZ;rw[AQ rfl];refine AT EU (FV hsz t1 hn wl t2') cS cC qz cZ AA AA ?_;exact⟨_,Dv E2 (.refl _),AB.out,rfl⟩
 |true=>
 rw[i1]at cZ;rw[AP (by simp)];have hzz:=Ch z;have wz1:IntKind.i64.wrap (((l.length:Nat):Int)-((z.length:Nat):Int))=((l.length-z.length:Nat):Int):=by rw[wI];omega
 have wz2:IntKind.i64.wrap (((l.length-z.length:Nat):Int)-1)=((l.length-z.length-1:Nat):Int):=by rw[wI];omega
 have ex:(sb l).extract 0 (l.length-z.length-1)=sb (l.take (l.length-z.length-1)):=by rw[Ka];rfl
 have hb1:(((l.length-z.length-1:Nat):Int))<=((l.length:Nat):Int):=by omega
 have cK:=Rh (l.take (l.length-z.length-1)) (by rw[Jb];omega);obtain⟨pre,hpre⟩:∃pre,l.take (l.length-z.length-1)=pre:=⟨_,rfl⟩
 rw[hpre]at ex cK⊢;have eK:=CV (Lib.itoa (Bb pre:Nat)) z;obtain⟨ck,hck⟩:∃ck,Lib.itoa (Bb pre:Nat)=ck:=⟨_,rfl⟩
 rw[hck]at cK eK⊢;have cP:=U4 u2 ms false hml mm
 by_cases h5:ck=z
 rotate_left
 ·rw[CH h5]at eK
  rw[AQ h5];refine AT EU (FV hsz t1 hn wl t2') cS cC qz cZ AA AA ?_;refine AT EU (Eu hsz hzz wz1 wz2 kN ex eK) qz cK AA AA AA AA ?_;exact⟨_,Dv E2 (.refl _),AB.out,rfl⟩
 rw[BX h5]at eK;rw[AP (by simpa using h5)];refine AT EU (FV hsz t1 hn wl t2') cS cC qz cZ AA AA ?_;refine AT EU (Eu hsz hzz wz1 wz2 kN ex eK) qz cK AA AA AA AA ?_;refine AT EU kB q0 cW0 AA AA AA AA ?_;refine AT EU kB q1 AA AA AA AA AA ?_;refine cI cW1 ?_;have hpn:=WE u2 ms;obtain⟨pe,hpe⟩:∃pe,Gr u2 ms=pe:=⟨_,rfl⟩
 rw[hpe]at cP hpn⊢;obtain⟨po,hpo⟩:∃b,(Gs u2 ms).isSome=b:=⟨_,rfl⟩
 rw[hpo]at cP⊢;obtain⟨pn,pd,pk,pnm,pms⟩:=pe;dsimp only at hpn⊢;unfold Bc at cP;dsimp only at cP;have cE:=Ng false false ⟨(Cg u0:Nat),(Cg u1:Nat),pk,pnm,pms⟩ (by dsimp only;omega) (by dsimp only;omega);unfold Bc at cE;dsimp only at cE;obtain⟨ce,hce⟩:∃ce,Df ⟨(Cg u0:Nat),(Cg u1:Nat),pk,pnm,pms⟩=ce:=⟨_,rfl⟩
 rw[hce]at cE⊢;refine AN.weak ⟨[(2,.optr 0 0 5 0 0),(3,i64 0),(4,.sl false 1 qq),(5,i64 (ms.length+3:Nat)),(8,i64 (Cg u0:Nat)),(9,Am (B2 u0)),(10,i64 (Cg u1:Nat)),(11,Am (B2 u1))],[⟨0,0,25,5,[.agg [i64 0,i64 0,AR [],BC,BC]]⟩],67⟩ Ap ?_;clear hsz cS cC wl t1 t2' q0 q1 qz cZ cW0 cW1 wz1 wz2 ex cK eK hzz hb1;generalize B2 u0=b0 at*;generalize B2 u1=b1 at*;generalize Cg u0=v0 at*;generalize Cg u1=v1 at*;refine AN.seq ?_;refine PA w1 1400 [0,1,2,3,4,5,6,7,8,9,10,11] [12] 11 10 [7,5,4,3,2,1,0,6,8,10] (by kernel_rfl) (by kernel_rfl) ?_;refine BG ?_;refine Th kN ?_;refine LW rfl rfl rfl rfl ?_;refine Oe (λ_ _=>rfl) (by exact Bv) ⟨rfl,by omega⟩ q2 ?_;refine BG ?_;have qm':List.take (ms.length+3-(3:Int).toNat) (List.drop ((3:Int).toNat) qq)=ms.map AR:=qm;refine Th (Bn kN qm') ?_;refine LW rfl rfl rfl rfl ?_;refine BG ?_;refine DO (by exact Bv) ?_;refine BG ?_;refine CT.same _ cP Ao ?_;refine BG ?_
 repeat(first|(refine LW rfl rfl rfl rfl ?_;first|refine Ey (λ_ _=>rfl) ?_|refine I4 rfl rfl rfl (by(try dsimp only);(try simp only[]);exact rfl) ?_)|(refine QA rfl rfl rfl ?_;first|refine Qh (λ_ _=>rfl) ?_|refine RQ rfl rfl rfl (by(try dsimp only);(try simp only[]);exact rfl) ?_)|(refine P9 rfl rfl rfl rfl ?_;refine Ey (λ_ _=>rfl) ?_))
 try refine Ps ?_
 refine BG ?_
 try simp only[]
 refine DO ⟨trivial,.inl AA⟩ ?_;cases b0
 ·rw[AP (by simp)]
  refine AT EU kB AA AA AA AA AA AA ?_;exact⟨_,Dv E2 (.refl _),AB.out,rfl⟩
 cases b1
 ·rw[AP (by simp)]
  refine AT EU kB AA AA AA AA AA AA ?_;exact⟨_,Dv E2 (.refl _),AB.out,rfl⟩
 cases po
 ·rw[AP (by simp)]
  refine AT EU kB AA AA AA AA AA AA ?_;exact⟨_,Dv E2 (.refl _),AB.out,rfl⟩
 by_cases h6:ce=0
 rotate_left
 ·have e6:(((ce:Nat):Int) != 0)=true:=by rw[bne_iff_ne];omega
  rw[AP (λq=>h6 q.2.2.2)];refine AT EU e6 cE AA AA AA AA AA ?_;exact⟨_,Dv E2 (.refl _),AB.out,rfl⟩
 have e6:(((ce:Nat):Int) != 0)=false:=by rw[h6];rfl
 rw[AQ ⟨rfl,rfl,rfl,h6⟩];refine AT EU e6 cE AA AA AA AA AA ?_;exact⟨_,.refl _,AB.out,rfl⟩
end
open Go.Proofs Go.RowKit
set_option maxRecDepth 20000
set_option maxHeartbeats 2000000
theorem VD (c:Nat):(97<=c/\c<=122)\/(122<c)\/(65<=c/\c<=90)\/((91<=c/\c<=96)/\c≠95)\/(c=95)\/(58<=c/\c<=64)\/(48<=c/\c<=57)\/(c<48/\c≠45/\c≠46)\/(c=45)\/(c=46):=by omega
theorem bP (l:List UInt8)(hl:l.length<=9223372036854775807):Aa C0 26 [str (sb l)] (Am (DY l)):=by
 refine A0.walk w1 dV rfl λF=>?_
 have hsz:=Ch l;refine sR 0 ?_;refine TY (α:=Nat) (λn=>⟨[(0,str (sb l))],[],n⟩) (λ_=>1<=l.length/\l.length<=24) ?_ ?_
 ·by_cases h1:l.length<1
  ·have e1:decide ((l.length:Int)<1)=true:=BB
   refine sZ 100 ?_;refine D4 (Bn hsz e1) ?_;refine CY kT ?_;refine Cq ?_;refine sR 200 ?_;refine Ev ?_;exact Ak (by unfold DY;rw[CH (show ¬ 1<=l.length by omega)];simp) AB.out
  ·have e1:decide ((l.length:Int)<1)=false:=Au
   have e2:decide ((l.length:Int)>24)=decide (24<l.length):=decide_eq_decide.2 (by omega);refine sZ 100 ?_;refine D4 (Bn hsz e1) ?_;refine CY (Cp kF hsz e2) ?_
   by_cases h2:24<l.length
   ·rw[BX h2]
    refine Cq ?_;refine sR 200 ?_;refine Ev ?_;exact Ak (by unfold DY;rw[CH (show ¬l.length<=24 by omega)];simp) AB.out
   ·rw[CH h2]
    refine Cq ?_;refine FG ?_;exact⟨rfl,_,⟨by omega,by omega⟩,Ap⟩
 rintro n0 ⟨l1,l2⟩;refine AN.seq ?_;refine sR 300 ?_;refine AN.block ?_;refine AN.loop (α:=Nat×Nat) (λp=>⟨[(0,str (sb l)),(3,i64 (p.1:Int))],[],p.2⟩) (λp=>l.length-p.1) (λp=>p.1<=l.length/\(l.take p.1).all (λb=>Bk b.toNat)=true) (0,_) ⟨Cv _,rfl⟩ Ap ?_;rintro⟨i,n⟩ F ⟨hi,ha⟩;dsimp only at hi ha⊢;refine AN.seq ?_;refine sZ 400 ?_;refine D4 hsz ?_;refine Cq ?_
 (refine IN (λhlt=>?_) (λhlt=>?_))<;>(try simp only[EZ,IV]at hlt)<;>(try simp only[hlt])
 ·have hi2:i<l.length:=by
   have:=of_decide_eq_true hlt
   omega
  obtain⟨c,hc⟩:∃c,l[i]?=some c:=⟨l[i],BK hi2⟩
  have hg:l.getD i 0=c:=by simp[hc]
  have wi:IntKind.i64.wrap ((i:Int)+1)=((i+1:Nat):Int):=wI;refine FG ?_;refine AN.seq ?_;refine AN.block ?_;refine sZ 600 ?_;refine D4 (Bn kN hg) ?_;have hcl:Bk c.toNat=false->DY l=false:=λh=>by
   unfold DY;cases hall:l.all (λb=>Bk b.toNat)
   ·rfl
   ·have:=CG.1 hall c (Bf hc)
    rw[h]at this;cases this
  have hsn:Bk c.toNat=true->(l.take (i+1)).all (λb=>Bk b.toNat)=true:=λh=>by
   rw[Fr,hc,K5,ha];simpa using h
  have hc9:c.toNat<256:=c.toNat_lt;generalize c.toNat=c at*;refine TY (α:=Nat) (λn=>⟨[(0,str (sb l)),(3,i64 (i:Int)),(56,Am (!Bk c))],[],n⟩) (λ_=>True) ?_ ?_
  ·clear hcl hsn
   rcases VD c with h|h|h|h|h|h|h|h|h|h
   ·skip
    have f1:decide ((c:Int)>=97)=true:=BB;have f2:decide ((c:Int)<=122)=true:=BB;have f3:decide ((c:Int)>=65)=true:=BB;have f4:decide ((c:Int)<=90)=false:=Au;have f5:decide ((c:Int)>=48)=true:=BB;have f6:decide ((c:Int)<=57)=false:=Au;have f7:((c:Int)==45)=false:=Bx.2 (by omega);have f8:((c:Int)==95)=false:=Bx.2 (by omega);have f9:((c:Int)==46)=false:=Bx.2 (by omega);have hnb:Bk c=true:=by
     unfold Bk;simp;omega
    rw[hnb];refine C8 700 ?_
    iterate 9
     refine CY kB ?_
     try simp only[f1,f2,f3,f4,f5,f6,f7,f8,f9]
    exact⟨by first|exact AA|rfl|simp,_,trivial,Ap⟩
   ·skip
    have f1:decide ((c:Int)>=97)=true:=BB;have f2:decide ((c:Int)<=122)=false:=Au;have f3:decide ((c:Int)>=65)=true:=BB;have f4:decide ((c:Int)<=90)=false:=Au;have f5:decide ((c:Int)>=48)=true:=BB;have f6:decide ((c:Int)<=57)=false:=Au;have f7:((c:Int)==45)=false:=Bx.2 (by omega);have f8:((c:Int)==95)=false:=Bx.2 (by omega);have f9:((c:Int)==46)=false:=Bx.2 (by omega);have hnb:Bk c=false:=by
     unfold Bk;simp;omega
    rw[hnb];refine C8 700 ?_
    iterate 9
     refine CY kB ?_
     try simp only[f1,f2,f3,f4,f5,f6,f7,f8,f9]
    exact⟨by first|exact AA|rfl|simp,_,trivial,Ap⟩
   ·skip
    have f1:decide ((c:Int)>=97)=false:=Au;have f2:decide ((c:Int)<=122)=true:=BB;have f3:decide ((c:Int)>=65)=true:=BB;have f4:decide ((c:Int)<=90)=true:=BB;have f5:decide ((c:Int)>=48)=true:=BB;have f6:decide ((c:Int)<=57)=false:=Au;have f7:((c:Int)==45)=false:=Bx.2 (by omega);have f8:((c:Int)==95)=false:=Bx.2 (by omega);have f9:((c:Int)==46)=false:=Bx.2 (by omega);have hnb:Bk c=true:=by
     unfold Bk;simp;omega
    rw[hnb];refine C8 700 ?_
    iterate 9
     refine CY kB ?_
     try simp only[f1,f2,f3,f4,f5,f6,f7,f8,f9]
    exact⟨by first|exact AA|rfl|simp,_,trivial,Ap⟩
   ·skip
    have f1:decide ((c:Int)>=97)=false:=Au;have f2:decide ((c:Int)<=122)=true:=BB;have f3:decide ((c:Int)>=65)=true:=BB;have f4:decide ((c:Int)<=90)=false:=Au;have f5:decide ((c:Int)>=48)=true:=BB;have f6:decide ((c:Int)<=57)=false:=Au;have f7:((c:Int)==45)=false:=Bx.2 (by omega);have f8:((c:Int)==95)=false:=Bx.2 (by omega);have f9:((c:Int)==46)=false:=Bx.2 (by omega);have hnb:Bk c=false:=by
     unfold Bk;simp;omega
    rw[hnb];refine C8 700 ?_
    iterate 9
     refine CY kB ?_
     try simp only[f1,f2,f3,f4,f5,f6,f7,f8,f9]
    exact⟨by first|exact AA|rfl|simp,_,trivial,Ap⟩
   ·skip
    have f1:decide ((c:Int)>=97)=false:=Au;have f2:decide ((c:Int)<=122)=true:=BB;have f3:decide ((c:Int)>=65)=true:=BB;have f4:decide ((c:Int)<=90)=false:=Au;have f5:decide ((c:Int)>=48)=true:=BB;have f6:decide ((c:Int)<=57)=false:=Au;have f7:((c:Int)==45)=false:=Bx.2 (by omega);have f8:((c:Int)==95)=true:=Gv.2 (by omega);have f9:((c:Int)==46)=false:=Bx.2 (by omega);have hnb:Bk c=true:=by
     unfold Bk;simp;omega
    rw[hnb];refine C8 700 ?_
    iterate 9
     refine CY kB ?_
     try simp only[f1,f2,f3,f4,f5,f6,f7,f8,f9]
    exact⟨by first|exact AA|rfl|simp,_,trivial,Ap⟩
   ·skip
    have f1:decide ((c:Int)>=97)=false:=Au;have f2:decide ((c:Int)<=122)=true:=BB;have f3:decide ((c:Int)>=65)=false:=Au;have f4:decide ((c:Int)<=90)=true:=BB;have f5:decide ((c:Int)>=48)=true:=BB;have f6:decide ((c:Int)<=57)=false:=Au;have f7:((c:Int)==45)=false:=Bx.2 (by omega);have f8:((c:Int)==95)=false:=Bx.2 (by omega);have f9:((c:Int)==46)=false:=Bx.2 (by omega);have hnb:Bk c=false:=by
     unfold Bk;simp;omega
    rw[hnb];refine C8 700 ?_
    iterate 9
     refine CY kB ?_
     try simp only[f1,f2,f3,f4,f5,f6,f7,f8,f9]
    exact⟨by first|exact AA|rfl|simp,_,trivial,Ap⟩
   ·skip
    have f1:decide ((c:Int)>=97)=false:=Au;have f2:decide ((c:Int)<=122)=true:=BB;have f3:decide ((c:Int)>=65)=false:=Au;have f4:decide ((c:Int)<=90)=true:=BB;have f5:decide ((c:Int)>=48)=true:=BB;have f6:decide ((c:Int)<=57)=true:=BB;have f7:((c:Int)==45)=false:=Bx.2 (by omega);have f8:((c:Int)==95)=false:=Bx.2 (by omega);have f9:((c:Int)==46)=false:=Bx.2 (by omega);have hnb:Bk c=true:=by
     unfold Bk;simp;omega
    rw[hnb];refine C8 700 ?_
    iterate 9
     refine CY kB ?_
     try simp only[f1,f2,f3,f4,f5,f6,f7,f8,f9]
    exact⟨by first|exact AA|rfl|simp,_,trivial,Ap⟩
   ·skip
    have f1:decide ((c:Int)>=97)=false:=Au;have f2:decide ((c:Int)<=122)=true:=BB;have f3:decide ((c:Int)>=65)=false:=Au;have f4:decide ((c:Int)<=90)=true:=BB;have f5:decide ((c:Int)>=48)=false:=Au;have f6:decide ((c:Int)<=57)=true:=BB;have f7:((c:Int)==45)=false:=Bx.2 (by omega);have f8:((c:Int)==95)=false:=Bx.2 (by omega);have f9:((c:Int)==46)=false:=Bx.2 (by omega);have hnb:Bk c=false:=by
     unfold Bk;simp;omega
    rw[hnb];refine C8 700 ?_
    iterate 9
     refine CY kB ?_
     try simp only[f1,f2,f3,f4,f5,f6,f7,f8,f9]
    exact⟨by first|exact AA|rfl|simp,_,trivial,Ap⟩
   ·skip
    have f1:decide ((c:Int)>=97)=false:=Au;have f2:decide ((c:Int)<=122)=true:=BB;have f3:decide ((c:Int)>=65)=false:=Au;have f4:decide ((c:Int)<=90)=true:=BB;have f5:decide ((c:Int)>=48)=false:=Au;have f6:decide ((c:Int)<=57)=true:=BB;have f7:((c:Int)==45)=true:=Gv.2 (by omega);have f8:((c:Int)==95)=false:=Bx.2 (by omega);have f9:((c:Int)==46)=false:=Bx.2 (by omega);have hnb:Bk c=true:=by
     unfold Bk;simp;omega
    rw[hnb];refine C8 700 ?_
    iterate 9
     refine CY kB ?_
     try simp only[f1,f2,f3,f4,f5,f6,f7,f8,f9]
    exact⟨by first|exact AA|rfl|simp,_,trivial,Ap⟩
   ·skip
    have f1:decide ((c:Int)>=97)=false:=Au;have f2:decide ((c:Int)<=122)=true:=BB;have f3:decide ((c:Int)>=65)=false:=Au;have f4:decide ((c:Int)<=90)=true:=BB;have f5:decide ((c:Int)>=48)=false:=Au;have f6:decide ((c:Int)<=57)=true:=BB;have f7:((c:Int)==45)=false:=Bx.2 (by omega);have f8:((c:Int)==95)=false:=Bx.2 (by omega);have f9:((c:Int)==46)=true:=Gv.2 (by omega);have hnb:Bk c=true:=by
     unfold Bk;simp;omega
    rw[hnb];refine C8 700 ?_
    iterate 9
     refine CY kB ?_
     try simp only[f1,f2,f3,f4,f5,f6,f7,f8,f9]
    exact⟨by first|exact AA|rfl|simp,_,trivial,Ap⟩
  rintro n1 -;cases hb:Bk c
  ·refine Cq ?_
   refine sR 800 ?_;refine Ev ?_;exact Ak (by rw[hcl hb]) AB.out
  ·refine Cq ?_
   refine FG ?_;refine C8 500 ?_;refine D4 wi ?_;exact⟨(i+1,_),⟨hi2,hsn hb⟩,by dsimp only;omega,Ap⟩
 ·have hi2:i=l.length:=by
   have:=of_decide_eq_false hlt
   omega
  subst hi2;rw[EJ (Ah _)]at ha;refine Hc ?_;refine sR 900 ?_;refine Ev ?_;exact Ak (by unfold DY;rw[ha,BX l1,BX l2];rfl) AB.out
theorem eN (l:List UInt8)(hl:l.length<=1000000):Aa C0 26 [str (sb l)] (Am (DY l)):=bP l (Ax hl (by decide))
end Go.Ide
