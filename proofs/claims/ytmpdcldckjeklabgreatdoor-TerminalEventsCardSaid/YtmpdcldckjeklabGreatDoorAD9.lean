/- The layer of own lemmas and contracts, part 9. -/
import Derived.Test.YtmpdcldckjeklabGreatDoorAD8
set_option linter.unusedVariables false
set_option linter.unusedSimpArgs false
namespace Go.Ide
open Go.Proofs Go.RowKit
set_option maxRecDepth 20000
set_option maxHeartbeats 4000000
section
attribute [local irreducible] FY
theorem UU (x:List UInt8)(l:List (List UInt8))(nn:Bool)(hl:l.length<=100000):Aa C0 74 [.sl nn 1 ((x::l).map AR)] (.sl false 1 ((x::l).map AR)):=by
 refine A0.walk w1 Sh rfl λF=>?_
 have hml:(l.map AR).length=l.length:=Bi ..;rw[BP];have hp:AG (AR x::l.map AR):=Ao;obtain⟨q,hq⟩:∃q,l.map AR=q:=⟨_,rfl⟩
 rw[hq]at hml hp⊢;have hne:AR x::q≠[]:=List.cons_ne_nil _ _;have hfz:=Ix 302 5 9 1 (AR x::q) [];rw[CP,hml]at hfz;cases nn
 ·refine AT Ad (Bn hml B6) AA AA AA AA AA AA ?_
  exact⟨_,hfz,AB.out,rfl⟩
 ·refine AT Ad (Bn hml B6) AA AA AA AA AA AA ?_
  exact⟨_,hfz,AB.out,rfl⟩
theorem Ih (k:List UInt8):match FM k with
  |some p=>1<=p.1/\p.1<=2/\p.2<=4
  |none=>True:=by
 refine LK (P:=λk o=>match o with
  |some p=>1<=p.1/\p.1<=2/\p.2<=4
  |none=>True) k (by decide) (by decide) (by decide) (by decide) (by decide) (by decide) (by decide) (by decide) (by decide) (by decide) (by decide) ?_
 intros;trivial
abbrev JO (w:List UInt8):D:=i64 (Cg w:Nat)
theorem E2 {H:Hp}:Fz H [] (.agg [D.prim BY,D.prim BY,D.prim BJ,D.prim Bp,D.prim Bp]) (Bc false false ⟨0,0,[],[],[]⟩):=by
 unfold Bc;refine .agg rfl λi d d' hd hd'=>?_
 match i with
 | 0=>simp at hd hd';subst hd;subst hd';exact .refl _
 | 1=>simp at hd hd';subst hd;subst hd';exact .refl _
 | 2=>simp at hd hd';subst hd;subst hd';exact .refl _
 | 3=>simp at hd hd';subst hd;subst hd';exact .nil 1
 | 4=>simp at hd hd';subst hd;subst hd';exact .nil 1
 |i+5=>simp at hd
theorem SR {H:Hp}{n d:Int}{k:List UInt8}{N:D}{y y':D}(h:Fz H [] y y'):Fz H [] (.agg [i64 n,i64 d,AR k,N,y]) (.agg [i64 n,i64 d,AR k,N,y']):=by
 refine .agg rfl λi d d' hd hd'=>?_
 match i with
 | 0=>simp at hd hd';subst hd;subst hd';exact .refl _
 | 1=>simp at hd hd';subst hd;subst hd';exact .refl _
 | 2=>simp at hd hd';subst hd;subst hd';exact .refl _
 | 3=>simp at hd hd';subst hd;subst hd';exact .refl _
 | 4=>simp at hd hd';subst hd;subst hd';exact h
 |i+5=>simp at hd
def Gs (k:List UInt8)(ws:List (List UInt8)):Option (List (List UInt8)×List Int):=match FM k with
 |none=>none
 |some (a,b)=>if ws.length=a+b/\(ws.drop a).all B2=true then some (ws.take a,(ws.drop a).map λw=>((Cg w:Nat):Int))else none
def Gr (k:List UInt8)(ws:List (List UInt8)):Bs:=match Gs k ws with
 |none=>⟨0,0,[],[],[]⟩
 |some (n,m)=>⟨0,0,k,n,m⟩
theorem U4 (k:List UInt8)(ws:List (List UInt8))(nn:Bool)(hl:ws.length<=100000)(hw:∀w∈ws,w.length<=100000):Aa C0 38 [AR k,.sl nn 1 (ws.map AR)] (.tup [Bc false false (Gr k ws),Am (Gs k ws).isSome]):=by
 refine A0.walk w1 Sb rfl λF=>?_
 have dk:=Od none;have dp:AB (D.mp Fh (Fi (.prim (.pointer none)))):=⟨DA (n:=20) (by kernel_rfl)⟩
 have lk:=QJ (.prim (.pointer none)) k;have hn:(ws.map AR).length=ws.length:=Bi ..;unfold Gr Gs;cases hk:FM k with
 |none=>
  rw[hk]at lk;dsimp only at lk⊢;refine AT Ad kB dk AA AA AA AA AA ?_;refine DH rfl rfl ?_;refine KX (P0 (s:=sb k) (a:=9) (b:=81) (z:=.agg #[.int .i64 0,.int .i64 0,.nilFunc]) (by kernel_rfl) rfl rfl lk) ?_;dsimp only[DT];refine BG ?_;refine AT Ad kB AA AA AA AA AA AA ?_;exact⟨_,Dv E2 (.refl _),AB.out,rfl⟩
 |some p=>
  have ks:=Ih k;obtain⟨ka,kb⟩:=p;rw[hk]at lk ks;obtain⟨fn,lk⟩:=lk;obtain⟨k1,k2,k3⟩:=ks;dsimp only at lk k1 k2 k3⊢;have wk:IntKind.i64.wrap (((ka:Nat):Int)+((kb:Nat):Int))=((ka+kb:Nat):Int):=by rw[wI];omega
  by_cases h1:ws.length=ka+kb
  rotate_left
  ·have t1:(((ws.length:Nat):Int) != ((ka+kb:Nat):Int))=true:=by rw[bne_iff_ne];omega
   refine AT Ad kB dk AA AA AA AA AA ?_;refine DH rfl rfl ?_;refine KX (Nv (s:=sb k) (a:=9) (b:=81) (z:=.agg #[.int .i64 0,.int .i64 0,.nilFunc]) (by kernel_rfl) rfl rfl lk) ?_;dsimp only[DT];refine BG ?_;refine AT Ad (Cp hn wk t1) AA AA AA AA AA AA ?_;rw[AP (show ¬(ws.length=ka+kb/\(ws.drop ka).all B2=true)from λq=>h1 q.1)];exact⟨_,Dv E2 (.refl _),AB.out,rfl⟩
  have t1:(((ws.length:Nat):Int) != ((ka+kb:Nat):Int))=false:=by rw[h1];exact bne_self_eq_false _
  have hto:((ka:Nat):Int).toNat=ka:=IW _;obtain⟨nm,hnm⟩:∃nm,ws.take ka=nm:=⟨_,rfl⟩
  obtain⟨ms,hms⟩:∃ms,ws.drop ka=ms:=⟨_,rfl⟩
  have hnl:nm.length=ka:=by rw[<-hnm,Jb];omega
  have hml:ms.length=kb:=by rw[<-hms,LA];omega
  have e1:(ws.map AR).take ka=nm.map AR:=by rw[<-hnm,List.map_take]
  have e2:(ws.map AR).drop ka=ms.map AR:=by rw[<-hms,List.map_drop]
  have hmm:(ms.map AR).length=kb:=by rw[Bi,hml]
  rw[hnm,hms];obtain⟨x,nm',rfl⟩:∃x l,nm=x::l:=by
   cases nm with
   |nil=>simp at hnl;omega
   |cons x l=>exact⟨x,l,rfl⟩
  have cl:=UU x nm' nn (by rw[CP]at hnl;omega);refine AT Ad kB dk AA AA AA AA AA ?_;refine DH rfl rfl ?_;refine KX (Nv (s:=sb k) (a:=9) (b:=81) (z:=.agg #[.int .i64 0,.int .i64 0,.nilFunc]) (by kernel_rfl) rfl rfl lk) ?_;dsimp only[DT];refine BG ?_;have e3:(ms.map AR).take (ws.length-ka)=ms.map AR:=EJ (by rw[Bi];omega);refine AT Ad (Eu hn wk t1 hto Nat.sub_zero (@List.drop_zero D) (Ea e1 e2 e3 hmm)) cl AA AA AA AA AA ?_;refine AN.loop (α:=Nat×Nat×Nat) (λp=>⟨[(4,.optr 0 0 5 0 0),(5,Am false),(8,.optr 407 30 5 0 0),(42,.sl nn 1 (ms.map AR)),(43,i64 (kb:Nat)),(44,i64 (p.1:Nat))],
   Kv 1104 p.2.1 3 1 ((ms.take p.1).map JO)++[⟨407,30,25,5,[.agg [i64 0,i64 0,AR k,.sl false 1 (AR x::nm'.map AR),IH 1104 p.2.1 1 ((ms.take p.1).map JO)]]⟩,⟨0,0,25,5,[.agg [i64 0,i64 0,AR [],BC,BC]]⟩],p.2.2⟩) (λp=>kb-p.1)
   (λp=>p.1<=kb/\(ms.take p.1).all B2=true) (0,0,_) ⟨Cv _,rfl⟩ Ap ?_
  clear cl e1 e2 e3 hto hn t1 lk dk dp;rintro⟨i,g7,n1⟩ F ⟨h2,h3⟩;dsimp only at h2 h3⊢;obtain⟨TL,hTL⟩:∃TL,(ms.take i).map JO=TL:=⟨_,rfl⟩
  have hTl:TL.length=i:=by rw[<-hTL,Bi,Jb];omega
  rw[hTL];rcases Ar i kb with h4|h4
  ·obtain⟨w,hw1⟩:∃w,ms[i]?=some w:=⟨ms[i],Bu⟩
   have t2:decide (((i:Nat):Int)<((kb:Nat):Int))=true:=BB;have hx':=Is hw1;have hwl:w.length<=1000000:=Ax (hw w (List.mem_of_mem_drop (i:=ka) (by rw[hms];exact Bf hw1))) (by omega);have cI:=Ju w hwl;have wc:=wS (n:=i) (by omega);have hsn:(ms.take (i+1)).map JO=TL++[JO w]:=by rw[Fr,hw1,GM,hTL];rfl
   have hal:(ms.take (i+1)).all B2=B2 w:=by rw[Fr,hw1,K5,h3];simp
   cases hi:B2 w with
   |false=>
    rw[hi]at cI;have hbad:¬(ws.length=ka+kb/\ms.all B2=true):=λq=>by
     have:=CG.1 q.2 w (Bf hw1)
     rw[hi]at this;cases this
    rw[AP hbad];rcases TL with _|⟨z,TL⟩
    ·dsimp only[KC,KE]
     refine AT Ad t2 hx' cI AA AA AA AA ?_;exact⟨_,Dv E2 (.refl _),AB.out,rfl⟩
    ·dsimp only[Jz,J0]
     refine AT Ad t2 hx' cI AA AA AA AA ?_;exact⟨_,Dv E2 (.refl _),AB.out,rfl⟩
   |true=>
    rw[hi]at cI hal;rcases TL with _|⟨z,TL⟩
    ·dsimp only[KC,KE]
     refine AT Ad (Bn t2 wc) hx' cI AA AA AA AA ?_;exact⟨(i+1,_,_),⟨by dsimp only;omega,hal⟩,by dsimp only;omega,(by dsimp only;rw[hsn];exact Ap)⟩
    ·dsimp only[Jz,J0]
     have htk:List.take (TL.length+1) (z::TL)=z::TL:=by simp
     rw[CP]at hTl;refine AT Ad (Cp t2 wc htk) hx' cI AA AA AA AA ?_;exact⟨(i+1,_,_),⟨by dsimp only;omega,hal⟩,by dsimp only;omega,(by dsimp only;rw[hsn,U1];exact Ap)⟩
  ·have hi:i=kb:=by omega
   subst hi;have t2:decide (((i:Nat):Int)<((i:Nat):Int))=false:=Au;rw[NN]at h3 hTL;rw[AQ ⟨h1,h3⟩];have hmd:ms.map JO=(ms.map λw=>((Cg w:Nat):Int)).map BR:=by rw[List.map_map];rfl
   rcases TL with _|⟨z,TL⟩
   ·have hmn:ms=[]:=List.map_eq_nil_iff.1 hTL
    dsimp only[KC,KE];refine AT Ad t2 AA AA AA AA AA AA ?_;subst hmn;exact⟨_,Dv (SR (.nil 1)) (.refl _),AB.out,rfl⟩
   ·dsimp only[Jz,J0]
    refine AT Ad t2 AA AA AA AA AA AA ?_;refine⟨_,Dv (SR (Ix 1104 g7 3 1 (z::TL) _)) (.refl _),?_,?_⟩
    ·rw[<-hTL];exact AB.out
    ·unfold Bc;dsimp only;rw[<-hmd,<-hTL];rfl
end
theorem WY (l:List UInt8)(hl:l.length<=100000):Aa C0 41 [AR l] (i64 (Bb l:Nat)):=by
 refine A0.walk w1 d4 rfl λF=>?_
 have hsz:=Ch l;refine AT Ad kB AA AA AA AA AA AA ?_;refine AN.loop (α:=Nat×Nat) (λp=>⟨[(0,AR l),(2,i64 0),(3,i64 (Bb (l.take p.1):Nat)),(4,i64 (p.1:Nat))],[],p.2⟩) (λp=>l.length-p.1) (λp=>p.1<=l.length) (0,_) (Cv _) Ap ?_;rintro⟨i,n1⟩ F h1;dsimp only at h1⊢;rcases Ar i l.length with h2|h2
 ·obtain⟨b,hb⟩:∃b,l[i]?=some b:=⟨l[i],BK h2⟩
  have t1:decide (((i:Nat):Int)<((l.length:Nat):Int))=true:=BB;have hx:=Qz hb;have hbl:=So b;have hc:=HD (l.take i);have ht:=QW hb;have wc:=wS (n:=i) (by omega);have hi2:((i:Nat):Int)<((sb l).size:Int):=by rw[hsz];omega
  generalize Bb (l.take i)=q at*;obtain⟨q2,hq2⟩:∃q,Bb (l.take (i+1))=q:=⟨_,rfl⟩
  rw[hq2]at ht;have hst:=Q0 hc hbl;rw[<-ht]at hst;refine AT Ad (Gy hsz t1 kN hx wc hst) AA AA AA AA AA AA ?_;exact⟨(i+1,_),by dsimp only;omega,by dsimp only;omega,(by dsimp only;rw[hq2];exact Ap)⟩
 ·have hi:i=l.length:=by omega
  subst hi;have t1:decide (((l.length:Nat):Int)<((l.length:Nat):Int))=false:=Au;rw[EJ (Ah _)];generalize Bb l=q at*;refine AT Ad (Bn hsz t1) AA AA AA AA AA AA ?_;exact Ak rfl AB.out
def JB (o:Option (Nat×Nat)):D:=match o with
 |some p=>.tup [i64 (p.1:Nat),i64 (p.2:Nat)]
 |none=>.tup [i64 (-1),i64 0]
instance  (o:Option (Nat×Nat)):AB (JB o):=by unfold JB;split<;>exact Ao
theorem VH (k:List UInt8)(e0:¬k=[98,105,110])(e1:¬k=[97,114,114,105,118,101])(e2:¬k=[115,116,111,114,101])(e3:¬k=[109,111,118,101])(e4:¬k=[100,114,121])(e5:¬k=[115,104,105,112])(e6:¬k=[98,108,101,110,100])(e7:¬k=[108,111,97,100])(e8:¬k=[99,108,111,115,101])(e9:¬k=[105,115,115,117,101])(e10:¬k=[99,97,110,99,101,108]):Aa C0 25 [AR k] (.tup [i64 (-1),i64 0]):=by
 refine A0.walk w1 SL rfl λF=>?_
 have q0:BD (sb k) (sb [98,105,110])=false:=by rw[CV];exact CH e0
 have q1:BD (sb k) (sb [97,114,114,105,118,101])=false:=by rw[CV];exact CH e1
 have q2:BD (sb k) (sb [115,116,111,114,101])=false:=by rw[CV];exact CH e2
 have q3:BD (sb k) (sb [109,111,118,101])=false:=by rw[CV];exact CH e3
 have q4:BD (sb k) (sb [100,114,121])=false:=by rw[CV];exact CH e4
 have q5:BD (sb k) (sb [115,104,105,112])=false:=by rw[CV];exact CH e5
 have q6:BD (sb k) (sb [98,108,101,110,100])=false:=by rw[CV];exact CH e6
 have q7:BD (sb k) (sb [108,111,97,100])=false:=by rw[CV];exact CH e7
 have q8:BD (sb k) (sb [99,108,111,115,101])=false:=by rw[CV];exact CH e8
 have q9:BD (sb k) (sb [105,115,115,117,101])=false:=by rw[CV];exact CH e9
 have q10:BD (sb k) (sb [99,97,110,99,101,108])=false:=by rw[CV];exact CH e10
 refine AT Ad (Eu q0 q1 q2 q3 q4 q5 (FV q6 q7 q8 q9 q10)) AA AA AA AA AA AA ?_;exact Ak rfl AB.out
theorem Wm (k:List UInt8):Aa C0 25 [AR k] (JB (FM k)):=by
 refine LK (P:=λk o=>Aa C0 25 [AR k] (JB o)) k (FW FN 100 10) (FW FN 100 10) (FW FN 100 10) (FW FN 100 10) (FW FN 100 10) (FW FN 100 10) (FW FN 100 10) (FW FN 100 10) (FW FN 100 10) (FW FN 100 10) (FW FN 100 10) ?_;intro e0 e1 e2 e3 e4 e5 e6 e7 e8 e9 e10;exact VH k e0 e1 e2 e3 e4 e5 e6 e7 e8 e9 e10
set_option maxHeartbeats 2000000
theorem XP (a b:List UInt8):(⟨a.toArray⟩:ByteArray)++⟨b.toArray⟩=⟨(a++b).toArray⟩:=by
 apply ByteArray.ext;simp[ByteArray.data_append]
theorem WK (l:List UInt8):(⟨l.toArray⟩:ByteArray).size=l.length:=by simp[ByteArray.size]
def Md (least:Nat)(l:List UInt8):List UInt8:=List.replicate (least-l.length) 48++l
def Gh (least m:Nat)(s:List UInt8):List UInt8:=Md least (if m=0 then s else Lib.decDigits m++s)
theorem T7 (least m:Nat)(s:List UInt8)(h:0<m\/s.length<least):Gh least (m/10) (UInt8.ofNat (48+m%10)::s)=Gh least m s:=by
 unfold Gh
 by_cases h0:m=0
 ·subst h0
  have hl:s.length<least:=h.resolve_left (by omega);rw[C9,AQ rfl];unfold Md;obtain⟨k,hk⟩:∃k,least-s.length=k+1:=⟨least-s.length-1,by omega⟩
  rw[hk,show least-(UInt8.ofNat (48+0%10)::s).length=k from by simp;omega,List.replicate_succ'];simp
 ·rw[AP h0]
  by_cases h1:m<10
  ·rw[C9]
   have:Lib.decDigits m=[UInt8.ofNat (48+m)]:=by unfold Lib.decDigits;rw[dif_pos h1]
   rw[this,show m%10=m from by omega];rfl
  ·rw[Ba]
   have:Lib.decDigits m=Lib.decDigits (m/10)++[UInt8.ofNat (48+m%10)]:=by rw[Lib.decDigits];rw[dif_neg h1]
   rw[this,C6];rfl
theorem VY (k:Nat)(hk:k<10):(⟨#[48,49,50,51,52,53,54,55,56,57]⟩:ByteArray).extract k (k+1)=⟨([UInt8.ofNat (48+k)]:List UInt8).toArray⟩:=by
 match k,hk with
 | 0,_=>rfl
 | 1,_=>rfl
 | 2,_=>rfl
 | 3,_=>rfl
 | 4,_=>rfl
 | 5,_=>rfl
 | 6,_=>rfl
 | 7,_=>rfl
 | 8,_=>rfl
 | 9,_=>rfl
theorem UW (a least:Nat)(ha:a+least<=9223372036854775807):Aa C0 196 [i64 a,i64 least] (str ⟨(Gh least a []).toArray⟩):=by
 refine A0.walk w1 Y4 rfl λF=>?_
 refine fR 0 ?_;refine fR 100 ?_;refine AN.seq ?_;refine AN.block ?_;refine AN.loop (α:=Nat×List UInt8×Nat) (λp=>⟨[(0,i64 p.1),(1,i64 least),(5,str ⟨p.2.1.toArray⟩)],[],p.2.2⟩) (λp=>p.1+(least-p.2.1.length))
  (λp=>Gh least p.1 p.2.1=Gh least a []/\p.1+p.2.1.length<=a+least) (a,[],_) ⟨rfl,by simp⟩ Ap ?_
 rintro⟨m,s,n⟩ F ⟨h1,h2⟩;dsimp only at h1 h2⊢;have hsz:=WK s;refine AN.seq ?_;refine Ml ⟨[(0,i64 m),(1,i64 least),(5,str ⟨s.toArray⟩),(13,Am (decide ((m:Int)>0)||decide ((s.length:Int)<least)))],[],n+30⟩ (C8 200 ?_) ?_
 ·repeat'(first|(refine DO (by exact Bv) ?_;refine BG ?_)|((refine IN (λhb=>?_) (λhb=>?_))<;>(try simp only[EZ,IV]at hb)<;>(try simp only[hb])<;>(refine BG ?_)))
  all_goals exact Ap
 refine Cq ?_
 (refine IN (λhc=>?_) (λhc=>?_))<;>(try simp only[EZ,IV]at hc)<;>(try simp only[hc])
 ·have hc:0<m\/s.length<least:=by
   simp at hc;omega
  refine FG ?_;refine AN.block ?_;refine AN.seq ?_;have hm:(m:Int).tmod 10=((m%10:Nat):Int):=rfl;have e2:IntKind.i64.wrap (((m%10:Nat):Int)+1)=((m%10+1:Nat):Int):=wI;have hd:=VY (m%10) (by omega);have hs1:(⟨([UInt8.ofNat (48+m%10)]:List UInt8).toArray⟩:ByteArray).size=1:=rfl;have hlen:s.length+1<=9223372036854775807:=by omega
  have hs10:(⟨#[48,49,50,51,52,53,54,55,56,57]⟩:ByteArray).size=10:=rfl;refine C8 300 ?_;refine gQ (Ea hm e2 kN hd) ?_;refine fI 400 ?_;have hm4:(m:Int).tdiv 10=((m/10:Nat):Int):=rfl;have hm5:m/10<=9223372036854775807:=by omega
  rw[hm4,wN hm5,XP,Ft,GN];refine⟨(m/10,UInt8.ofNat (48+m%10)::s,_),⟨(T7 least m s hc).trans h1,?_⟩,?_,Ap⟩
  ·simp only[CP];omega
  ·simp only[CP];omega
 ·have hc:m=0/\least<=s.length:=by
   simp at hc;omega
  obtain⟨rfl,hl⟩:=hc;refine Hc ?_;refine fR 500 ?_;refine Ev ?_;refine Ak ?_ AB.out;rw[<-h1];unfold Gh Md;rw[AQ rfl,Nat.sub_eq_zero_of_le hl];rfl
theorem WT (a:Nat):Gh 1 a []=Lib.decDigits a:=by
 unfold Gh Md
 by_cases h:a=0
 ·subst h
  have:Lib.decDigits 0=[48]:=by unfold Lib.decDigits;rw[dif_pos (by decide)];rfl
  rw[AQ rfl,this];rfl
 ·rw[AP h,Ds]
  have:(Lib.decDigits a).length≠0:=by
   unfold Lib.decDigits;split<;>simp
  rw[show 1-(Lib.decDigits a).length=0 from by omega];rfl
theorem OF {H Hf:Hp}{K g T sz n:Nat}{l:List D}(h:Hp.get H K=some ⟨K,g,T,sz,l⟩)(hf:Hp.get Hf K=none)(hn:n=l.length):Fz H Hf (.osl K g sz 0 n) (.sl false sz l):=by
 subst hn;refine .osl (e:=⟨K,g,T,sz,l⟩) h hf rfl rfl (by simp) (by simp) (λj d d' h1 h2=>?_) λj d d' q c c' h1 h2 h3 h4=>?_
 ·rw[B6]at h1;rw[h1]at h2;cases h2;rfl
 ·rw[B6]at h1;rw[h1]at h2;cases h2;rw[h3]at h4;cases h4;exact Fz.refl _
theorem cU (n:Nat)(h0:n≠0):Aa C0 261 [.sl false 1 [i64 n]] (.sl false 1 [i64 n]):=by
 refine A0.walk w1 OX rfl λF=>?_
 have t1:(((n:Nat):Int)==0)=false:=Bx.2 (by omega);refine AT Ad kB AA AA AA AA AA AA ?_;refine AN.loop (α:=Nat) (λp=>⟨[(0,.sl false 1 [i64 n])],[],p⟩) (λ_=>0) (λ_=>True) _ AA Ap ?_;rintro n1 F -;have e1:decide (((1:Nat):Int)>0)=true:=rfl;have e2:IntKind.i64.wrap (((1:Nat):Int)-1)=0:=rfl;have hx:[i64 (n:Nat)][0]?=some (i64 n):=rfl;refine AT Ad (Cp e1 e2 t1) hx AA AA AA AA AA ?_;exact Ak rfl AB.out
theorem Vv (n:Nat)(h0:n≠0):Aa C0 197 [Am false,.sl false 1 [i64 n]] (.agg [Am false,.sl false 1 [i64 n]]):=by
 refine A0.walk w1 OW rfl λF=>?_
 have cT:=cU n h0;refine AT Ad kB cT AA AA AA AA AA ?_;exact Ak rfl AB.out
theorem cQ (n:Nat)(h0:n<=1000000000):Aa C0 128 [.agg [Am false,.sl false 1 [i64 n]]] (str ⟨(Lib.decDigits n).toArray⟩):=by
 refine A0.walk w1 Rq rfl λF=>?_
 have cD:=UW n 1 (by omega);rw[WT]at cD;have e1:(((1:Nat):Int)==0)=false:=rfl;have e2:IntKind.i64.wrap (((1:Nat):Int)-1)=0:=rfl;have e3:IntKind.i64.wrap (((1:Nat):Int)-2) = -1:=rfl;have hx:[i64 (n:Nat)][0]?=some (i64 n):=rfl;refine AT Ad (Cp e1 e2 e3) hx cD AA AA AA AA ?_;refine AN.loop (α:=Nat) (λp=>⟨[(1,.optr 0 0 2 0 0),(3,str ⟨(Lib.decDigits n).toArray⟩),(4,i64 (-1))],[⟨0,0,194,2,[.agg [Am false,.sl false 1 [i64 n]]]⟩],p⟩) (λ_=>0) (λ_=>True) _ AA Ap ?_;rintro n1 F -;have t1:decide ((-1:Int)>=0)=false:=rfl;refine AT Ad t1 AA AA AA AA AA AA ?_;exact Ak rfl AB.out
theorem Wa (n:Nat)(h0:n≠0)(h1:n<1000000000):Aa C0 129 [i64 n] (.agg [Am false,.sl false 1 [i64 n]]):=by
 refine A0.walk w1 OV rfl λF=>?_
 have cS:=Vv n h0;have t1:decide (((n:Nat):Int)<0)=false:=Au;refine AT Ad t1 AA AA AA AA AA AA ?_;refine AN.loop (α:=Bool×Nat×Nat) (λp=>⟨[(0,i64 (cond p.1 0 n:Nat)),(2,.optr 0 0 2 0 0),(3,IH 703 p.2.1 1 (cond p.1 [i64 n] [])),(4,Am false)],Kv 703 p.2.1 3 1 (cond p.1 [i64 n] [])++[⟨0,0,194,2,[.agg [.prim (.bool false),.prim Bp]]⟩],p.2.2⟩) (λp=>cond p.1 0 1) (λ_=>True) (false,0,5) AA (by dsimp only[cond,KC,KE,List.nil_append];exact Ap) ?_;rintro⟨q,g7,n1⟩ F -;cases q
 ·dsimp only[cond,KC,KE,List.nil_append]
  have e1:(((n:Nat):Int) != 0)=true:=by rw[bne_iff_ne];omega
  have e2:((n:Nat):Int).tmod 1000000000=((n:Nat):Int):=by
   have:n%1000000000=n:=Mr h1
   exact(Int.ofNat_tmod n 1000000000).symm.trans (by rw[this])
  have e3:((n:Nat):Int).tdiv 1000000000=0:=by
   have:n/1000000000=0:=Nat.div_eq_of_lt h1
   exact(Int.ofNat_tdiv n 1000000000).symm.trans (by rw[this];rfl)
  refine AT Ad (Ea e1 e2 t1 e3) AA AA AA AA AA AA ?_;exact⟨(true,_,_),trivial,Nat.zero_lt_one,(by dsimp only[cond,Jz,J0,List.cons_append,List.nil_append];exact Ap)⟩
 ·dsimp only[cond,Jz,J0,List.cons_append,List.nil_append]
  refine AN.weak ⟨[(0,i64 0),(2,.optr 0 0 2 0 0),(3,.sl false 1 [i64 n]),(4,Am false)],[⟨0,0,194,2,[.agg [.prim (.bool false),.prim Bp]]⟩],n1⟩ ⟨.drop (.keep .nil),⟨.refl _,.refl _,OF (T:=3) rfl rfl rfl,.refl _,trivial⟩,Ah _⟩ ?_;have e1:((0:Int) != 0)=false:=rfl;refine AT Ad e1 cS AA AA AA AA AA ?_;exact Ak rfl AB.out
theorem VB (n:Nat)(h0:n≠0)(h1:n<1000000000):Aa C0 76 [i64 n] (str ⟨(Lib.decDigits n).toArray⟩):=by
 refine A0.walk w1 Si rfl λF=>?_
 have c1:=Wa n h0 h1;have c2:=cQ n (by omega);refine AT Ad kB c1 c2 AA AA AA AA ?_;exact Ak rfl AB.out
theorem cR:Aa C0 261 [BC] BC:=by
 refine A0.walk w1 OX rfl λF=>?_
 refine AT Ad kB AA AA AA AA AA AA ?_;refine AN.loop (α:=Nat) (λp=>⟨[(0,BC)],[],p⟩) (λ_=>0) (λ_=>True) _ AA Ap ?_;rintro n1 F -;have e1:decide ((0:Int)>0)=false:=rfl;have e2:decide (((0:Nat):Int)>0)=false:=rfl;refine AT Ad (Bn e1 e2) AA AA AA AA AA AA ?_;exact Ak rfl AB.out
theorem Vu:Aa C0 197 [Am false,BC] (.agg [Am false,BC]):=by
 refine A0.walk w1 OW rfl λF=>?_
 have cT:=cR;refine AT Ad kB cT AA AA AA AA AA ?_;exact Ak rfl AB.out
theorem cO:Aa C0 128 [.agg [Am false,BC]] (AR [48]):=by
 refine A0.walk w1 Rq rfl λF=>?_
 have e1:((0:Int)==0)=true:=rfl;have e2:(((0:Nat):Int)==0)=true:=rfl;refine AT Ad (Bn e1 e2) AA AA AA AA AA AA ?_;exact Ak rfl AB.out
theorem WZ:Aa C0 129 [i64 0] (.agg [Am false,BC]):=by
 refine A0.walk w1 OV rfl λF=>?_
 have cS:=Vu;have t1:decide ((0:Int)<0)=false:=rfl;refine AT Ad t1 AA AA AA AA AA AA ?_;refine AN.loop (α:=Nat) (λp=>⟨[(0,i64 0),(2,.optr 0 0 2 0 0),(3,BC),(4,Am false)],[⟨0,0,194,2,[.agg [.prim (.bool false),.prim Bp]]⟩],p⟩) (λ_=>0) (λ_=>True) _ AA Ap ?_;rintro n1 F -;have e1:((0:Int) != 0)=false:=rfl;refine AT Ad e1 cS AA AA AA AA AA ?_;exact Ak rfl AB.out
theorem VA:Aa C0 76 [i64 0] (AR [48]):=by
 refine A0.walk w1 Si rfl λF=>?_
 have c1:=WZ;have c2:=cO;refine AT Ad kB c1 c2 AA AA AA AA ?_;exact Ak rfl AB.out
theorem LT (n:Nat)(h1:n<1000000000):Aa C0 40 [i64 n] (AR (Lib.itoa (n:Int))):=by
 have cF:Aa C0 76 [i64 n] (AR (Lib.itoa (n:Int))):=by
  have e:Lib.itoa ((n:Nat):Int)=Lib.decDigits n:=by
   unfold Lib.itoa;rw[Ba,IW]
  rw[e]
  by_cases h0:n=0
  ·subst h0
   have:Lib.decDigits 0=[48]:=by unfold Lib.decDigits;rw[dif_pos (by decide)];rfl
   rw[this];exact VA
  ·exact VB n h0 h1
 refine A0.walk w1 d3 rfl λF=>?_
 refine AT Ad kB cF AA AA AA AA AA ?_;exact Ak rfl AB.out
end Go.Ide
