/- The layer of own lemmas and contracts, part 13. -/
import Derived.Test.YtmpdcldckjeklacGreatDoorAE12
import Derived.Test.YtmpdcldckjeklacGreatDoorAE10
set_option linter.unusedVariables false
set_option linter.unusedSimpArgs false
namespace Go.Ide
abbrev MG:Dr:=[(1,[0,1,2,3,4,5,6,7,8,9,10],[11,12])]
open Go.Proofs Go.RowKit
set_option maxRecDepth 20000
set_option maxHeartbeats 4000000
theorem Ss (e:BV):Lib.join (CV e) [32]=Be e:=rfl
theorem Ev.itoaS {e:BV}(v:Ev e):Aa C0 95 [i64 e.num] (AH (Lib.itoa e.num))/\Aa C0 95 [i64 e.day] (AH (Lib.itoa e.day)):=by
 have h1:=v.hn;have h2:=v.hd;have h3:=v.hn1;have h4:=v.hd1;exact⟨Kp _ (by omega) (by omega),Kp _ (by omega) (by omega)⟩
theorem GG (a b:List UInt8):sb a++sb b=sb (a++b):=by
 apply ByteArray.ext;simp[sb,ByteArray.data_append]
theorem XX (e:BV)(v:Ev e)(a b:Bool):Aa C0 59 [As a b e] (AH (Bn e)):=by
 refine Ax.walk w1 eJ rfl λF=>?_
 obtain⟨c1,c2⟩:=v.itoaS;have hlen:=v.len;have hpl:(Be e).length<=400:=by
  have:(Bn e).length=(Be e).length+(1+(Lib.itoa (Bs (Be e):Nat)).length):=by unfold Bn;simp;omega
  omega
 have cS:=SV (Be e) (by omega);have ks:=JB e.kind;rw[v.hk]at ks;obtain⟨k1,k2,k3⟩:=ks;have hna:=v.ha;obtain⟨y,ys,hys⟩:∃y ys,e.names=y::ys:=by
  cases hn:e.names with
  |nil=>rw[hn]at hna;simp at hna;omega
  |cons y ys=>exact⟨y,ys,rfl⟩
 have hyl:ys.length+1=v.a:=by rw[hys]at hna;exact hna
 have hmb:=v.hb;dsimp only at k1 k2 k3;have hp:AC (ys.map AH):=An;have hpm:AC (e.masses.map BQ):=An;have hml:(e.masses.map BQ).length=e.masses.length:=BP ..;have hnl:(ys.map AH).length=ys.length:=BP ..;unfold As;rw[hys,BY];refine sR 0 ?_;refine AO.seq ?_;refine iC w1 100 [0,1,2,3,4,5,6,7,8,9,10] [11,12] [0,1,2,3,4,5,6,7] [9,10] 8 false (by kernel_rfl) rfl rfl rfl rfl rfl rfl rfl ?_;refine F5 ?_;refine CX.same _ c1 An ?_;refine F5 ?_;refine CX.same _ c2 An ?_;refine F5 ?_;refine⟨by exact Bz,_,⟨rfl,by exact Bz,rfl,by decide,by decide⟩,?_⟩;refine F5 ?_;refine AJ MG hml AA AA AA AA AA AA ?_;obtain⟨W0,hW0⟩:∃W0,Lib.itoa e.num::Lib.itoa e.day::e.kind::y::ys=W0:=⟨_,rfl⟩
 have hwl:W0.length=v.a+3:=by rw[<-hW0];simp;omega
 refine AO.loop (α:=Nat×Bool×Nat×Nat) (λp=>⟨[(1,.optr 0 0 5 0 0),(2,AH []),(3,.osl (cond p.2.1 504 111) p.2.2.1 1 0 ((W0++(e.masses.take p.1).map Lib.itoa).map AH).length),(20,.sl b 1 (e.masses.map BQ)),(21,i64 (e.masses.length:Nat)),(22,i64 (p.1:Nat))],
  [⟨cond p.2.1 504 111,p.2.2.1,9,1,(W0++(e.masses.take p.1).map Lib.itoa).map AH⟩],p.2.2.2⟩) (λp=>e.masses.length-p.1) (λp=>p.1<=e.masses.length) (0,false,15,21) (Bu _) ?_ ?_
 ·dsimp only[cond]
  rw[Jz,List.map_nil,Dd,<-hW0];dsimp only[List.map_cons,List.length_cons,List.take];rw[show 3+((ys.map AH).length+1)=(ys.map AH).length+1+1+1+1 by omega];exact Al
 rintro⟨i,q,g7,n1⟩ F h1;dsimp only at h1⊢;have hWl:((W0++(e.masses.take i).map Lib.itoa).map AH).length=v.a+3+i:=by simp;omega
 rcases Aq i e.masses.length with h2|h2
 ·obtain⟨x,hx⟩:∃x,e.masses[i]?=some x:=⟨e.masses[i],BI h2⟩
  have hx':(e.masses.map BQ)[i]?=some (i64 x):=by rw[Bf,hx];rfl
  have hsn:(W0++(e.masses.take (i+1)).map Lib.itoa).map AH=(W0++(e.masses.take i).map Lib.itoa).map AH++[AH (Lib.itoa x)]:=by
   rw[EG,hx];simp
  obtain⟨WL,hWL⟩:∃WL,(W0++(e.masses.take i).map Lib.itoa).map AH=WL:=⟨_,rfl⟩
  rw[hWL]at hWl hsn⊢;have hxb:=v.hM x (Bh hx);have cI:=Kp x (by omega) (by omega);have t1:decide (((i:Nat):Int)<((e.masses.length:Nat):Int))=true:=Av;have wc:=wS (n:=i) (by omega);have htk:WL.take WL.length=WL:=C3 (Ad _);have hle:(WL++[AH (Lib.itoa x)]).length=WL.length+1:=by simp
  have hi2:((i:Nat):Int)<(((e.masses.map BQ).length:Nat):Int):=by rw[hml];omega
  cases q
  ·dsimp only[cond]
   refine AJ MG (CK t1 wc htk) hx' cI AA AA AA AA ?_;exact⟨(i+1,true,_,_),by dsimp only;omega,by dsimp only;omega,(by dsimp only[cond];rw[hsn,hle];exact Al)⟩
  ·dsimp only[cond]
   refine AJ MG (CK t1 wc htk) hx' cI AA AA AA AA ?_;exact⟨(i+1,true,_,_),by dsimp only;omega,by dsimp only;omega,(by dsimp only[cond];rw[hsn,hle];exact Al)⟩
 ·have hi:i=e.masses.length:=by omega
  subst hi;have t1:decide (((e.masses.length:Nat):Int)<((e.masses.length:Nat):Int))=false:=Ap;have hWE:W0++(e.masses.take e.masses.length).map Lib.itoa=CV e:=by
   rw[C3 (Ad _),<-hW0];unfold CV;rw[hys];rfl
  rw[hWE]at hWl⊢;have hel:((CV e).map AH).length=(CV e).length:=BP ..;have cJ:=Xi (CV e) [32] false (by unfold CV;simp) (by rw[<-hel,hWl];omega) (by show(Be e).length<=_;omega);refine AO.weak ⟨[(2,AH []),(3,.sl false 1 ((CV e).map AH)),(21,i64 (e.masses.length:Nat)),(22,i64 (e.masses.length:Nat))],[],n1⟩ ⟨.drop .nil,⟨.refl _,Fk _ g7 _ 1 _ [],.refl _,.refl _,trivial⟩,Ad _⟩ ?_;rw[Ss]at cJ;have hpe:AC ((CV e).map AH):=An;have hsz1:(sb (Be e)).size<=400:=by rw[Bl];omega
  have hs32:(⟨#[32]⟩:ByteArray).size=1:=rfl;have he1:sb (Be e)++(⟨#[32]⟩:ByteArray)=sb (Be e++[32]):=GG _ [32];have hs2:(sb (Be e++[32])).size<=401:=by rw[Bl,B9];simp;omega
  have hs3:(sb (Lib.itoa (Bs (Be e):Nat))).size<=9:=by
   rw[Bl];exact(IS (n:=Bs (Be e)) (by have:=Ib (Be e);omega)).2.2.1
  have he2:sb (Be e++[32])++sb (Lib.itoa (Bs (Be e):Nat))=sb (Bn e):=by
   rw[GG,Cr];rfl
  refine AJ MG (CK t1 he1 he2) cJ cS AA AA AA AA ?_;exact Ac rfl AB.out
def PW (e:BV):List UInt8:=if Cq e=0 then Bn e else[]
theorem VY (e:BV)(a b:Bool)(h1:e.names.length<=100000)(h2:e.masses.length<=100000):Aa C0 28 [As a b e] (.tup [AH (PW e),i64 (Cq e:Nat)]):=by
 refine Ax.walk w1 er rfl λF=>?_
 have cC:=Qm a b e h1 h2;unfold PW
 by_cases h:Cq e=0
 ·obtain⟨v⟩:=PD h
  have cT:=XX e v a b;rw[h]at cC⊢;have t1:((((0:Nat):Int)) != 0)=false:=rfl;rw[AM rfl];unfold As at cC cT⊢;have hpn:AC (e.names.map AH):=An;have hpm:AC (e.masses.map BQ):=An;refine AJ AU t1 cC cT AA AA AA AA ?_;exact Ac rfl AB.out
 ·have t1:(((Cq e:Nat):Int) != 0)=true:=by rw[bne_iff_ne];omega
  rw[AN h];generalize Cq e=c at*;unfold As at cC⊢;have hpn:AC (e.names.map AH):=An;have hpm:AC (e.masses.map BQ):=An;refine AJ AU t1 cC AA AA AA AA AA ?_;exact Ac rfl AB.out
open Go.Proofs Go.RowKit
set_option maxRecDepth 20000
set_option maxHeartbeats 2000000
theorem YN (a b:List UInt8):(⟨a.toArray⟩:ByteArray)++⟨b.toArray⟩=⟨(a++b).toArray⟩:=by
 apply ByteArray.ext;simp[ByteArray.data_append]
theorem XF (l:List UInt8):(⟨l.toArray⟩:ByteArray).size=l.length:=by simp[ByteArray.size]
def M5 (least:Nat)(l:List UInt8):List UInt8:=List.replicate (least-l.length) 48++l
def G5 (least m:Nat)(s:List UInt8):List UInt8:=M5 least (if m=0 then s else Lib.decDigits m++s)
theorem Uo (least m:Nat)(s:List UInt8)(h:0<m\/s.length<least):G5 least (m/10) (UInt8.ofNat (48+m%10)::s)=G5 least m s:=by
 unfold G5
 by_cases h0:m=0
 ·subst h0
  have hl:s.length<least:=h.resolve_left (by omega);rw[DK,AM rfl];unfold M5;obtain⟨k,hk⟩:∃k,least-s.length=k+1:=⟨least-s.length-1,by omega⟩
  rw[hk,show least-(UInt8.ofNat (48+0%10)::s).length=k from by simp;omega,List.replicate_succ'];simp
 ·rw[AN h0]
  by_cases h1:m<10
  ·rw[DK]
   have:Lib.decDigits m=[UInt8.ofNat (48+m)]:=by unfold Lib.decDigits;rw[dif_pos h1]
   rw[this,show m%10=m from by omega];rfl
  ·rw[BU]
   have:Lib.decDigits m=Lib.decDigits (m/10)++[UInt8.ofNat (48+m%10)]:=by rw[Lib.decDigits];rw[dif_neg h1]
   rw[this,Cr];rfl
theorem WN (k:Nat)(hk:k<10):(⟨#[48,49,50,51,52,53,54,55,56,57]⟩:ByteArray).extract k (k+1)=⟨([UInt8.ofNat (48+k)]:List UInt8).toArray⟩:=by
 match k,hk with
 | 0,_=>rfl
 | 1,_=>rfl
 | 2,_=>rfl
 | 3,_=>rfl
 | 4,_=>rfl
 | 5,_=>rfl
 | 6,_=>rfl
 | 7,_=>rfl
 | 8,_=>rfl
 | 9,_=>rfl
theorem VB (a least:Nat)(ha:a+least<=9223372036854775807):Aa C0 240 [i64 a,i64 least] (str ⟨(G5 least a []).toArray⟩):=by
 refine Ax.walk w1 Ze rfl λF=>?_
 refine fR 0 ?_;refine fR 100 ?_;refine AO.seq ?_;refine AO.block ?_;refine AO.loop (α:=Nat×List UInt8×Nat) (λp=>⟨[(0,i64 p.1),(1,i64 least),(5,str ⟨p.2.1.toArray⟩)],[],p.2.2⟩) (λp=>p.1+(least-p.2.1.length))
  (λp=>G5 least p.1 p.2.1=G5 least a []/\p.1+p.2.1.length<=a+least) (a,[],_) ⟨rfl,by simp⟩ Al ?_
 rintro⟨m,s,n⟩ F ⟨h1,h2⟩;dsimp only at h1 h2⊢;have hsz:=XF s;refine AO.seq ?_;refine NE ⟨[(0,i64 m),(1,i64 least),(5,str ⟨s.toArray⟩),(13,Ai (decide ((m:Int)>0)||decide ((s.length:Int)<least)))],[],n+30⟩ (DJ 200 ?_) ?_
 ·repeat'(first|(refine DG (by exact Bz) ?_;refine BC ?_)|((refine Iv (λhb=>?_) (λhb=>?_))<;>(try simp only[Ec,I0]at hb)<;>(try simp only[hb])<;>(refine BC ?_)))
  all_goals exact Al
 refine Cy ?_
 (refine Iv (λhc=>?_) (λhc=>?_))<;>(try simp only[Ec,I0]at hc)<;>(try simp only[hc])
 ·have hc:0<m\/s.length<least:=by
   simp at hc;omega
  refine Fh ?_;refine AO.block ?_;refine AO.seq ?_;have hm:(m:Int).tmod 10=((m%10:Nat):Int):=rfl;have e2:IntKind.i64.wrap (((m%10:Nat):Int)+1)=((m%10+1:Nat):Int):=wI;have hd:=WN (m%10) (by omega);have hs1:(⟨([UInt8.ofNat (48+m%10)]:List UInt8).toArray⟩:ByteArray).size=1:=rfl;have hlen:s.length+1<=9223372036854775807:=by omega
  have hs10:(⟨#[48,49,50,51,52,53,54,55,56,57]⟩:ByteArray).size=10:=rfl;refine DJ 300 ?_;refine iv (Cs hm e2 kN hd) ?_;refine fI 400 ?_;have hm4:(m:Int).tdiv 10=((m/10:Nat):Int):=rfl;have hm5:m/10<=9223372036854775807:=by omega
  rw[hm4,wN hm5,YN,Fv,GP];refine⟨(m/10,UInt8.ofNat (48+m%10)::s,_),⟨(Uo least m s hc).trans h1,?_⟩,?_,Al⟩
  ·simp only[CD];omega
  ·simp only[CD];omega
 ·have hc:m=0/\least<=s.length:=by
   simp at hc;omega
  obtain⟨rfl,hl⟩:=hc;refine IA ?_;refine fR 500 ?_;refine FH ?_;refine Ac ?_ AB.out;rw[<-h1];unfold G5 M5;rw[AM rfl,Nat.sub_eq_zero_of_le hl];rfl
theorem XM (a:Nat):G5 1 a []=Lib.decDigits a:=by
 unfold G5 M5
 by_cases h:a=0
 ·subst h
  have:Lib.decDigits 0=[48]:=by unfold Lib.decDigits;rw[dif_pos (by decide)];rfl
  rw[AM rfl,this];rfl
 ·rw[AN h,Dd]
  have:(Lib.decDigits a).length≠0:=by
   unfold Lib.decDigits;split<;>simp
  rw[show 1-(Lib.decDigits a).length=0 from by omega];rfl
theorem IW {H Hf:Hp}{K g T sz n:Nat}{l:List D}(h:Hp.get H K=some ⟨K,g,T,sz,l⟩)(hf:Hp.get Hf K=none)(hn:n=l.length):Fz H Hf (.osl K g sz 0 n) (.sl false sz l):=by
 subst hn;refine .osl (e:=⟨K,g,T,sz,l⟩) h hf rfl rfl (by simp) (by simp) (λj d d' h1 h2=>?_) λj d d' q c c' h1 h2 h3 h4=>?_
 ·rw[B5]at h1;rw[h1]at h2;cases h2;rfl
 ·rw[B5]at h1;rw[h1]at h2;cases h2;rw[h3]at h4;cases h4;exact Fz.refl _
theorem de (n:Nat)(h0:n≠0):Aa C0 291 [.sl false 1 [i64 n]] (.sl false 1 [i64 n]):=by
 refine Ax.walk w1 O0 rfl λF=>?_
 have t1:(((n:Nat):Int)==0)=false:=Bi.2 (by omega);refine AJ AU kB AA AA AA AA AA AA ?_;refine AO.loop (α:=Nat) (λp=>⟨[(0,.sl false 1 [i64 n])],[],p⟩) (λ_=>0) (λ_=>True) _ AA Al ?_;rintro n1 F -;have e1:decide (((1:Nat):Int)>0)=true:=rfl;have e2:IntKind.i64.wrap (((1:Nat):Int)-1)=0:=rfl;have hx:[i64 (n:Nat)][0]?=some (i64 n):=rfl;refine AJ AU (CK e1 e2 t1) hx AA AA AA AA AA ?_;exact Ac rfl AB.out
theorem Wm (n:Nat)(h0:n≠0):Aa C0 241 [Ai false,.sl false 1 [i64 n]] (.agg [Ai false,.sl false 1 [i64 n]]):=by
 refine Ax.walk w1 Oz rfl λF=>?_
 have cT:=de n h0;refine AJ AU kB cT AA AA AA AA AA ?_;exact Ac rfl AB.out
theorem db (n:Nat)(h0:n<=1000000000):Aa C0 165 [.agg [Ai false,.sl false 1 [i64 n]]] (str ⟨(Lib.decDigits n).toArray⟩):=by
 refine Ax.walk w1 Si rfl λF=>?_
 have cD:=VB n 1 (by omega);rw[XM]at cD;have e1:(((1:Nat):Int)==0)=false:=rfl;have e2:IntKind.i64.wrap (((1:Nat):Int)-1)=0:=rfl;have e3:IntKind.i64.wrap (((1:Nat):Int)-2) = -1:=rfl;have hx:[i64 (n:Nat)][0]?=some (i64 n):=rfl;refine AJ AU (CK e1 e2 e3) hx cD AA AA AA AA ?_;refine AO.loop (α:=Nat) (λp=>⟨[(1,.optr 0 0 2 0 0),(3,str ⟨(Lib.decDigits n).toArray⟩),(4,i64 (-1))],[⟨0,0,233,2,[.agg [Ai false,.sl false 1 [i64 n]]]⟩],p⟩) (λ_=>0) (λ_=>True) _ AA Al ?_;rintro n1 F -;have t1:decide ((-1:Int)>=0)=false:=rfl;refine AJ AU t1 AA AA AA AA AA AA ?_;exact Ac rfl AB.out
theorem XV (n:Nat)(h0:n≠0)(h1:n<1000000000):Aa C0 166 [i64 n] (.agg [Ai false,.sl false 1 [i64 n]]):=by
 refine Ax.walk w1 Oy rfl λF=>?_
 have cS:=Wm n h0;have t1:decide (((n:Nat):Int)<0)=false:=Ap;refine AJ AU t1 AA AA AA AA AA AA ?_;refine AO.loop (α:=Bool×Nat×Nat) (λp=>⟨[(0,i64 (cond p.1 0 n:Nat)),(2,.optr 0 0 2 0 0),(3,FU 703 p.2.1 1 (cond p.1 [i64 n] [])),(4,Ai false)],FV 703 p.2.1 3 1 (cond p.1 [i64 n] [])++[⟨0,0,233,2,[.agg [.prim (.bool false),.prim B0]]⟩],p.2.2⟩) (λp=>cond p.1 0 1) (λ_=>True) (false,0,5) AA (by dsimp only[cond,DS,DT,List.nil_append];exact Al) ?_;rintro⟨q,g7,n1⟩ F -;cases q
 ·dsimp only[cond,DS,DT,List.nil_append]
  have e1:(((n:Nat):Int) != 0)=true:=by rw[bne_iff_ne];omega
  have e2:((n:Nat):Int).tmod 1000000000=((n:Nat):Int):=by
   have:n%1000000000=n:=NM h1
   exact(Int.ofNat_tmod n 1000000000).symm.trans (by rw[this])
  have e3:((n:Nat):Int).tdiv 1000000000=0:=by
   have:n/1000000000=0:=Nat.div_eq_of_lt h1
   exact(Int.ofNat_tdiv n 1000000000).symm.trans (by rw[this];rfl)
  refine AJ AU (Cs e1 e2 t1 e3) AA AA AA AA AA AA ?_;exact⟨(true,_,_),trivial,Nat.zero_lt_one,(by dsimp only[cond,C4,C5,List.cons_append,List.nil_append];exact Al)⟩
 ·dsimp only[cond,C4,C5,List.cons_append,List.nil_append]
  refine AO.weak ⟨[(0,i64 0),(2,.optr 0 0 2 0 0),(3,.sl false 1 [i64 n]),(4,Ai false)],[⟨0,0,233,2,[.agg [.prim (.bool false),.prim B0]]⟩],n1⟩ ⟨.drop (.keep .nil),⟨.refl _,.refl _,IW (T:=3) rfl rfl rfl,.refl _,trivial⟩,Ad _⟩ ?_;have e1:((0:Int) != 0)=false:=rfl;refine AJ AU e1 cS AA AA AA AA AA ?_;exact Ac rfl AB.out
theorem Vx (n:Nat)(h0:n≠0)(h1:n<1000000000):Aa C0 109 [i64 n] (str ⟨(Lib.decDigits n).toArray⟩):=by
 refine Ax.walk w1 Sa rfl λF=>?_
 have c1:=XV n h0 h1;have c2:=db n (by omega);refine AJ AU kB c1 c2 AA AA AA AA ?_;exact Ac rfl AB.out
theorem dc:Aa C0 291 [BA] BA:=by
 refine Ax.walk w1 O0 rfl λF=>?_
 refine AJ AU kB AA AA AA AA AA AA ?_;refine AO.loop (α:=Nat) (λp=>⟨[(0,BA)],[],p⟩) (λ_=>0) (λ_=>True) _ AA Al ?_;rintro n1 F -;have e1:decide ((0:Int)>0)=false:=rfl;have e2:decide (((0:Nat):Int)>0)=false:=rfl;refine AJ AU (BJ e1 e2) AA AA AA AA AA AA ?_;exact Ac rfl AB.out
theorem XE:Aa C0 241 [Ai false,BA] (.agg [Ai false,BA]):=by
 refine Ax.walk w1 Oz rfl λF=>?_
 have cT:=dc;refine AJ AU kB cT AA AA AA AA AA ?_;exact Ac rfl AB.out
theorem dC:Aa C0 165 [.agg [Ai false,BA]] (AH [48]):=by
 refine Ax.walk w1 Si rfl λF=>?_
 have e1:((0:Int)==0)=true:=rfl;have e2:(((0:Nat):Int)==0)=true:=rfl;refine AJ AU (BJ e1 e2) AA AA AA AA AA AA ?_;exact Ac rfl AB.out
theorem XU:Aa C0 166 [i64 0] (.agg [Ai false,BA]):=by
 refine Ax.walk w1 Oy rfl λF=>?_
 have cS:=XE;have t1:decide ((0:Int)<0)=false:=rfl;refine AJ AU t1 AA AA AA AA AA AA ?_;refine AO.loop (α:=Nat) (λp=>⟨[(0,i64 0),(2,.optr 0 0 2 0 0),(3,BA),(4,Ai false)],[⟨0,0,233,2,[.agg [.prim (.bool false),.prim B0]]⟩],p⟩) (λ_=>0) (λ_=>True) _ AA Al ?_;rintro n1 F -;have e1:((0:Int) != 0)=false:=rfl;refine AJ AU e1 cS AA AA AA AA AA ?_;exact Ac rfl AB.out
theorem Vw:Aa C0 109 [i64 0] (AH [48]):=by
 refine Ax.walk w1 Sa rfl λF=>?_
 have c1:=XU;have c2:=dC;refine AJ AU kB c1 c2 AA AA AA AA ?_;exact Ac rfl AB.out
theorem Lw (n:Nat)(h1:n<1000000000):Aa C0 63 [i64 n] (AH (Lib.itoa (n:Int))):=by
 have cF:Aa C0 109 [i64 n] (AH (Lib.itoa (n:Int))):=by
  have e:Lib.itoa ((n:Nat):Int)=Lib.decDigits n:=by
   unfold Lib.itoa;rw[BU,H6]
  rw[e]
  by_cases h0:n=0
  ·subst h0
   have:Lib.decDigits 0=[48]:=by unfold Lib.decDigits;rw[dif_pos (by decide)];rfl
   rw[this];exact Vw
  ·exact Vx n h0 h1
 refine Ax.walk w1 eN rfl λF=>?_
 refine AJ AU kB cF AA AA AA AA AA ?_;exact Ac rfl AB.out
end Go.Ide
