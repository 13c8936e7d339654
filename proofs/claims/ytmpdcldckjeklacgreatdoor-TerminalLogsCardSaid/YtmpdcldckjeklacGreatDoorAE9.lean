/- The layer of own lemmas and contracts, part 9. -/
import Derived.Test.YtmpdcldckjeklacGreatDoorAE8
set_option linter.unusedVariables false
set_option linter.unusedSimpArgs false
namespace Go.Ide
open Go.Proofs Go.RowKit
set_option maxRecDepth 20000
set_option maxHeartbeats 4000000
section
attribute [local irreducible] F6
theorem VW (x:List UInt8)(l:List (List UInt8))(nn:Bool)(hl:l.length<=100000):Aa C0 106 [.sl nn 1 ((x::l).map AH)] (.sl false 1 ((x::l).map AH)):=by
 refine Ax.walk w1 SS rfl λF=>?_
 have hml:(l.map AH).length=l.length:=BP ..;rw[BY];have hp:AC (AH x::l.map AH):=An;obtain⟨q,hq⟩:∃q,l.map AH=q:=⟨_,rfl⟩
 rw[hq]at hml hp⊢;have hne:AH x::q≠[]:=List.cons_ne_nil _ _;have hfz:=Fk 302 5 9 1 (AH x::q) [];rw[CD,hml]at hfz;cases nn
 ·refine AJ AU (BJ hml B5) AA AA AA AA AA AA ?_
  exact⟨_,hfz,AB.out,rfl⟩
 ·refine AJ AU (BJ hml B5) AA AA AA AA AA AA ?_
  exact⟨_,hfz,AB.out,rfl⟩
theorem JB (k:List UInt8):match En k with
  |some p=>1<=p.1/\p.1<=2/\p.2<=4
  |none=>True:=by
 refine Ly (P:=λk o=>match o with
  |some p=>1<=p.1/\p.1<=2/\p.2<=4
  |none=>True) k (by decide) (by decide) (by decide) (by decide) (by decide) (by decide) (by decide) (by decide) (by decide) (by decide) (by decide) ?_
 intros;trivial
abbrev ED (w:List UInt8):D:=i64 (Bg w:Nat)
theorem C7 {H:Hp}:Fz H [] (.agg [D.prim Bj,D.prim Bj,D.prim BO,D.prim B0,D.prim B0]) (As false false ⟨0,0,[],[],[]⟩):=by
 unfold As;refine .agg rfl λi d d' hd hd'=>?_
 match i with
 | 0=>simp at hd hd';subst hd;subst hd';exact .refl _
 | 1=>simp at hd hd';subst hd;subst hd';exact .refl _
 | 2=>simp at hd hd';subst hd;subst hd';exact .refl _
 | 3=>simp at hd hd';subst hd;subst hd';exact .nil 1
 | 4=>simp at hd hd';subst hd;subst hd';exact .nil 1
 |i+5=>simp at hd
theorem TC {H:Hp}{n d:Int}{k:List UInt8}{N:D}{y y':D}(h:Fz H [] y y'):Fz H [] (.agg [i64 n,i64 d,AH k,N,y]) (.agg [i64 n,i64 d,AH k,N,y']):=by
 refine .agg rfl λi d d' hd hd'=>?_
 match i with
 | 0=>simp at hd hd';subst hd;subst hd';exact .refl _
 | 1=>simp at hd hd';subst hd;subst hd';exact .refl _
 | 2=>simp at hd hd';subst hd;subst hd';exact .refl _
 | 3=>simp at hd hd';subst hd;subst hd';exact .refl _
 | 4=>simp at hd hd';subst hd;subst hd';exact h
 |i+5=>simp at hd
def Fs (k:List UInt8)(ws:List (List UInt8)):Option (List (List UInt8)×List Int):=match En k with
 |none=>none
 |some (a,b)=>if ws.length=a+b/\(ws.drop a).all BH=true then some (ws.take a,(ws.drop a).map λw=>((Bg w:Nat):Int))else none
def Gg (k:List UInt8)(ws:List (List UInt8)):BV:=match Fs k ws with
 |none=>⟨0,0,[],[],[]⟩
 |some (n,m)=>⟨0,0,k,n,m⟩
theorem V9 (k:List UInt8)(ws:List (List UInt8))(nn:Bool)(hl:ws.length<=100000)(hw:∀w∈ws,w.length<=100000):Aa C0 54 [AH k,.sl nn 1 (ws.map AH)] (.tup [As false false (Gg k ws),Ai (Fs k ws).isSome]):=by
 refine Ax.walk w1 TR rfl λF=>?_
 have dk:=PC none;have dp:AB (D.mp GE (GF (.prim (.pointer none)))):=⟨DL (n:=20) (by kernel_rfl)⟩
 have lk:=Qc (.prim (.pointer none)) k;have hn:(ws.map AH).length=ws.length:=BP ..;unfold Gg Fs;cases hk:En k with
 |none=>
  rw[hk]at lk;dsimp only at lk⊢;refine AJ AU kB dk AA AA AA AA AA ?_;refine DV rfl rfl ?_;refine K1 (Qs (s:=sb k) (a:=9) (b:=125) (z:=.agg #[.int .i64 0,.int .i64 0,.nilFunc]) (by kernel_rfl) rfl rfl lk) ?_;dsimp only[Dh];refine BC ?_;refine AJ AU kB AA AA AA AA AA AA ?_;exact⟨_,B7 C7 (.refl _),AB.out,rfl⟩
 |some p=>
  have ks:=JB k;obtain⟨ka,kb⟩:=p;rw[hk]at lk ks;obtain⟨fn,lk⟩:=lk;obtain⟨k1,k2,k3⟩:=ks;dsimp only at lk k1 k2 k3⊢;have wk:IntKind.i64.wrap (((ka:Nat):Int)+((kb:Nat):Int))=((ka+kb:Nat):Int):=by rw[wI];omega
  by_cases h1:ws.length=ka+kb
  rotate_left
  ·have t1:(((ws.length:Nat):Int) != ((ka+kb:Nat):Int))=true:=by rw[bne_iff_ne];omega
   refine AJ AU kB dk AA AA AA AA AA ?_;refine DV rfl rfl ?_;refine K1 (OQ (s:=sb k) (a:=9) (b:=125) (z:=.agg #[.int .i64 0,.int .i64 0,.nilFunc]) (by kernel_rfl) rfl rfl lk) ?_;dsimp only[Dh];refine BC ?_;refine AJ AU (CK hn wk t1) AA AA AA AA AA AA ?_;rw[AN (show ¬(ws.length=ka+kb/\(ws.drop ka).all BH=true)from λq=>h1 q.1)];exact⟨_,B7 C7 (.refl _),AB.out,rfl⟩
  have t1:(((ws.length:Nat):Int) != ((ka+kb:Nat):Int))=false:=by rw[h1];exact bne_self_eq_false _
  have hto:((ka:Nat):Int).toNat=ka:=H6 _;obtain⟨nm,hnm⟩:∃nm,ws.take ka=nm:=⟨_,rfl⟩
  obtain⟨ms,hms⟩:∃ms,ws.drop ka=ms:=⟨_,rfl⟩
  have hnl:nm.length=ka:=by rw[<-hnm,Ds];omega
  have hml:ms.length=kb:=by rw[<-hms,Et];omega
  have e1:(ws.map AH).take ka=nm.map AH:=by rw[<-hnm,List.map_take]
  have e2:(ws.map AH).drop ka=ms.map AH:=by rw[<-hms,List.map_drop]
  have hmm:(ms.map AH).length=kb:=by rw[BP,hml]
  rw[hnm,hms];obtain⟨x,nm',rfl⟩:∃x l,nm=x::l:=by
   cases nm with
   |nil=>simp at hnl;omega
   |cons x l=>exact⟨x,l,rfl⟩
  have cl:=VW x nm' nn (by rw[CD]at hnl;omega);refine AJ AU kB dk AA AA AA AA AA ?_;refine DV rfl rfl ?_;refine K1 (OQ (s:=sb k) (a:=9) (b:=125) (z:=.agg #[.int .i64 0,.int .i64 0,.nilFunc]) (by kernel_rfl) rfl rfl lk) ?_;dsimp only[Dh];refine BC ?_;have e3:(ms.map AH).take (ws.length-ka)=ms.map AH:=C3 (by rw[BP];omega);refine AJ AU (CL hn wk t1 hto Nat.sub_zero (@List.drop_zero D) (Cs e1 e2 e3 hmm)) cl AA AA AA AA AA ?_;refine AO.loop (α:=Nat×Nat×Nat) (λp=>⟨[(4,.optr 0 0 5 0 0),(5,Ai false),(8,.optr 407 30 5 0 0),(42,.sl nn 1 (ms.map AH)),(43,i64 (kb:Nat)),(44,i64 (p.1:Nat))],
   FV 1104 p.2.1 3 1 ((ms.take p.1).map ED)++[⟨407,30,25,5,[.agg [i64 0,i64 0,AH k,.sl false 1 (AH x::nm'.map AH),FU 1104 p.2.1 1 ((ms.take p.1).map ED)]]⟩,⟨0,0,25,5,[.agg [i64 0,i64 0,AH [],BA,BA]]⟩],p.2.2⟩) (λp=>kb-p.1)
   (λp=>p.1<=kb/\(ms.take p.1).all BH=true) (0,0,_) ⟨Bu _,rfl⟩ Al ?_
  clear cl e1 e2 e3 hto hn t1 lk dk dp;rintro⟨i,g7,n1⟩ F ⟨h2,h3⟩;dsimp only at h2 h3⊢;obtain⟨TL,hTL⟩:∃TL,(ms.take i).map ED=TL:=⟨_,rfl⟩
  have hTl:TL.length=i:=by rw[<-hTL,BP,Ds];omega
  rw[hTL];rcases Aq i kb with h4|h4
  ·obtain⟨w,hw1⟩:∃w,ms[i]?=some w:=⟨ms[i],B3⟩
   have t2:decide (((i:Nat):Int)<((kb:Nat):Int))=true:=Av;have hx':=HY hw1;have hwl:w.length<=1000000:=Az (hw w (List.mem_of_mem_drop (i:=ka) (by rw[hms];exact Bh hw1))) (by omega);have cI:=KY w hwl;have wc:=wS (n:=i) (by omega);have hsn:(ms.take (i+1)).map ED=TL++[ED w]:=by rw[EG,hw1,EH,hTL];rfl
   have hal:(ms.take (i+1)).all BH=BH w:=by rw[EG,hw1,H8,h3];simp
   cases hi:BH w with
   |false=>
    rw[hi]at cI;have hbad:¬(ws.length=ka+kb/\ms.all BH=true):=λq=>by
     have:=CF.1 q.2 w (Bh hw1)
     rw[hi]at this;cases this
    rw[AN hbad];rcases TL with _|⟨z,TL⟩
    ·dsimp only[DS,DT]
     refine AJ AU t2 hx' cI AA AA AA AA ?_;exact⟨_,B7 C7 (.refl _),AB.out,rfl⟩
    ·dsimp only[C4,C5]
     refine AJ AU t2 hx' cI AA AA AA AA ?_;exact⟨_,B7 C7 (.refl _),AB.out,rfl⟩
   |true=>
    rw[hi]at cI hal;rcases TL with _|⟨z,TL⟩
    ·dsimp only[DS,DT]
     refine AJ AU (BJ t2 wc) hx' cI AA AA AA AA ?_;exact⟨(i+1,_,_),⟨by dsimp only;omega,hal⟩,by dsimp only;omega,(by dsimp only;rw[hsn];exact Al)⟩
    ·dsimp only[C4,C5]
     have htk:List.take (TL.length+1) (z::TL)=z::TL:=by simp
     rw[CD]at hTl;refine AJ AU (CK t2 wc htk) hx' cI AA AA AA AA ?_;exact⟨(i+1,_,_),⟨by dsimp only;omega,hal⟩,by dsimp only;omega,(by dsimp only;rw[hsn,JF];exact Al)⟩
  ·have hi:i=kb:=by omega
   subst hi;have t2:decide (((i:Nat):Int)<((i:Nat):Int))=false:=Ap;rw[Lg]at h3 hTL;rw[AM ⟨h1,h3⟩];have hmd:ms.map ED=(ms.map λw=>((Bg w:Nat):Int)).map BQ:=by rw[List.map_map];rfl
   rcases TL with _|⟨z,TL⟩
   ·have hmn:ms=[]:=List.map_eq_nil_iff.1 hTL
    dsimp only[DS,DT];refine AJ AU t2 AA AA AA AA AA AA ?_;subst hmn;exact⟨_,B7 (TC (.nil 1)) (.refl _),AB.out,rfl⟩
   ·dsimp only[C4,C5]
    refine AJ AU t2 AA AA AA AA AA AA ?_;refine⟨_,B7 (TC (Fk 1104 g7 3 1 (z::TL) _)) (.refl _),?_,?_⟩
    ·rw[<-hTL];exact AB.out
    ·unfold As;dsimp only;rw[<-hmd,<-hTL];rfl
end
abbrev Ej:Dr:=[(10,[0,1,2,3,4,5,6,7,8,9,10,11,12,13,14,15],[16]),(14,[0,1,2,3,4,5,6,7,8,9,10,11],[12])]
open Go.Proofs Go.RowKit
set_option maxRecDepth 20000
set_option maxHeartbeats 4000000
theorem KZ (c:UInt8):∀l:List UInt8,((A8 c l).map List.length).sum+l.count c=l.length
 | []=>rfl
 |b::l=>by
  have ih:=KZ c l;rw[JH,CD]
  by_cases hb:b=c
  ·rw[AM hb,hb,List.count_cons_self,BY,List.sum_cons,Gl];omega
  ·rw[AN hb,List.count_cons_of_ne hb]
   have hne:=KS c l;split
   ·rename_i w ws h
    rw[h,BY,List.sum_cons]at ih;rw[BY,List.sum_cons,CD];omega
   ·rename_i h;exact AW h hne
theorem MK {w:List UInt8}:∀ {ws:List (List UInt8)},w∈ws->w.length<=(ws.map List.length).sum
 | [],h=>by cases h
 |a::ws,h=>by
  rw[BY,List.sum_cons];rcases Ah.1 h with rfl|h
  ·omega
  ·have:=MK h;omega
theorem QU {c:UInt8}{l w:List UInt8}(h:w∈A8 c l):w.length<=l.length:=by
 have:=MK h
 have:=KZ c l
 omega
abbrev Ik:BV:=⟨0,0,[],[],[]⟩
def Is (ws:List (List UInt8)):BV:=
 let e:=Gg (ws.getD 2 []) ((ws.take (ws.length-1)).drop 3)
 ⟨(Bg (ws.getD 0 []):Nat),(Bg (ws.getD 1 []):Nat),e.kind,e.names,e.masses⟩
def Dp (l:List UInt8):BV×Nat:=
 if 4096<l.length then(Ik,23)
 else if(A8 32 l).length<4\/(A8 32 l).contains []=true then(Ik,21)
 else if BH ((A8 32 l).getD ((A8 32 l).length-1) [])=false then(Ik,21)
 else if Lib.itoa (Bs (l.take (l.length-((A8 32 l).getD ((A8 32 l).length-1) []).length-1)):Nat)≠(A8 32 l).getD ((A8 32 l).length-1) []then(Ik,24)
 else if BH ((A8 32 l).getD 0 [])=true/\BH ((A8 32 l).getD 1 [])=true/\(Fs ((A8 32 l).getD 2 []) (((A8 32 l).take ((A8 32 l).length-1)).drop 3)).isSome=true/\Cq (Is (A8 32 l))=0 then(Is (A8 32 l),0)
 else(Ik,21)
theorem W3 {k:List UInt8}{ws n:List (List UInt8)}{m:List Int}(h:Fs k ws=some (n,m)):n.length<=ws.length/\m.length<=ws.length:=by
 unfold Fs at h;split at h<;>try(cases h;done)
 split at h<;>try(cases h;done)
 cases h;rw[Ds,BP,Et];omega
theorem RH (k:List UInt8)(ws:List (List UInt8)):(Gg k ws).names.length<=ws.length/\(Gg k ws).masses.length<=ws.length:=by
 unfold Gg;split
 ·exact⟨Bu _,Bu _⟩
 ·rename_i h;exact W3 h
theorem Rn {ws:List (List UInt8)}(h:4<=ws.length):∃w0 w1 w2 ms z,ws=w0::w1::w2::(ms++[z]):=by
 match ws,h with
 |w0::w1::w2::x::r,_=>
  obtain⟨ms,z,hm⟩:∃ms z,x::r=ms++[z]:=⟨(x::r).dropLast,(x::r).getLast (by simp),(List.dropLast_concat_getLast (by simp)).symm⟩
  exact⟨w0,w1,w2,ms,z,by rw[hm]⟩
section
attribute [local irreducible] F6
theorem Vr (l:List UInt8)(hl:l.length<=100000):Aa C0 25 [AH l] (.tup [As false false (Dp l).1,i64 ((Dp l).2:Nat)]):=by
 refine Ax.walk w1 eo rfl λF=>?_
 have hsz:=Bl l;have cS:=Wo 32 l hl;unfold Dp;rcases Aq 4096 l.length with h1|h1
 ·have t1:decide (((l.length:Nat):Int)>4096)=true:=Av
  rw[AM h1];refine AJ Ej (BJ hsz t1) AA AA AA AA AA AA ?_;exact⟨_,B7 C7 (.refl _),AB.out,rfl⟩
 have t1:decide (((l.length:Nat):Int)>4096)=false:=Ap;rw[AN (show ¬ 4096<l.length by omega)];have hmem:∀w∈A8 32 l,w.length<=4096:=λw hw=>Az (QU hw) h1
 have hsum:=KZ 32 l;have hlen:=GW 32 l;obtain⟨ws,hws⟩:∃ws,A8 32 l=ws:=⟨_,rfl⟩
 rw[hws]at cS hmem hsum hlen⊢;have hn:(ws.map AH).length=ws.length:=BP ..;have hcl:l.count 32<=l.length:=List.count_le_length;have cC:=Ug ws [] false (by omega);have wl:IntKind.i64.wrap (((ws.length:Nat):Int)-1)=((ws.length-1:Nat):Int):=by rw[wI];omega
 rcases Aq ws.length 4 with h2|h2
 ·have t2:decide (((ws.length:Nat):Int)<4)=true:=Av
  rw[AM (.inl h2)];refine AJ Ej (CW hsz t1 hn wl t2) cS AA AA AA AA AA ?_;exact⟨_,B7 C7 (.refl _),AB.out,rfl⟩
 have t2:decide (((ws.length:Nat):Int)<4)=false:=Ap;cases h3:ws.contains []with
 |true=>
  rw[h3]at cC;rw[AM (.inr rfl)];refine AJ Ej (CW hsz t1 hn wl t2) cS cC AA AA AA AA ?_;exact⟨_,B7 C7 (.refl _),AB.out,rfl⟩
 |false=>
 rw[h3]at cC;rw[AN (show ¬(ws.length<4\/false=true) by simp;omega)];obtain⟨u0,u1,u2,ms,z,rfl⟩:=Rn h2;have hN:(u0::u1::u2::(ms++[z])).length=ms.length+4:=by simp
 have hz:(u0::u1::u2::(ms++[z])).getD ((u0::u1::u2::(ms++[z])).length-1) []=z:=by
  rw[hN];simp
 have hmid:((u0::u1::u2::(ms++[z])).take ((u0::u1::u2::(ms++[z])).length-1)).drop 3=ms:=by
  rw[hN];simp
 have g0:(u0::u1::u2::(ms++[z])).getD 0 []=u0:=rfl;have g1:(u0::u1::u2::(ms++[z])).getD 1 []=u1:=rfl;have g2:(u0::u1::u2::(ms++[z])).getD 2 []=u2:=rfl;unfold Is;rw[hz,hmid,g0,g1,g2];have m0:=hmem u0 (by simp);have m1:=hmem u1 (by simp);have mz:=hmem z (by simp);have mm:∀w∈ms,w.length<=100000:=λw hw=>Az (hmem w (by simp[hw])) (by omega)
 have hzl:z.length+1<=l.length:=by
  have:=MK (w:=z) (ws:=u0::u1::u2::(ms++[z])) (by simp)
  omega
 have hml:ms.length<=100000:=by omega
 have q0:((u0::u1::u2::(ms++[z])).map AH)[0]?=some (AH u0):=rfl;have q1:((u0::u1::u2::(ms++[z])).map AH)[1]?=some (AH u1):=rfl;have q2:((u0::u1::u2::(ms++[z])).map AH)[2]?=some (AH u2):=rfl;have qz:((u0::u1::u2::(ms++[z])).map AH)[ms.length+3]?=some (AH z):=by
  rw[Bf,show ms.length+3=(u0::u1::u2::ms).length from rfl,show u0::u1::u2::(ms++[z])=(u0::u1::u2::ms)++[z]from rfl,B8 (Ad _)];simp
 have qm:List.take (ms.length+3-3) (List.drop 3 ((u0::u1::u2::(ms++[z])).map AH))=ms.map AH:=by
  show List.take ms.length (List.map AH (ms++[z]))=_;rw[EH];exact List.take_left' (by simp)
 rw[hN]at hn;rw[hN,show ms.length+4-1=ms.length+3 from rfl]at wl;have t2':decide (((ms.length+4:Nat):Int)<4)=false:=Ap;have hp:AC ((u0::u1::u2::(ms++[z])).map AH):=An;obtain⟨qq,hQ⟩:∃qq,(u0::u1::u2::(ms++[z])).map AH=qq:=⟨_,rfl⟩
 rw[hQ]at q0 q1 q2 qz qm hn hp cC cS;have cZ:=KY z (by omega);have cW0:=KY u0 (by omega);have cW1:=KY u1 (by omega);clear hmem hsum hlen hcl h2 h3 g0 g1 g2 hz hmid hN hQ hws t2;cases i1:BH z with
 |false=>
  rw[i1]at cZ;rw[AM rfl];refine AJ Ej (CW hsz t1 hn wl t2') cS cC qz cZ AA AA ?_;exact⟨_,B7 C7 (.refl _),AB.out,rfl⟩
 |true=>
 rw[i1]at cZ;rw[AN (by simp)];have hzz:=Bl z;have wz1:IntKind.i64.wrap (((l.length:Nat):Int)-((z.length:Nat):Int))=((l.length-z.length:Nat):Int):=by rw[wI];omega
 have wz2:IntKind.i64.wrap (((l.length-z.length:Nat):Int)-1)=((l.length-z.length-1:Nat):Int):=by rw[wI];omega
 have ex:(sb l).extract 0 (l.length-z.length-1)=sb (l.take (l.length-z.length-1)):=by rw[GD];rfl
 have hb1:(((l.length-z.length-1:Nat):Int))<=((l.length:Nat):Int):=by omega
 have cK:=SV (l.take (l.length-z.length-1)) (by rw[Ds];omega);obtain⟨pre,hpre⟩:∃pre,l.take (l.length-z.length-1)=pre:=⟨_,rfl⟩
 rw[hpre]at ex cK⊢;have eK:=Ce (Lib.itoa (Bs pre:Nat)) z;obtain⟨ck,hck⟩:∃ck,Lib.itoa (Bs pre:Nat)=ck:=⟨_,rfl⟩
 rw[hck]at cK eK⊢;have cP:=V9 u2 ms false hml mm
 by_cases h5:ck=z
 rotate_left
 ·rw[B4 h5]at eK
  rw[AM h5];refine AJ Ej (CW hsz t1 hn wl t2') cS cC qz cZ AA AA ?_;refine AJ Ej (CL hsz hzz wz1 wz2 kN ex eK) qz cK AA AA AA AA ?_;exact⟨_,B7 C7 (.refl _),AB.out,rfl⟩
 rw[BW h5]at eK;rw[AN (by simpa using h5)];refine AJ Ej (CW hsz t1 hn wl t2') cS cC qz cZ AA AA ?_;refine AJ Ej (CL hsz hzz wz1 wz2 kN ex eK) qz cK AA AA AA AA ?_;refine AJ Ej kB q0 cW0 AA AA AA AA ?_;refine AJ Ej kB q1 AA AA AA AA AA ?_;refine cI cW1 ?_;have hpn:=RH u2 ms;obtain⟨pe,hpe⟩:∃pe,Gg u2 ms=pe:=⟨_,rfl⟩
 rw[hpe]at cP hpn⊢;obtain⟨po,hpo⟩:∃b,(Fs u2 ms).isSome=b:=⟨_,rfl⟩
 rw[hpo]at cP⊢;obtain⟨pn,pd,pk,pnm,pms⟩:=pe;dsimp only at hpn⊢;unfold As at cP;dsimp only at cP;have cE:=Qm false false ⟨(Bg u0:Nat),(Bg u1:Nat),pk,pnm,pms⟩ (by dsimp only;omega) (by dsimp only;omega);unfold As at cE;dsimp only at cE;obtain⟨ce,hce⟩:∃ce,Cq ⟨(Bg u0:Nat),(Bg u1:Nat),pk,pnm,pms⟩=ce:=⟨_,rfl⟩
 rw[hce]at cE⊢;refine AO.weak ⟨[(2,.optr 0 0 5 0 0),(3,i64 0),(4,.sl false 1 qq),(5,i64 (ms.length+3:Nat)),(8,i64 (Bg u0:Nat)),(9,Ai (BH u0)),(10,i64 (Bg u1:Nat)),(11,Ai (BH u1))],[⟨0,0,25,5,[.agg [i64 0,i64 0,AH [],BA,BA]]⟩],67⟩ Al ?_;clear hsz cS cC wl t1 t2' q0 q1 qz cZ cW0 cW1 wz1 wz2 ex cK eK hzz hb1;generalize BH u0=b0 at*;generalize BH u1=b1 at*;generalize Bg u0=v0 at*;generalize Bg u1=v1 at*;refine AO.seq ?_;refine ND w1 1400 [0,1,2,3,4,5,6,7,8,9,10,11] [12] 11 10 [7,5,4,3,2,1,0,6,8,10] (by kernel_rfl) (by kernel_rfl) ?_;refine BC ?_;refine NT kN ?_;refine IJ rfl rfl rfl rfl ?_;refine Mk (λ_ _=>rfl) (by exact Bz) ⟨rfl,by omega⟩ q2 ?_;refine BC ?_;have qm':List.take (ms.length+3-(3:Int).toNat) (List.drop ((3:Int).toNat) qq)=ms.map AH:=qm;refine NT (BJ kN qm') ?_;refine IJ rfl rfl rfl rfl ?_;refine BC ?_;refine DG (by exact Bz) ?_;refine BC ?_;refine CX.same _ cP An ?_;refine BC ?_
 repeat(first|(refine IJ rfl rfl rfl rfl ?_;first|refine El (λ_ _=>rfl) ?_|refine Ia rfl rfl rfl (by(try dsimp only);(try simp only[]);exact rfl) ?_)|(refine OJ rfl rfl rfl ?_;first|refine OX (λ_ _=>rfl) ?_|refine Ov rfl rfl rfl (by(try dsimp only);(try simp only[]);exact rfl) ?_)|(refine OI rfl rfl rfl rfl ?_;refine El (λ_ _=>rfl) ?_))
 try refine OB ?_
 refine BC ?_
 try simp only[]
 refine DG ⟨trivial,.inl AA⟩ ?_;cases b0
 ·rw[AN (by simp)]
  refine AJ Ej kB AA AA AA AA AA AA ?_;exact⟨_,B7 C7 (.refl _),AB.out,rfl⟩
 cases b1
 ·rw[AN (by simp)]
  refine AJ Ej kB AA AA AA AA AA AA ?_;exact⟨_,B7 C7 (.refl _),AB.out,rfl⟩
 cases po
 ·rw[AN (by simp)]
  refine AJ Ej kB AA AA AA AA AA AA ?_;exact⟨_,B7 C7 (.refl _),AB.out,rfl⟩
 by_cases h6:ce=0
 rotate_left
 ·have e6:(((ce:Nat):Int) != 0)=true:=by rw[bne_iff_ne];omega
  rw[AN (λq=>h6 q.2.2.2)];refine AJ Ej e6 cE AA AA AA AA AA ?_;exact⟨_,B7 C7 (.refl _),AB.out,rfl⟩
 have e6:(((ce:Nat):Int) != 0)=false:=by rw[h6];rfl
 rw[AM ⟨rfl,rfl,rfl,h6⟩];refine AJ Ej e6 cE AA AA AA AA AA ?_;exact⟨_,.refl _,AB.out,rfl⟩
end
end Go.Ide
