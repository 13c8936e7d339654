/- The layer of own lemmas and contracts, part 13. -/
import Derived.Test.YtpehlicnhjoknabGreatDoorP12
import Derived.Test.YtpehlicnhjoknabGreatDoorP6
set_option linter.unusedVariables false
set_option linter.unusedSimpArgs false
namespace Go.Ide
abbrev a3q:Dr:=[(2,[0,1,2,3,4,5,6,7,8,9,10],[11]),(5,[0,1,2,3,4,5,6,7,8,9],[10,11]),(6,[0,1,2,3,4,5,6,7,8,9,10,11,12,13,14,15,16,17,18,19,20,21,22,23],[24])]
abbrev a4x:Dr:=[(1,[0,1,2,3,4,5,6,7,8,9,10,11,12,13,14,15,16,17,18,19,20,21,22,23],[24,25,26,27]),(2,[0,1,2,3,4,5,6,7],[8]),(5,[0,1,2,3,4,5,6,7,8,9,10,11,12,13,14,15],[16,17]),(6,[0,1,2,3,4,5,6,7,8,9,10,11,12,13,14,15,16,17,18,19],[20,21]),(7,[0,1,2,3,4,5,6,7,8,9,10,11,12,13,14,15,16],[17])]
open Go.Proofs Go.RowKit
set_option maxRecDepth 20000
set_option maxHeartbeats 4000000
theorem a0m.perm {C:Ctx}{f:Nat}{args:List D}{H H0:Hp}{n:Nat}{Φ:D→Hp→Nat→Prop}(h:a0m C f args H n Φ)(hp:H0.Perm H):a0m C f args H0 n Φ :=
 ⟨h.1,fun F ρ w vs m fr gn sz rp=>by
  have:=h.2 F ρ w vs (m.perm hp) fr (fun e he=>gn e (hp.mem_iff.2 he)) sz (fun i d hd=>by rw [← Own.perm hp];exact rp i d hd)
  rwa [← Own.perm hp] at this⟩
def swp (c:Bool)(z:Pnt):Pnt:=match c with
 | true=>(z.2,z.1)
 | false=>z
theorem d2r (c:Bool)(a p:Pnt):d2 (swp c a) (swp c p)=d2 a p:=by
 cases c
 ·rfl
 ·unfold d2 swp;grind
theorem d2X (c:Bool)(z:Pnt):swp c (swp c z)=z:=by cases c<;>rfl
def a8X (c:Bool)(p q:Pnt)(t:Rat):List Pnt:=match c with
 | true=>b2o p q t
 | false=>b1P p q t
def b2p (p q:Pnt)(t:Rat):Rat:=(p.2*p.2+(p.1 - t)*(p.1 - t) - q.2*q.2 - (q.1 - t)*(q.1 - t)) / ((p.2 - q.2)+(p.2 - q.2))
theorem b8v {c:Bool}{p q:Pnt}{t:Rat}(h:(swp c p).2 - (swp c q).2=0):a8X c q p t=[]:=by
 cases c
 ·have h:p.2 - q.2=0:=h
  exact if_pos (by unfold bB;rw [h];decide +kernel)
 ·have h:p.1 - q.1=0:=h
  exact if_pos (by unfold bA;rw [h];decide +kernel)
theorem b8l {c:Bool}{p q:Pnt}{t:Rat}(h:(swp c p).2 - (swp c q).2≠0):a8X c q p t=[swp c (t,b2p (swp c p) (swp c q) t)]:=by
 cases c
 ·have h:p.2 - q.2≠0:=h
  have h2:bB q p≠0:=by unfold bB;grind
  show (if bB q p=0 then [] else _)=_;rw [if_neg h2];show _=[(t,b2p p q t)];unfold b2p;rw [c5j]
 ·have h:p.1 - q.1≠0:=h
  have h2:bA q p≠0:=by unfold bA;grind
  show (if bA q p=0 then [] else _)=_;rw [if_neg h2];show _=[(b2p (p.2,p.1) (q.2,q.1) t,t)];unfold b2p;rw [← c1h]
theorem b4K (r:Rat):(a6Y r==0)=decide (r=0):=by
 rw [b6v,decide_eq_decide];exact Rat.num_eq_zero
def b3j (P:List Pnt)(w h:Nat)(r:Rat)(l:List Pnt):Rat:=l.foldl (a3A P (w:Rat) (h:Rat)) r
theorem b4d (P:List Pnt)(w h:Nat)(r:Rat):b3j P w h r []=r:=rfl
theorem b0Q (P:List Pnt)(w h:Nat)(r:Rat)(z:Pnt):b3j P w h r [z]=a3A P (w:Rat) (h:Rat) r z:=rfl
theorem a7j (P:List Pnt)(w h:Nat)(r:Rat)(l k:List Pnt):b3j P w h r (l++k)=b3j P w h (b3j P w h r l) k:=List.foldl_append ..
theorem c6H {P:List Pnt}{Q:List (GF × GF)}(hPQ:FPs P Q 3)(hPl:P.length≤100)(w h:Nat)(hw:w≤100000)(hh:h≤100000){r:Rat}{rg:GF}(hr:FR r rg 600){p q:Pnt}{pg qg:GF × GF}(hp:FP p pg 3)(hq:FP q qg 3)(hpm:p∈P)(t:Nat)(ht:t≤100000)(c:Bool)
  (g n:Nat) (R:Hp):a0m C0 60 [.optr 507 g 13 0 0,a5h pg,a5h qg,(⟨mkG (t:Int),1⟩:GF).D,boo c] (rmE g (mkG (w:Int)) (mkG (h:Int)) a1A (a0W Q) rg::R) n (fun _ H' _=>∃ rg',FR (b3j P w h r (a8X c q p (t:Rat))) rg' 600∧H'=rmE g (mkG (w:Int)) (mkG (h:Int)) a1A (a0W Q) rg'::R):=by
 refine a0m.drop ?_;refine a0m.walk w1 c8J rfl fun F=>?_
 have ft:=a8z t ht;have hcand:=fun (y:Rat)=>b1c hpm (swp c ((t:Rat),y))
 have hdsw:=fun (y:Rat)=>d2r c (swp c ((t:Rat),y)) p
 simp only [d2X] at hdsw;have cTry:=fun (y:Rat) (far:Rat) (fg:GF) (hf:FR far fg 600) (ag:GF × GF) (ha:FP (swp c ((t:Rat),y)) ag 140) (hd:far=d2 (swp c ((t:Rat),y)) p) n R=>c5B hPQ hPl w h hw hh hr hf ha (by rw [hd];exact hcand y) g n R
 have hnone:=@b8v c p q (t:Rat);have hsome:=@b8l c p q (t:Rat);obtain ⟨TG,hTG⟩:∃ T,(⟨mkG (t:Int),1⟩:GF)=T:=⟨_,rfl⟩
 rw [hTG] at ft ⊢;unfold a5h a4D GF.D;unfold GF.D at cTry;obtain ⟨p1,p2⟩:=pg;obtain ⟨q1,q2⟩:=qg;dsimp only at *;have pO:IsPure a1A.w:=inferInstance;have pW:IsPure (mkG (w:Int)).w:=inferInstance;have pH:IsPure (mkG (h:Int)).w:=inferInstance;generalize a1A=OG at *;generalize mkG (w:Int)=WG at *;generalize mkG (h:Int)=HG at *;have pQ:IsPure (.sl false 8 (a0W Q)):=inferInstance;clear hTG;refine sR 0 ?_;refine OkS.seqX (α:=Nat × (GF × GF) × (GF × GF)) (fun m=>⟨[(0,.optr 507 g 13 0 0),(4,boo c),(6,.optr 0 n 8 0 0),(7,.optr 1 (n+1) 8 0 0),(8,.optr 2 (n+2) 4 0 0)],
   ⟨2,n+2,113,4,[.agg [i64 TG.n.s,TG.n.w,i64 (mkG (TG.d:Int)).s,(mkG (TG.d:Int)).w]]⟩::⟨1,n+1,121,8,[a5h m.2.2]⟩::⟨0,n,121,8,[a5h m.2.1]⟩::rmE g WG HG OG (a0W Q) rg::R,m.1⟩) (fun m=>FP (swp c p) m.2.1 3∧FP (swp c q) m.2.2 3) ?_ ?_
 ·cases c
  ·refine goI a3q kB trivial trivial trivial trivial trivial trivial ?_
   exact ⟨trivial,(_,(p1,p2),(q1,q2)),⟨hp,hq⟩,wkI⟩
  ·refine sR 100 ?_
   refine ifI ?_;refine OkS.regW w1 200 [0,1,2,3,4,5,6,7,8,9,10] [11] 10 [3,2,1,0,4] (0) (by kernel_rfl) (by kernel_rfl) ?_;refine dsI ?_;refine gvI kN ?_;refine And.intro (.inl trivial) ?_;refine goI a3q kB trivial trivial trivial trivial trivial trivial ?_;exact ⟨trivial,(_,(p2,p1),(q2,q1)),⟨⟨hp.fy,hp.fx⟩,⟨hq.fy,hq.fx⟩⟩,wkI⟩
 rintro ⟨m,⟨u1,u2⟩,⟨v1,v2⟩⟩ ⟨hu,hv⟩;dsimp only at hu hv ⊢;clear hp hq;obtain ⟨pp,hpp⟩:∃ z,swp c p=z:=⟨_,rfl⟩
 obtain ⟨qq,hqq⟩:∃ z,swp c q=z:=⟨_,rfl⟩
 rw [hpp] at hu hdsw hnone hsome;rw [hqq] at hv hnone hsome;have fdy:=a1O hu.fy hv.fy;have c1:=a3f hu.fy hv.fy (by decide);have c2:=a6e fdy.is;have fa:=a1O hu.fx ft;have fb:=a1O hv.fx ft;have c3:=a3f hu.fx ft (by decide);have c4:=a3f hv.fx ft (by decide);have c5:=a2i hu.fy hu.fy (by decide);have c6:=a2i fa fa (by decide);have f7:=a3l (a0z hu.fy hu.fy) (a0z fa fa);have c7:=a5e (a0z hu.fy hu.fy) (a0z fa fa) (by decide);have c8:=a2i hv.fy hv.fy (by decide);have f9:=a1O f7 (a0z hv.fy hv.fy);have c9:=a3f f7 (a0z hv.fy hv.fy) (by decide);have c10:=a2i fb fb (by decide);have f11:=a1O f9 (a0z fb fb);have c11:=a3f f9 (a0z fb fb) (by decide);have f12:=a3l fdy fdy;have c12:=a5e fdy fdy (by decide);have hz:=b4K (pp.2 - qq.2);unfold a5h a4D
 by_cases h0:pp.2 - qq.2=0
 ·rw [decide_eq_true h0] at hz
  rw [hnone h0,b4d];clear c3 c4 c5 c6 c7 c8 c9 c10 c11 c12 f7 f9 f11 f12 fa fb fdy cTry hcand hdsw;unfold GF.D at c1 c2;generalize a3o u2 v2=dy at *;have p_TG:IsPure TG.n.w:=inferInstance;generalize mkG (TG.d:Int)=TG_d at *;have p_u1:IsPure u1.n.w:=inferInstance;generalize mkG (u1.d:Int)=u1_d at *;have p_u2:IsPure u2.n.w:=inferInstance;generalize mkG (u2.d:Int)=u2_d at *;have p_v1:IsPure v1.n.w:=inferInstance;generalize mkG (v1.d:Int)=v1_d at *;have p_v2:IsPure v2.n.w:=inferInstance;generalize mkG (v2.d:Int)=v2_d at *;have p_dy:IsPure dy.n.w:=inferInstance;generalize mkG (dy.d:Int)=dy_d at *;refine goI a3q hz c1 c2 trivial trivial trivial trivial ?_;exact ⟨_,.cons _ (.cons _ (.cons _ (.cons _ (.refl _)))),rg,hr,rfl⟩
 rw [decide_eq_false h0] at hz;have h02:pp.2 - qq.2+(pp.2 - qq.2)≠0:=by grind
 have f13:=b3C f11 f12 h02;have c13:=b6o f11 f12 h02 (by decide);rw [hsome h0,b0Q];have hV:(pp.2*pp.2+(pp.1 - (t:Rat))*(pp.1 - (t:Rat)) - qq.2*qq.2 - (qq.1 - (t:Rat))*(qq.1 - (t:Rat))) / (pp.2 - qq.2+(pp.2 - qq.2))=b2p pp qq (t:Rat):=rfl;rw [hV] at f13;have hzp:FP ((t:Rat),b2p pp qq (t:Rat)) (TG,c3K (a3o (a3o (a9J (a4s u2 u2) (a4s (a3o u1 TG) (a3o u1 TG))) (a4s v2 v2)) (a4s (a3o v1 TG) (a3o v1 TG))) (a9J (a3o u2 v2) (a3o u2 v2))) 50:=⟨ft.mono (by decide),f13⟩
 have c14:=a5j hzp hu (by decide);have f14:=(b3g hzp hu).mono (show 4*(50+3+1)+1≤600 by decide);have cT:=fun ag ha n R=>cTry (b2p pp qq (t:Rat)) _ _ f14 ag ha (hdsw _) n R
 have hzp1:=hzp.fx.mono (show 50≤140 by decide);have hzp2:=hzp.fy.mono (show 50≤140 by decide);clear f7 f9 f11 f12 f13 f14 fa fb fdy cTry hcand hdsw hnone hsome hzp;unfold a5h a4D at c14;unfold GF.D at c1 c2 c3 c4 c5 c6 c7 c8 c9 c10 c11 c12 c13 c14 cT;generalize a3o u2 v2=dy at *;generalize a3o u1 TG=ga at *;generalize a3o v1 TG=gb at *;generalize a4s u2 u2=m1 at *;generalize a4s ga ga=m2 at *;generalize a9J m1 m2=s1 at *;generalize a4s v2 v2=m3 at *;generalize a3o s1 m3=s2 at *;generalize a4s gb gb=m4 at *;generalize a3o s2 m4=s3 at *;generalize a9J dy dy=dd at *;generalize c3K s3 dd=yy at *;generalize b3z (TG,yy) (u1,u2)=far at *;dsimp only at c14;refine goI a3q hz c1 c2 trivial trivial trivial trivial ?_;refine goI a3q hz c3 c4 c5 c6 c7 c8 ?_;refine a0r.same _ c9 inferInstance ?_;refine dsI ?_;refine goI a3q kB c10 c11 c12 c13 c14 trivial ?_;cases c
 ·refine goI a3q kB trivial trivial trivial trivial trivial trivial ?_
  refine a0l.own _ (a0m.perm (cT (TG,yy) ⟨hzp1,hzp2⟩ _ ([_,_,_,_,_,_,_,_]++R)) (List.perm_middle (l₁:=[_,_,_,_,_,_,_,_]))) ?_;rintro d H' n' ⟨rg',h1,rfl⟩;refine goI a3q kB trivial trivial trivial trivial trivial trivial ?_;exact And.intro (by trivial) ⟨_,List.Sublist.cons_cons _ (List.sublist_append_right [_,_,_,_,_,_,_,_] R),rg',h1,rfl⟩
 ·refine goI a3q kB trivial trivial trivial trivial trivial trivial ?_
  refine a0l.own _ (a0m.perm (cT (yy,TG) ⟨hzp2,hzp1⟩ _ ([_,_,_,_,_,_,_,_]++R)) (List.perm_middle (l₁:=[_,_,_,_,_,_,_,_]))) ?_;rintro d H' n' ⟨rg',h1,rfl⟩;refine goI a3q kB trivial trivial trivial trivial trivial trivial ?_;exact ⟨_,List.Sublist.cons_cons _ (List.sublist_append_right [_,_,_,_,_,_,_,_] R),rg',h1,rfl⟩
theorem c0I {p q s:Pnt}(h:crs p q s=0):b5q q p s=[]:=if_pos (by rw [a8L,h];decide +kernel)
theorem c0K {p q s:Pnt}(h:crs p q s≠0):b5q q p s=[(p.1+c0G p q s,p.2+c0S p q s)]:=by
 have h2:a7h q p s≠0:=by rw [a8L];grind
 obtain ⟨e1,e2⟩:=b8G h;unfold b5q;rw [if_neg h2,e1,e2]
theorem c5Z {p q s:Pnt}:c0G p q s*c0G p q s+c0S p q s*c0S p q s=d2 (p.1+c0G p q s,p.2+c0S p q s) p:=by unfold d2;grind
theorem c1C {P:List Pnt}{Q:List (GF × GF)}(hPQ:FPs P Q 3)(hPl:P.length≤100)(w h:Nat)(hw:w≤100000)(hh:h≤100000){r:Rat}{rg:GF}(hr:FR r rg 600){p q s:Pnt}{pg qg sg:GF × GF}(hp:FP p pg 3)(hq:FP q qg 3)(hs:FP s sg 3)(hpm:p∈P)
  (g n:Nat) (R:Hp):a0m C0 61 [.optr 507 g 13 0 0,a5h pg,a5h qg,a5h sg] (rmE g (mkG (w:Int)) (mkG (h:Int)) a1A (a0W Q) rg::R) n (fun _ H' _=>∃ rg',FR (b3j P w h r (b5q q p s)) rg' 600∧H'=rmE g (mkG (w:Int)) (mkG (h:Int)) a1A (a0W Q) rg'::R):=by
 refine a0m.drop ?_;refine a0m.walk w1 c9t rfl fun F=>?_
 have cTry:=fun (far:Rat) (fg:GF) (hf:FR far fg 600) (g1 g2:GF) (h1:FR (p.1+c0G p q s) g1 140) (h2:FR (p.2+c0S p q s) g2 140) (hd:far=d2 (p.1+c0G p q s,p.2+c0S p q s) p) n R=>c5B hPQ hPl w h hw hh hr hf (a:=(p.1+c0G p q s,p.2+c0S p q s)) (ag:=(g1,g2)) ⟨h1,h2⟩ (by rw [hd];exact b1c hpm _) g n R
 have hnone:=@c0I p q s;have hsome:=@c0K p q s;have pO:IsPure a1A.w:=inferInstance;have pW:IsPure (mkG (w:Int)).w:=inferInstance;have pH:IsPure (mkG (h:Int)).w:=inferInstance;generalize a1A=OG at *;generalize mkG (w:Int)=WG at *;generalize mkG (h:Int)=HG at *;have pQ:IsPure (.sl false 8 (a0W Q)):=inferInstance;obtain ⟨u1,u2⟩:=pg;obtain ⟨v1,v2⟩:=qg;obtain ⟨z1,z2⟩:=sg;have f1:=a1O hq.fx hp.fx;have f2:=a1O hq.fy hp.fy;have f3:=a1O hs.fx hp.fx;have f4:=a1O hs.fy hp.fy;have c1:=a3f hq.fx hp.fx (by decide);have c2:=a3f hq.fy hp.fy (by decide);have c3:=a3f hs.fx hp.fx (by decide);have c4:=a3f hs.fy hp.fy (by decide);have c5:=a2i f1 f4 (by decide);have c6:=a2i f2 f3 (by decide);have f7:=a1O (a0z f1 f4) (a0z f2 f3);have c7:=a3f (a0z f1 f4) (a0z f2 f3) (by decide);have c8:=a6e f7.is;rw [show (q.1 - p.1)*(s.2 - p.2) - (q.2 - p.2)*(s.1 - p.1)=crs p q s from rfl] at f7 c8;have hz:=b4K (crs p q s);unfold a5h a4D;unfold a5h a4D GF.D at cTry;dsimp only at *
 by_cases h0:crs p q s=0
 ·rw [decide_eq_true h0] at hz
  rw [hnone h0,b4d];clear f1 f2 f3 f4 f7 cTry;unfold GF.D at c1 c2 c3 c4 c5 c6 c7 c8;generalize a3o v1 u1=ax at *;generalize a3o v2 u2=ay at *;generalize a3o z1 u1=bx at *;generalize a3o z2 u2=by_ at *;generalize a4s ax by_=m1 at *;generalize a4s ay bx=m2 at *;generalize a3o m1 m2=dd at *;refine goI a4x hz c1 c2 c3 c4 trivial trivial ?_;refine goI a4x hz c5 c6 c7 c8 trivial trivial ?_;exact ⟨rmE g WG HG OG (a0W Q) rg::R,List.sublist_append_right [_,_,_,_,_,_,_,_] _,rg,hr,rfl⟩
 rw [decide_eq_false h0] at hz;have h02:crs p q s+crs p q s≠0:=by grind
 rw [hsome h0,b0Q];have f9:=a3l f7 f7;have c9:=a5e f7 f7 (by decide);have c10:=a2i f1 f1 (by decide);have c11:=a2i f2 f2 (by decide);have f12:=a3l (a0z f1 f1) (a0z f2 f2);have c12:=a5e (a0z f1 f1) (a0z f2 f2) (by decide);have c13:=a2i f3 f3 (by decide);have c14:=a2i f4 f4 (by decide);have f15:=a3l (a0z f3 f3) (a0z f4 f4);have c15:=a5e (a0z f3 f3) (a0z f4 f4) (by decide);have c16:=a2i f4 f12 (by decide);have c17:=a2i f2 f15 (by decide);have f18:=a1O (a0z f4 f12) (a0z f2 f15);have c18:=a3f (a0z f4 f12) (a0z f2 f15) (by decide);have f19:=b3C f18 f9 h02;have c19:=b6o f18 f9 h02 (by decide);have c20:=a2i f1 f15 (by decide);have c21:=a2i f3 f12 (by decide);have f22:=a1O (a0z f1 f15) (a0z f3 f12);have c22:=a3f (a0z f1 f15) (a0z f3 f12) (by decide);have f23:=b3C f22 f9 h02;have c23:=b6o f22 f9 h02 (by decide);rw [show ((s.2 - p.2)*((q.1 - p.1)*(q.1 - p.1)+(q.2 - p.2)*(q.2 - p.2)) - (q.2 - p.2)*((s.1 - p.1)*(s.1 - p.1)+(s.2 - p.2)*(s.2 - p.2))) / (crs p q s+crs p q s)=c0G p q s from rfl] at f19;rw [show ((q.1 - p.1)*((s.1 - p.1)*(s.1 - p.1)+(s.2 - p.2)*(s.2 - p.2)) - (s.1 - p.1)*((q.1 - p.1)*(q.1 - p.1)+(q.2 - p.2)*(q.2 - p.2))) / (crs p q s+crs p q s)=c0S p q s from rfl] at f23;have hpx:FR p.1 u1 3:=hp.fx;have hpy:FR p.2 u2 3:=hp.fy;have f24:=(a3l hpx f19).mono (show 136≤140 by decide);have c24:=a5e hpx f19 (by decide);have f25:=(a3l hpy f23).mono (show 136≤140 by decide);have c25:=a5e hpy f23 (by decide);have c26:=a2i f19 f19 (by decide);have c27:=a2i f23 f23 (by decide);have f28:=(a3l (a0z f19 f19) (a0z f23 f23)).mono (show 132+132+(132+132)+1≤600 by decide);have c28:=a5e (a0z f19 f19) (a0z f23 f23) (by decide);have cT:=cTry _ _ f28 _ _ f24 f25 c5Z;clear f1 f2 f3 f4 f7 f9 f12 f15 f18 f19 f22 f23 f24 f25 f28 cTry hnone hsome;unfold GF.D at c1 c2 c3 c4 c5 c6 c7 c8 c9 c10 c11 c12 c13 c14 c15 c16 c17 c18 c19 c20 c21 c22 c23 c24 c25 c26 c27 c28;generalize a3o v1 u1=ax at *;generalize a3o v2 u2=ay at *;generalize a3o z1 u1=bx at *;generalize a3o z2 u2=by_ at *;generalize a4s ax by_=m1 at *;generalize a4s ay bx=m2 at *;generalize a3o m1 m2=dd at *;generalize a9J dd dd=ee at *;generalize a4s ax ax=m3 at *;generalize a4s ay ay=m4 at *;generalize a9J m3 m4=uu at *;generalize a4s bx bx=m5 at *;generalize a4s by_ by_=m6 at *;generalize a9J m5 m6=vv at *;generalize a4s by_ uu=n1 at *;generalize a4s ay vv=n2 at *;generalize a3o n1 n2=n3 at *;generalize c3K n3 ee=xx at *;generalize a4s ax vv=n4 at *;generalize a4s bx uu=n5 at *;generalize a3o n4 n5=n6 at *;generalize c3K n6 ee=yy at *;generalize a9J u1 xx=e1 at *;generalize a9J u2 yy=e2 at *;generalize a4s xx xx=k1 at *;generalize a4s yy yy=k2 at *;generalize a9J k1 k2=far at *;refine goI a4x hz c1 c2 c3 c4 trivial trivial ?_;refine goI a4x hz c5 c6 c7 c8 c9 trivial ?_;refine goI a4x kB c10 c11 c12 c13 c14 c15 ?_;refine goI a4x kB c16 c17 c18 c19 c20 c21 ?_;refine a0r.same _ c22 inferInstance ?_;refine dsI ?_;refine goI a4x kB c23 c24 c25 c26 c27 c28 ?_;refine a0l.own _ (a0m.perm (cT _ ([_,_,_,_,_,_,_,_,_,_,_,_]++R)) (List.perm_middle (l₁:=[_,_,_,_,_,_,_,_,_,_,_,_]))) ?_;rintro d H' n' ⟨rg',h1,rfl⟩;refine goI a4x kB trivial trivial trivial trivial trivial trivial ?_;exact And.intro (by trivial) ⟨_,List.Sublist.cons_cons _ (List.sublist_append_right [_,_,_,_,_,_,_,_,_,_,_,_] R),rg',h1,rfl⟩
open Go.Proofs Go.RowKit
set_option maxRecDepth 20000
set_option maxHeartbeats 4000000
def plD (p:a0F):D:=.agg [str (sb p.x),str (sb p.y)]
instance  (p:a0F):CellsPure (plD p):=by unfold plD;exact inferInstance
instance  (p:a0F):IsPure (plD p):=by unfold plD;exact inferInstance
def a5o (y x:a0F):Bool:=decide (x.x=y.x)&&(decide (x.y=y.y)&&true)
theorem d3s (x y:a0F):a0b C0 119 [plD x,.pptr (plD y)] (boo (a5o y x)):=by
 refine a0c.walk w1 c2N rfl fun F=>?_
 have e1:=a4O x.x y.x;have e2:=a4O x.y y.y;unfold plD a5o;refine goI dr0 (ff2 e1 e2) trivial trivial trivial trivial trivial trivial ?_;exact a0a rfl IsPure.out
theorem d5f (l:List a0F)(y:a0F)(hl:l.length≤1000000):a0b C0 188 [.sl false 2 (l.map plD),.clo (.func 119) [] [.pptr (plD y)]] (i64 (c5q (a5o y) l)):=by
 refine a0c.walk w1 c1I rfl fun F=>?_
 have el:(((l.map plD).length:Nat):Int)=(l.length:Int):=by rw [List.length_map]
 refine goI dr0 el trivial trivial trivial trivial trivial trivial ?_;refine OkS.loop (α:=Nat × Nat) (fun p=>⟨[(0,.sl false 2 (l.map plD)),(1,.clo (.func 119) [] [.pptr (plD y)]),(7,i64 (l.length:Int)),(8,i64 (p.1:Int))],[],p.2⟩) (fun p=>l.length - p.1) (fun p=>p.1≤l.length∧∀ (j:Nat) (x:a0F),j<p.1→l[j]? = some x→a5o y x=false) (0,_) ⟨Nat.zero_le _,fun j x hj=>absurd hj (Nat.not_lt_zero j)⟩ wkI ?_;rintro ⟨i,n⟩ F ⟨hi,ha⟩;dsimp only at hi ha ⊢;rcases Nat.lt_or_ge i l.length with h2|h2
 ·have e1:=ltT h2
  have wi:=wiI (i:=i) (by omega);obtain ⟨x,hx⟩:=a1w h2;have hm:(l.map plD)[i]? = some (.agg [str (sb x.x),str (sb x.y)]):=by rw [List.getElem?_map,hx];rfl
  have cn:=d3s x y;have hat:=fun h=>c3M hx h ha
  obtain ⟨b,hb⟩:∃ b,a5o y x=b:=⟨_,rfl⟩
  rw [hb] at cn hat;rw [show plD x=.agg [str (sb x.x),str (sb x.y)] from rfl] at cn;cases b
  ·refine goI dr0 (ff3 e1 wi kN) hm cn trivial trivial trivial trivial ?_
   exact ⟨(i+1,_),⟨h2,fun j z hj hz=>by
    rcases Nat.lt_or_ge j i with q|q
    ·exact ha j z q hz
    ·have:j=i:=by dsimp only at hj;omega
     subst this;rw [hx] at hz;cases hz;exact hb⟩,by dsimp only;omega,wkI⟩
  ·rw [hat rfl]
   refine goI dr0 (ff3 e1 wi kN) hm cn trivial trivial trivial trivial ?_;exact a0a rfl IsPure.out
 ·have e1:=ltF h2
  have:i=l.length:=by omega
  subst this;rw [b6W ha];refine goI dr0 e1 trivial trivial trivial trivial trivial trivial ?_;exact a0a rfl IsPure.out
theorem d4v (l:List a0F)(y:a0F)(hl:l.length≤1000000):a0b C0 118 [.sl false 2 (l.map plD),.clo (.func 119) [] [.pptr (plD y)]] (boo (l.any (a5o y))):=by
 refine a0c.walk w1 c3F rfl fun F=>?_
 have c1:=d5f l y hl;have e1:=c5X (a5o y) l;refine goI dr0 e1 c1 trivial trivial trivial trivial trivial ?_;exact a0a rfl IsPure.out
def prE (l:List a0F)(a b:Nat)(i:Nat):Nat:=match l[i]? with
 | some p=>if p.bad a b≠0 then p.bad a b else if (l.take i).any (a5o p) then 9 else 0
 | none=>0
def a2F (l:List a0F)(L W:Int):Nat:=if a8b L W then 3 else if l.length=0 then 2 else if 64<l.length then 5 else b5U (prE l L.toNat W.toNat) l.length
def a0F.gf (p:a0F):GF × GF:=(a5G p.x,a5G p.y)
def a8Z (l:List a0F)(e:Nat):D:=if e=0 then .sl false 8 (l.map fun p=>a5h p.gf) else a2k
theorem b0g {L W:Int}(h:a8b L W=false):∃ a b:Nat,L=a∧W=b∧a≤100000∧b≤100000∧1≤a∧1≤b:=by
 unfold a8b at h;simp only [Bool.or_eq_false_iff,decide_eq_false_iff_not] at h;exact ⟨L.toNat,W.toNat,by omega,by omega,by omega,by omega,by omega,by omega⟩
theorem a4K {p:a0F}{a b:Nat}(h:p.bad a b=0):chk p.x=0∧chk p.y=0∧inR (a:Rat) (b:Rat) p.pt=true∧wtB p.wt=true:=by
 unfold a0F.bad at h;split at h
 ·rename_i q;exact absurd h q
 ·rename_i q
  have hab:two (chk p.x) (chk p.y)=0→chk p.x=0∧chk p.y=0:=by unfold two;split<;>omega
  obtain ⟨h1,h2⟩:=hab (Decidable.not_not.1 q);split at h
  ·rename_i q2
   rw [Bool.and_eq_true] at q2;exact ⟨h1,h2,q2.1,q2.2⟩
  ·cases h
theorem c5a {p:a0F}{a b:Nat}(h:p.bad a b=0):p.at=a5h p.gf:=by
 obtain ⟨h1,h2,-⟩:=a4K h;unfold a0F.at;rw [if_neg]
 ·rfl
 ·unfold two;rw [h1,h2];decide
theorem c0z (p:a0F):∃ c1 c2 c3 c4 c5 c6 c7 c8,p.at=.agg [c1,c2,c3,c4,c5,c6,c7,c8]:=by
 unfold a0F.at;split
 ·exact ⟨_,_,_,_,_,_,_,_,rfl⟩
 ·exact ⟨_,_,_,_,_,_,_,_,rfl⟩
theorem a9U {l:List a0F}{i:Nat}{p:a0F}{β:Type}(f:a0F→β)(h:l[i]? = some p):(l.take (i+1)).map f=(l.take i).map f++[f p]:=by
 rw [List.take_add_one,h,List.map_append];rfl
theorem b2b (bb:Bool)(l:List a0F)(hl:l.length≤100000)(hf:∀ p∈l,p.few)(L W:Int):a0b C0 56 [.sl bb 3 (l.map a0F.D),i64 L,i64 W] (.tup [a8Z l (a2F l L W),i64 (a2F l L W:Nat)]):=by
 refine a0c.walk w1 c7U rfl fun F=>?_
 have el:(((l.map a0F.D).length:Nat):Int)=(l.length:Int):=by rw [List.length_map]
 have cs:=c0C L W;have cw1:=a2E ((l.length:Int)==0) 2;have cw2:=a2E (decide ((l.length:Int)>64)) 5;have hC:a2F l L W=if a8b L W then 3 else if l.length=0 then 2 else if 64<l.length then 5 else b5U (prE l L.toNat W.toNat) l.length:=rfl
 have c3:=fun a b c:Int=>b2E [a,b,c] (by simp)
 rcases hS:a8b L W with _|_
 rotate_left
 ·rw [hS,if_pos rfl] at hC cs
  rw [hC];have c3:=c3 3 (if ((l.length:Int)==0) then 2 else 0) (if decide ((l.length:Int)>64) then 5 else 0);rw [show a3g [3,_,_]=3 from rfl] at c3;have e0:((3:Int) != 0)=true:=rfl;refine goI dr0 (ff2 el e0) cs cw1 cw2 c3 trivial trivial ?_;exact ⟨_,a6u (.refl _),IsPure.out,rfl⟩
 rw [hS,if_neg (by decide)] at hC cs;rcases Nat.decEq l.length 0 with h0|h0
 rotate_left
 ·rw [if_pos h0] at hC
  rw [hC];have q1:((l.length:Int)==0)=true:=by rw [h0];rfl
  have q2:decide ((l.length:Int)>64)=false:=decide_eq_false (by omega);rw [q1,if_pos rfl] at cw1;rw [q2,if_neg (by decide)] at cw2;have c3:=c3 0 2 0;rw [show a3g [0,2,0]=2 from rfl] at c3;have e0:((2:Int) != 0)=true:=rfl;refine goI dr0 (ff4 el e0 q1 q2) cs cw1 cw2 c3 trivial trivial ?_;exact ⟨_,a6u (.refl _),IsPure.out,rfl⟩
 rw [if_neg h0] at hC;have q1:((l.length:Int)==0)=false:=beq_eq_false_iff_ne.2 (by omega);rw [q1,if_neg (by decide)] at cw1
 by_cases h64:64<l.length
 ·rw [if_pos h64] at hC
  rw [hC];have q2:decide ((l.length:Int)>64)=true:=decide_eq_true (by omega);rw [q2,if_pos rfl] at cw2;have c3:=c3 0 0 5;rw [show a3g [0,0,5]=5 from rfl] at c3;have e0:((5:Int) != 0)=true:=rfl;refine goI dr0 (ff4 el e0 q1 q2) cs cw1 cw2 c3 trivial trivial ?_;exact ⟨_,a6u (.refl _),IsPure.out,rfl⟩
 rw [if_neg h64] at hC;have q2:decide ((l.length:Int)>64)=false:=decide_eq_false (by omega);rw [q2,if_neg (by decide)] at cw2;have c3:=c3 0 0 0;rw [show a3g [0,0,0]=0 from rfl] at c3;have e0:((0:Int) != 0)=false:=rfl;obtain ⟨a,b,rfl,rfl,ha,hb,-,-⟩:=b0g hS;rw [Int.toNat_natCast,Int.toNat_natCast] at hC;refine goI dr0 (ff4 el e0 q1 q2) cs cw1 cw2 c3 trivial trivial ?_;refine OkS.loop (α:=Nat × Nat × Nat × Nat) (fun p=>⟨[(1,i64 (a:Int)),(2,i64 (b:Int)),(9,b0e 1603 p.2.1 8 ((l.take p.1).map fun p=>a5h p.gf)),(10,b0e 1503 p.2.2.1 2 ((l.take p.1).map plD)),(34,.sl bb 3 (l.map a0F.D)),(35,i64 (l.length:Int)),(36,i64 (p.1:Int))],
   a8T 1603 p.2.1 121 8 ((l.take p.1).map fun p=>a5h p.gf)++a8T 1503 p.2.2.1 198 2 ((l.take p.1).map plD),p.2.2.2⟩) (fun p=>l.length - p.1) (fun p=>p.1≤l.length∧∀ j,j<p.1→prE l a b j=0) (0,0,0,_) ⟨Nat.zero_le _,fun j hj=>absurd hj (Nat.not_lt_zero j)⟩ wkI ?_
 rintro ⟨i,g1,g2,m⟩ F ⟨hi,hz⟩;dsimp only at hi hz ⊢;rcases Nat.lt_or_ge i l.length with h2|h2
 rotate_left
 ·have e1:=ltF h2
  have:i=l.length:=by omega
  subst this;rw [a8f hz] at hC;rw [hC,List.take_length];refine goI dr0 e1 trivial trivial trivial trivial trivial trivial ?_;exact ⟨_,a6u (b9v c3Q rfl),IsPure.out,rfl⟩
 have e1:=ltT h2;have wi:=wiI (i:=i) (by omega);obtain ⟨p,hp⟩:=a1w h2;have hm:(l.map a0F.D)[i]? = some (.agg [str (sb p.x),str (sb p.y),i64 p.wt]):=by rw [List.getElem?_map,hp];rfl
 have cp:=c0O p (hf p (List.mem_of_getElem? hp)) a b ha hb;have ca:=d4v (l.take i) p (by rw [List.length_take];omega);have hE:prE l a b i=if p.bad a b≠0 then p.bad a b else if (l.take i).any (a5o p) then 9 else 0:=by unfold prE;rw [hp]
 have hgood:=@c5a p a b;obtain ⟨tw,htw⟩:∃ x,(l.take i).any (a5o p)=x:=⟨_,rfl⟩
 rw [htw] at ca hE;have cw:=a2E tw 9;have cf:=b2E [((p.bad a b:Nat):Int),if tw then 9 else 0] (by simp);have hF:a3g [((p.bad a b:Nat):Int),if tw then 9 else 0]=((prE l a b i:Nat):Int):=by
  rw [hE];show (if ((p.bad a b:Nat):Int)≠0 then ((p.bad a b:Nat):Int) else if (if tw then 9 else 0:Int)≠0 then (if tw then 9 else 0:Int) else 0)=_
  by_cases g:p.bad a b=0
  ·rw [if_neg (by omega),show (if p.bad a b≠0 then p.bad a b else if tw=true then 9 else 0)=if tw=true then 9 else 0 from if_neg fun h=>h g]
   cases tw<;>rfl
  ·rw [if_pos (by omega),show (if p.bad a b≠0 then p.bad a b else if tw=true then 9 else 0)=p.bad a b from if_pos g]
 rw [hF] at cf;have hfst:=fun h=>b8z hz h2 h
 have hnx:prE l a b i=0→p.bad a b=0:=fun h=>by
  rw [hE] at h
  by_cases g:p.bad a b=0
  ·exact g
  ·rw [if_pos g] at h;exact absurd h g
 obtain ⟨E,hEE⟩:∃ E,prE l a b i=E:=⟨_,rfl⟩
 rw [hEE] at cf hfst hnx;have hs1:=a9U (fun p=>a5h p.gf) hp;have hs2:=a9U plD hp;have hl1:((l.take i).map fun p=>a5h p.gf).length≤i:=by rw [List.length_map,List.length_take];omega
 have hl2:((l.take i).map plD).length≤i:=by rw [List.length_map,List.length_take];omega
 have hsame:((l.take i).map fun p=>a5h p.gf)=[]↔(l.take i).map plD=[]:=by rw [List.map_eq_nil_iff,List.map_eq_nil_iff]
 have pL2:IsPure (.sl false 2 ((l.take i).map plD)):=inferInstance;obtain ⟨c1,c2,c3',c4,c5,c6,c7,c8,hat⟩:=c0z p;have pat:IsPure p.at:=by unfold a0F.at;split<;>exact inferInstance
 rw [hat] at cp hgood pat;rw [show plD p=.agg [str (sb p.x),str (sb p.y)] from rfl] at ca hs2;unfold a0F.D at cp;generalize p.bad a b=BD at *;have hbad:E≠0→a2F l (a:Int) (b:Int)=E∧a8Z l E=a2k:=fun h=>⟨by rw [hC];exact hfst h,if_neg h⟩
 clear hC hfst hat;generalize hL1:(l.take i).map (fun p=>a5h p.gf)=L1 at *;generalize hL2:(l.take i).map plD=L2 at *;clear hL1 hL2;rcases L1 with _|⟨x1,L1⟩<;>rcases L2 with _|⟨x2,L2⟩
 ·dsimp only [a5B,a5C,List.nil_append] at *
  refine goI dr0 (ff3 e1 wi kN) hm cp trivial trivial trivial trivial ?_;refine a0l.own _ (a0m.lendS ca rfl (d1t (FzS.of (.nil 2)) (.clo1 (.ptr rfl rfl rfl rfl))) inferInstance (.prim _)) ?_;rintro d H2 n2 ⟨rfl,rfl,rfl⟩;rcases Nat.decEq E 0 with h0|h0
  ·obtain ⟨b1,b2⟩:=hbad h0
   have e3:=c6b h0;rw [b1,b2];refine goI dr0 e3 cw cf trivial trivial trivial trivial ?_;exact ⟨_,a6u (.refl _),IsPure.out,rfl⟩
  ·have e3:=c6o h0
   rw [← hgood (hnx h0)] at hs1;refine goI dr0 (ff2 e3 wi) cw cf trivial trivial trivial trivial ?_;exact ⟨(i+1,_,_,_),⟨h2,fun j hj=>by
    rcases Nat.lt_or_ge j i with q|q
    ·exact hz j q
    ·have:j=i:=by dsimp only at hj;omega
     subst this;exact hEE.trans h0⟩,by dsimp only;omega,by (dsimp only;rw [hs1,hs2];exact wkI)⟩
 ·exact absurd (hsame.1 rfl) (by simp)
 ·exact absurd (hsame.2 rfl) (by simp)
 ·have tk1:List.take (L1.length+1) (x1::L1)=x1::L1:=by simp
  have tk2:List.take (L2.length+1) (x2::L2)=x2::L2:=by simp
  simp only [List.length_cons] at hl1 hl2;dsimp only [a4v,a4o,List.cons_append,List.nil_append];refine goI dr0 (ff3 e1 wi kN) hm cp trivial trivial trivial trivial ?_;refine a0l.own _ (a0m.lendS ca rfl (d1t (FzS.of (b9v (K:=1503) (l:=x2::L2) (.inr rfl) rfl)) (.clo1 (.ptr rfl rfl rfl rfl))) inferInstance (.prim _)) ?_;rintro d H2 n2 ⟨rfl,rfl,rfl⟩;rcases Nat.decEq E 0 with h0|h0
  ·obtain ⟨b1,b2⟩:=hbad h0
   have e3:=c6b h0;rw [b1,b2];refine goI dr0 e3 cw cf trivial trivial trivial trivial ?_;exact ⟨_,a6u (.refl _),IsPure.out,rfl⟩
  ·have e3:=c6o h0
   rw [← hgood (hnx h0)] at hs1;refine goI dr0 (ff4 e3 wi tk1 tk2) cw cf trivial trivial trivial trivial ?_;exact ⟨(i+1,_,_,_),⟨h2,fun j hj=>by
    rcases Nat.lt_or_ge j i with q|q
    ·exact hz j q
    ·have:j=i:=by dsimp only at hj;omega
     subst this;exact hEE.trans h0⟩,by dsimp only;omega,by (dsimp only;rw [hs1,hs2,a4e,a4e];exact wkI)⟩
theorem c4n (r:Rat):a0b C0 127 [rR r] (boo (decide (r=0))):=by
 refine a0c.walk w1 d0X rfl fun F=>?_
 have e1:a1X (sb (txt r)) ⟨#[48]⟩=decide (r=0):=by
  have:=a4O (txt r) [48]
  rw [show sb [48]=⟨#[48]⟩ from rfl,b4L] at this;rw [this];exact decide_eq_decide.2 Rat.num_eq_zero
 generalize decide (r=0)=p at *;refine goI dr0 e1 trivial trivial trivial trivial trivial trivial ?_;exact a0a rfl IsPure.out
theorem b1S (n:Nat)(hn:n≤100000):rk (n:Rat) 1:=(a8z n hn).rk
theorem c4m (n:Nat)(hn:n<1000000000):a0b C0 150 [i64 (n:Int)] (rZ (n:Int)):=by
 refine a0c.walk w1 c2Q rfl fun F=>?_
 have q1:decide ((n:Int)<0)=false:=decide_eq_false (by omega);have q2:((n:Int)).tmod 1000000000=(n:Int):=Int.tmod_eq_of_lt (by omega) (by omega);have q3:((n:Int)).tdiv 1000000000=0:=Int.tdiv_eq_zero_of_lt (by omega) (by omega);have q4:IntKind.i64.wrap 0=0:=rfl;have q5:IntKind.i64.wrap (n:Int)=(n:Int):=wI (by omega) (by omega);have q6:((0:Int) != 0)=false:=rfl;have c0:=a7l false [] (fun a h=>by cases h) (by decide);have e0:rZ (sg false (a0g []))=rZ 0:=rfl;rw [e0] at c0;have cn:n≠0→a0b C0 156 [boo false,rL [n]] (rZ (n:Int)):=fun h=>by
  have:=a7l false [n] (fun a h=>by rw [List.mem_singleton.1 h];exact hn) (by simp)
  have e:a0g [n]=n:=by unfold a0g a0g;omega
  rw [e] at this;exact this
 rcases Nat.decEq n 0 with h0|h0
 rotate_left
 ·subst h0
  have q7:(((0:Nat):Int) != 0)=false:=rfl;refine goI dr0 q1 trivial trivial trivial trivial trivial trivial ?_;refine OkS.loop (α:=Nat) (fun p=>⟨[(0,i64 ((0:Nat):Int)),(2,.optr 0 0 2 0 0),(3,a2k),(4,boo false)],[⟨0,0,154,2,[.agg [boo false,a2k]]⟩],p⟩) (fun _=>0) (fun _=>True) _ trivial wkI ?_;intro m F _;refine goI dr0 q7 trivial trivial trivial trivial trivial trivial ?_;refine a0l.own _ (a0m.give [⟨0,0,154,2,[.agg [boo false,a2k]]⟩] c0 (.keep .nil) ⟨.refl _,.nil 1,trivial⟩ inferInstance) ?_;rintro d H' n' ⟨rfl,rfl,rfl⟩;refine goI dr0 kB trivial trivial trivial trivial trivial trivial ?_;exact a0a rfl IsPure.out
 have cn:=cn h0;have q7:=c6b h0;refine goI dr0 q1 trivial trivial trivial trivial trivial trivial ?_;refine OkS.loop (α:=Bool × Nat × Nat) (fun p=>⟨[(0,if p.1 then i64 0 else i64 (n:Int)),(2,.optr 0 0 2 0 0),(3,if p.1 then .osl 703 p.2.1 1 0 1 else a2k),(4,boo false)],(if p.1 then [⟨703,p.2.1,3,1,[i64 (n:Int)]⟩] else [])++[⟨0,0,154,2,[.agg [boo false,a2k]]⟩],p.2.2⟩) (fun p=>if p.1 then 0 else 1) (fun _=>True) (false,0,_) trivial wkI ?_;rintro ⟨t,g,m⟩ F -;cases t
 ·dsimp only [Bool.false_eq_true,if_false,List.nil_append]
  refine goI dr0 (ff6 q7 q1 q2 q3 q4 q5) trivial trivial trivial trivial trivial trivial ?_;exact ⟨(true,_,_),trivial,Nat.zero_lt_one,wkI⟩
 ·dsimp only [if_true,List.cons_append,List.nil_append]
  refine goI dr0 q6 trivial trivial trivial trivial trivial trivial ?_;refine a0l.own _ (a0m.give [⟨0,0,154,2,[.agg [boo false,a2k]]⟩] cn (.drop (.keep .nil)) ⟨.refl _,b0R rfl,trivial⟩ inferInstance) ?_;rintro d H' n' ⟨rfl,rfl,rfl⟩;refine goI dr0 kB trivial trivial trivial trivial trivial trivial ?_;exact a0a rfl IsPure.out
theorem b9t (n:Nat)(hn:n≤100000):a0b C0 116 [i64 (n:Int)] (rR (n:Rat)):=by
 refine a0c.walk w1 c6O rfl fun F=>?_
 have c1:=c4m n (by omega);have hr:b0z (n:Int):=by
  unfold b0z;rw [Int.natAbs_natCast];exact Nat.lt_of_le_of_lt (a1b (k:=1) (Nat.lt_of_le_of_lt hn (by decide +kernel))) (by decide)
 have c2:=b3W (n:Int) hr;have e:str (sb (Lib.itoa (n:Int)))=rR (n:Rat):=by unfold rR;rw [← Rat.intCast_natCast,b6P]
 rw [e] at c2;unfold rZ at c1 c2;refine goI dr0 kB c1 c2 trivial trivial trivial trivial ?_;exact a0a rfl IsPure.out
def c0r (a:Rat)(n:Nat):Bool:=decide (0≤a)&&decide (a≤(n:Rat))
theorem b0l (a:Rat)(k:Nat)(ha:rk a k)(hk:k≤9000)(n:Nat)(hn:n≤100000):a0b C0 55 [rR a,i64 (n:Int)] (boo (c0r a n)):=by
 refine a0c.walk w1 d2c rfl fun F=>?_
 have c1:=b7P a (a3K ha (by omega));have c2:=b9t n hn;have c3:=d2K a (n:Rat) k 1 ha (b1S n hn) (by omega);have e1:=@a8w a;have e2:=@a5p a (n:Rat);unfold c0r;obtain ⟨p,hp⟩:∃ p,decide (0≤a)=p:=⟨_,rfl⟩
 obtain ⟨q,hq⟩:∃ p,decide (a≤(n:Rat))=p:=⟨_,rfl⟩
 rw [hp] at e1;rw [hq] at e2;rw [hp,hq];unfold rR at *;cases p
 ·refine goI dr0 (ff2 e1 e2) c1 c2 c3 trivial trivial trivial ?_
  exact a0a rfl IsPure.out
 ·refine goI dr0 (ff2 e1 e2) c1 c2 c3 trivial trivial trivial ?_
  exact a0a rfl IsPure.out
theorem b7U (a b:Nat)(z:Pnt):inR (a:Rat) (b:Rat) z=(c0r z.1 a&&c0r z.2 b):=by
 unfold inR c0r;cases decide (0≤z.1)<;>cases decide (0≤z.2)<;>cases decide (z.1≤(a:Rat))<;>cases decide (z.2≤(b:Rat))<;>rfl
abbrev a1s:Dr:=[(5,[0,1,2,3,4,5],[6,7,8]),(6,[0,1,2,3,4,5,6,7],[]),(9,[0,1,2,3,4,5,6,7],[]),(12,[0,1,2,3,4,5,6,7,8,9,10],[11]),(21,[0,1,2,3,4,5,6,7],[]),(26,[0,1,2,3,4,5,6,7],[])]
open Go.Proofs Go.RowKit
set_option maxRecDepth 20000
set_option maxHeartbeats 8000000
def xv:Nat→Nat→Nat
 | 0,_=>0
 | _+1,w=>w
def b9N (w h ix:Nat):Nat→List Pnt
 | 0=>[]
 | n+1=>b9N w h ix n++[(((xv ix w:Nat):Rat),((xv n h:Nat):Rat))]
def c0P (w h:Nat):Nat→List Pnt
 | 0=>[]
 | n+1=>c0P w h n++b9N w h n 2
def a4W (c:Bool)(p q:Pnt)(w:Nat):Nat→List Pnt
 | 0=>[]
 | n+1=>a4W c p q w n++a8X c p q ((xv n w:Nat):Rat)
theorem c4l (P:List Pnt)(w h:Nat):c0P w h 2=a1m P (w:Rat) (h:Rat) 0:=by
 show [(((0:Nat):Rat),((0:Nat):Rat)),(((0:Nat):Rat),(h:Rat)),((w:Rat),((0:Nat):Rat)),((w:Rat),(h:Rat))]=_;rw [a3E];rfl
theorem b9b (p q:Pnt)(w h:Nat):a4W false p q w 2++a4W true p q h 2=a4m p q (w:Rat) (h:Rat):=by
 show ([]++b1P p q ((0:Nat):Rat)++b1P p q (w:Rat))++([]++b2o p q ((0:Nat):Rat)++b2o p q (h:Rat))=_;rw [a3E,List.nil_append,List.nil_append,← List.append_assoc];rfl
def a1y (l:List a0F):List Pnt:=l.map a0F.pt
def c6r (l:List a0F):List (GF × GF):=l.map a0F.gf
def c8x (l:List a0F):Prop:=∀ p∈l,p.x.length≤40∧p.y.length≤40
theorem c8d {l:List a0F}(h:c8x l)(hc:∀ p∈l,chk p.x=0∧chk p.y=0):FPs (a1y l) (c6r l) 3:=by
 refine ⟨by unfold a1y c6r;rw [List.length_map,List.length_map],fun i a ha=>?_⟩;unfold c6r at ha;rw [List.getElem?_map] at ha;rcases hp:l[i]? with _|p
 ·rw [hp] at ha;cases ha
 ·rw [hp] at ha
  cases ha;have hm:=List.mem_of_getElem? hp;have e:pt (a1y l) i=p.pt:=by unfold a1y;exact c8r (by rw [List.getElem?_map,hp];rfl)
  rw [e];exact ⟨b4M (hc p hm).1 (h p hm).1,b4M (hc p hm).2 (h p hm).2⟩
theorem b8K {l:List a0F}{L W:Int}(h:a2F l L W=0):∃ a b:Nat,L=a∧W=b∧a≤100000∧b≤100000∧1≤a∧1≤b∧0<l.length∧l.length≤64∧(∀ p∈l,p.bad a b=0)∧∀ j,j<l.length→prE l a b j=0:=by
 unfold a2F at h;split at h
 ·cases h
 rename_i h1;split at h
 ·cases h
 split at h
 ·cases h
 obtain ⟨a,b,rfl,rfl,ha,hb,ha1,hb1⟩:=b0g (Bool.eq_false_iff.2 h1);rw [Int.toNat_natCast,Int.toNat_natCast] at h;have hz:=c0N h;refine ⟨a,b,rfl,rfl,ha,hb,ha1,hb1,by omega,by omega,fun p hp=>?_,hz⟩;obtain ⟨j,hj,e⟩:=List.getElem_of_mem hp
 have:=hz j hj
 unfold prE at this;rw [List.getElem?_eq_getElem hj,e] at this;dsimp only at this
 by_cases g:p.bad a b=0
 ·exact g
 ·rw [if_pos g] at this;exact absurd this g
def d3c (l:List a0F)(L W:Int):List UInt8:=if a2F l L W=0 then b3x (b0V (a1y l) ((L.toNat:Nat):Rat) ((W.toNat:Nat):Rat)) else []
def d2t (l:List a0F)(L W:Int):Nat:=if a2F l L W=0 then b2S (b0V (a1y l) ((L.toNat:Nat):Rat) ((W.toNat:Nat):Rat)) else a2F l L W
theorem b5K (bb:Bool)(l:List a0F)(hl:l.length≤100000)(hf:∀ p∈l,p.few)(L W:Int):a0b C0 12 [.sl bb 3 (l.map a0F.D),i64 L,i64 W] (i64 (a2F l L W:Nat)):=by
 refine a0c.walk w1 c8v rfl fun F=>?_
 have c:=b2b bb l hl hf L W;have pP:IsPure (a8Z l (a2F l L W)):=by unfold a8Z;split<;>exact inferInstance
 generalize a8Z l (a2F l L W)=PD at *;generalize a2F l L W=E at *;refine goI dr0 kB c trivial trivial trivial trivial trivial ?_;exact a0a rfl IsPure.out
theorem d5h (bb:Bool)(l:List a0F)(hl:l.length≤100000)(hf:∀ p∈l,p.few)(L W:Int)(h40:a2F l L W=0→c8x l):a0b C0 13 [.sl bb 3 (l.map a0F.D),i64 L,i64 W] (.tup [str (sb (d3c l L W)),i64 (d2t l L W:Nat)]):=by
 refine a0c.walk w1 c6A rfl fun F=>?_
 have c:=b2b bb l hl hf L W;have hT:d3c l L W=if a2F l L W=0 then b3x (b0V (a1y l) ((L.toNat:Nat):Rat) ((W.toNat:Nat):Rat)) else []:=rfl
 have hE:d2t l L W=if a2F l L W=0 then b2S (b0V (a1y l) ((L.toNat:Nat):Rat) ((W.toNat:Nat):Rat)) else a2F l L W:=rfl
 rw [hT,hE];have hz:=@b8K l L W;obtain ⟨E,hEE⟩:∃ E,a2F l L W=E:=⟨_,rfl⟩
 rw [hEE] at c h40 hz ⊢;rcases Nat.decEq E 0 with h0|h0
 ·have e0:=c6b h0
  rw [if_neg h0,if_neg h0];have pP:IsPure (a8Z l E):=by unfold a8Z;rw [if_neg h0];exact inferInstance
  rw [show a8Z l E=a2k from if_neg h0] at c;refine goI a1s e0 c trivial trivial trivial trivial trivial ?_;exact a0a rfl IsPure.out
 have e0:=c6o h0;obtain ⟨w,h,rfl,rfl,hw,hh,hw1,hh1,hl0,hl64,hbad,-⟩:=hz h0;have hPQ:=c8d (h40 h0) fun p hp=>⟨(a4K (hbad p hp)).1,(a4K (hbad p hp)).2.1⟩
 rw [if_pos h0,if_pos h0,Int.toNat_natCast,Int.toNat_natCast];rw [show a8Z l E=.sl false 8 (a0W (c6r l)) from by unfold a8Z a0W c6r;rw [if_pos h0,List.map_map];rfl] at c;have hPl:(a1y l).length=l.length:=List.length_map ..;obtain ⟨P,hP⟩:∃ P,a1y l=P:=⟨_,rfl⟩
 obtain ⟨Q,hQ⟩:∃ P,c6r l=P:=⟨_,rfl⟩
 rw [hP] at hPQ hPl ⊢;rw [hQ] at hPQ c;have fw:=d1D (w:Int) (b4i hw);have fh:=d1D (h:Int) (b4i hh);have f0:=d4f;rw [show (⟨mkG (w:Int),1⟩:GF).D=.agg [i64 (mkG (w:Int)).s,(mkG (w:Int)).w,i64 a1A.s,a1A.w] from rfl] at fw;rw [show (⟨mkG (h:Int),1⟩:GF).D=.agg [i64 (mkG (h:Int)).s,(mkG (h:Int)).w,i64 a1A.s,a1A.w] from rfl] at fh;rw [show (⟨mkG 0,1⟩:GF).D=.agg [i64 (mkG 0).s,(mkG 0).w,i64 a1A.s,a1A.w] from rfl] at f0;have z0:=c4J 600 (by decide);have cSide:=fun (r:Rat) (rg:GF) (hr:FR r rg 600) i k (pg qg:GF × GF) (hp:Q[i]? = some pg) (hq:Q[k]? = some qg) (hi:i<P.length) t ht c g n R=>c6H hPQ (by omega) w h hw hh hr (hPQ.at_ i pg hp) (hPQ.at_ k qg hq) (a9D hi) t ht c g n R
 have cCen:=fun (r:Rat) (rg:GF) (hr:FR r rg 600) i k j (pg qg sg:GF × GF) (hp:Q[i]? = some pg) (hq:Q[k]? = some qg) (hs:Q[j]? = some sg) (hi:i<P.length) g n R=>c1C hPQ (by omega) w h hw hh hr (hPQ.at_ i pg hp) (hPQ.at_ k qg hq) (hPQ.at_ j sg hs) (a9D hi) g n R
 refine goI a1s e0 c f0 fw fh trivial trivial ?_;have pO:IsPure a1A.w:=inferInstance;have pW:IsPure (mkG (w:Int)).w:=inferInstance;have pH:IsPure (mkG (h:Int)).w:=inferInstance;have pZ:IsPure (mkG 0).w:=inferInstance;have pQ:IsPure (.sl false 8 (a0W Q)):=inferInstance;have frx:∀ n v,v≤100000→FR ((xv n v:Nat):Rat) ⟨mkG ((xv n v:Nat):Int),1⟩ 1:=fun n v hv=>a8z _ (by cases n<;>simp only [xv]<;>omega)
 have hx0:∀ v,mkG ((xv 0 v:Nat):Int)=mkG 0:=fun v=>rfl
 have hx1:∀ n v,mkG ((xv (n+1) v:Nat):Int)=mkG (v:Int):=fun n v=>rfl
 have hxl:∀ n v,v≤100000→xv n v≤100000:=fun n v hv=>by cases n<;>simp only [xv]<;>omega
 have elQ:(((a0W Q).length:Nat):Int)=(P.length:Int):=by rw [List.length_map,hPQ.len]
 obtain ⟨q0,hq0⟩:=a1w (l:=Q) (i:=0) (by rw [hPQ.len];omega);have hq0p:=hPQ.at_ 0 q0 hq0;obtain ⟨q01,q02⟩:=q0;have hm0:(a0W Q)[0]? = some (.agg [i64 q01.n.s,q01.n.w,i64 (mkG (q01.d:Int)).s,(mkG (q01.d:Int)).w,i64 q02.n.s,q02.n.w,i64 (mkG (q02.d:Int)).s,(mkG (q02.d:Int)).w]):=by rw [List.getElem?_map,hq0];rfl
 have cTry0:=fun (r:Rat) (rg:GF) (hr:FR r rg 600) (x y:Nat) (xg yg:GI) (hx:FR (x:Rat) ⟨xg,1⟩ 1) (hy:FR (y:Rat) ⟨yg,1⟩ 1) n R=>c5B hPQ (by omega) w h hw hh hr ((b3g (z:=((x:Rat),(y:Rat))) (a:=(⟨xg,1⟩,⟨yg,1⟩)) ⟨hx,hy⟩ hq0p).mono (show 4*(1+3+1)+1≤600 by decide)) (a:=((x:Rat),(y:Rat))) (ag:=(⟨xg,1⟩,⟨yg,1⟩)) ⟨hx.mono (by decide),hy.mono (by decide)⟩ rfl 26 n R
 have cDist:=fun (x y:Nat) (xg yg:GI) (hx:FR (x:Rat) ⟨xg,1⟩ 1) (hy:FR (y:Rat) ⟨yg,1⟩ 1)=>a5j (z:=((x:Rat),(y:Rat))) (a:=(⟨xg,1⟩,⟨yg,1⟩)) ⟨hx,hy⟩ hq0p (by decide)
 unfold a5h a4D at cTry0 cDist cSide cCen;unfold GF.D at cTry0 cDist cSide;dsimp only at cTry0 cDist cSide cCen;rw [show mkG ((1:Nat):Int)=a1A from rfl] at cTry0 cDist cSide;have hmx:∀ n,n<2→[(.agg [i64 (mkG 0).s,(mkG 0).w,i64 a1A.s,a1A.w]:D),.agg [i64 (mkG (w:Int)).s,(mkG (w:Int)).w,i64 a1A.s,a1A.w]][n]? = some (.agg [i64 (mkG ((xv n w:Nat):Int)).s,(mkG ((xv n w:Nat):Int)).w,i64 a1A.s,a1A.w]):=fun n hn=>by
  rcases n with _|_|n
  ·rfl
  ·rfl
  ·omega
 have hmy:∀ n,n<2→[(.agg [i64 (mkG 0).s,(mkG 0).w,i64 a1A.s,a1A.w]:D),.agg [i64 (mkG (h:Int)).s,(mkG (h:Int)).w,i64 a1A.s,a1A.w]][n]? = some (.agg [i64 (mkG ((xv n h:Nat):Int)).s,(mkG ((xv n h:Nat):Int)).w,i64 a1A.s,a1A.w]):=fun n hn=>by
  rcases n with _|_|n
  ·rfl
  ·rfl
  ·omega
 have lt2:∀ n:Nat,n<2→decide ((n:Int)<2)=true:=fun n hn=>decide_eq_true (by omega)
 have ge2:∀ n:Nat,2≤n→decide ((n:Int)<2)=false:=fun n hn=>decide_eq_false (by omega)
 have wi2:∀ n:Nat,n<2→IntKind.i64.wrap ((n:Int)+1)=((n+1:Nat):Int):=fun n hn=>wiI (by omega)
 refine OkS.loop (α:=Nat × GF × Nat) (fun p=>⟨[(8,.sl false 8 (a0W Q)),(10,.optr 401 14 4 0 0),(11,.optr 507 26 13 0 0),(50,.sl true 4 [.agg [i64 (mkG 0).s,(mkG 0).w,i64 a1A.s,a1A.w],.agg [i64 (mkG (w:Int)).s,(mkG (w:Int)).w,i64 a1A.s,a1A.w]]),(51,i64 2),(52,i64 (p.1:Int))],[rmE 26 (mkG (w:Int)) (mkG (h:Int)) a1A (a0W Q) p.2.1,⟨401,14,113,4,[.agg [i64 (mkG 0).s,(mkG 0).w,i64 a1A.s,a1A.w]]⟩],p.2.2⟩) (fun p=>2 - p.1) (fun p=>p.1≤2∧FR (b3j P w h 0 (c0P w h p.1)) p.2.1 600) (0,⟨mkG 0,1⟩,_) ⟨Nat.zero_le _,z0⟩ wkI ?_;rintro ⟨ix,rg,m⟩ F ⟨hix,hr⟩;dsimp only at hix hr ⊢;rcases Nat.lt_or_ge ix 2 with h2|h2
 ·have e1:=lt2 ix h2
  have wi:=wi2 ix h2;have hm:=hmx ix h2;have fx:=frx ix w hw;generalize hxg:mkG ((xv ix w:Nat):Int)=XG at hm fx;refine goI a1s (ff2 e1 kN) hm trivial trivial trivial trivial trivial ?_;refine OkS.perm (List.Perm.swap _ _ _) ?_;refine OkS.loop (α:=Nat × GF × Nat) (fun p=>⟨[(8,.sl false 8 (a0W Q)),(10,.optr 401 14 4 0 0),(11,.optr 507 26 13 0 0),(13,.optr 802 (m+3) 4 0 0),(50,.sl true 4 [.agg [i64 (mkG 0).s,(mkG 0).w,i64 a1A.s,a1A.w],.agg [i64 (mkG (w:Int)).s,(mkG (w:Int)).w,i64 a1A.s,a1A.w]]),(51,i64 2),(52,i64 (ix:Int)),(61,.sl true 4 [.agg [i64 (mkG 0).s,(mkG 0).w,i64 a1A.s,a1A.w],.agg [i64 (mkG (h:Int)).s,(mkG (h:Int)).w,i64 a1A.s,a1A.w]]),(62,i64 2),(63,i64 (p.1:Int))],[rmE 26 (mkG (w:Int)) (mkG (h:Int)) a1A (a0W Q) p.2.1,⟨802,m+3,113,4,[.agg [i64 XG.s,XG.w,i64 a1A.s,a1A.w]]⟩,⟨401,14,113,4,[.agg [i64 (mkG 0).s,(mkG 0).w,i64 a1A.s,a1A.w]]⟩],p.2.2⟩) (fun p=>2 - p.1) (fun p=>p.1≤2∧FR (b3j P w h 0 (c0P w h ix++b9N w h ix p.1)) p.2.1 600) (0,rg,_) ⟨Nat.zero_le _,by rw [show b9N w h ix 0=[] from rfl,List.append_nil];exact hr⟩ wkI ?_;rintro ⟨iy,rg,m2⟩ F ⟨hiy,hr⟩;dsimp only at hiy hr ⊢;rcases Nat.lt_or_ge iy 2 with h3|h3
  ·have e2:=lt2 iy h3
   have wi:=wi2 iy h3;have hm2:=hmy iy h3;have fy:=frx iy h hh;generalize hyg:mkG ((xv iy h:Nat):Int)=YG at hm2 fy;have cd:=cDist _ _ XG YG fx fy;have ct:=cTry0 _ _ hr _ _ XG YG fx fy;rw [← b0Q,← a7j,List.append_assoc] at ct;generalize b3z ({ n:=XG,d:=1 },{ n:=YG,d:=1 }) (q01,q02)=dg at cd ct;refine goI a1s (ff2 e2 kN) hm2 hm0 cd trivial trivial trivial ?_;refine a0l.own _ (a0m.perm (ct _ [_,_,_]) (List.Perm.swap _ _ _)) ?_;rintro d H' n' ⟨rg',g1,rfl⟩;refine goI a1s wi trivial trivial trivial trivial trivial trivial ?_;exact ⟨(iy+1,rg',_),⟨h3,g1⟩,by dsimp only;omega,wkI⟩
  ·have e2:=ge2 iy h3
   have:iy=2:=by omega
   subst this;refine goI a1s (ff2 e2 wi) trivial trivial trivial trivial trivial trivial ?_;exact ⟨(ix+1,rg,_),⟨h2,hr⟩,by dsimp only;omega,wkI⟩
 have e1:=ge2 ix h2
 have:ix=2:=by omega
 subst this;rw [c4l P] at hr;refine goI a1s (ff2 e1 elQ) trivial trivial trivial trivial trivial trivial ?_;refine OkS.loop (α:=Nat × GF × Nat) (fun p=>⟨[(8,.sl false 8 (a0W Q)),(10,.optr 401 14 4 0 0),(11,.optr 507 26 13 0 0),(81,.sl false 8 (a0W Q)),(82,i64 (P.length:Int)),(83,i64 (p.1:Int))],[rmE 26 (mkG (w:Int)) (mkG (h:Int)) a1A (a0W Q) p.2.1,⟨401,14,113,4,[.agg [i64 (mkG 0).s,(mkG 0).w,i64 a1A.s,a1A.w]]⟩],p.2.2⟩) (fun p=>P.length - p.1) (fun p=>p.1≤P.length∧FR (b3j P w h 0 (a1m P (w:Rat) (h:Rat) p.1)) p.2.1 600) (0,rg,_) ⟨Nat.zero_le _,hr⟩ wkI ?_;rintro ⟨i,rg,m⟩ F ⟨hi,hr⟩;dsimp only at hi hr ⊢;rcases Nat.lt_or_ge i P.length with h2|h2
 rotate_left
 ·have e1:=ltF h2
  have:i=P.length:=by omega
  subst this;have cg:=c4G hr (by decide);unfold GF.D at cg;rw [show b3j P w h 0 (a1m P (w:Rat) (h:Rat) P.length)=b0V P (w:Rat) (h:Rat) from rfl] at cg;generalize b3x (b0V P (w:Rat) (h:Rat))=GT at *;generalize b2S (b0V P (w:Rat) (h:Rat))=GN at *;refine goI a1s e1 cg trivial trivial trivial trivial trivial ?_;exact a0a rfl IsPure.out
 have e1:=ltT h2;have wi:=wiI (i:=i) (by omega);obtain ⟨⟨p1,p2⟩,hp⟩:=a1w (l:=Q) (i:=i) (by rw [hPQ.len];exact h2);have hm:(a0W Q)[i]? = some (.agg [i64 p1.n.s,p1.n.w,i64 (mkG (p1.d:Int)).s,(mkG (p1.d:Int)).w,i64 p2.n.s,p2.n.w,i64 (mkG (p2.d:Int)).s,(mkG (p2.d:Int)).w]):=by rw [List.getElem?_map,hp];rfl
 have eti:((((a0W Q).take i).length:Nat):Int)=(i:Int):=by rw [List.length_take,List.length_map,hPQ.len,Nat.min_eq_left hi]
 have pQi:IsPure (.sl false 8 ((a0W Q).take i)):=by rw [← List.map_take];exact inferInstance
 refine goI a1s (ff5 e1 eti kN Nat.sub_zero (@List.drop_zero D)) hm trivial trivial trivial trivial trivial ?_;refine OkS.perm (List.Perm.swap _ _ _) ?_;refine OkS.loop (α:=Nat × GF × Nat) (fun p=>⟨[(8,.sl false 8 (a0W Q)),(10,.optr 401 14 4 0 0),(11,.optr 507 26 13 0 0),(16,i64 (i:Int)),(17,.optr 1703 (m+4) 8 0 0),(81,.sl false 8 (a0W Q)),(82,i64 (P.length:Int)),(83,i64 (i:Int)),(90,.sl false 8 ((a0W Q).take i)),(91,i64 (i:Int)),(92,i64 (p.1:Int))],[rmE 26 (mkG (w:Int)) (mkG (h:Int)) a1A (a0W Q) p.2.1,⟨1703,m+4,121,8,[.agg [i64 p1.n.s,p1.n.w,i64 (mkG (p1.d:Int)).s,(mkG (p1.d:Int)).w,i64 p2.n.s,p2.n.w,i64 (mkG (p2.d:Int)).s,(mkG (p2.d:Int)).w]]⟩,⟨401,14,113,4,[.agg [i64 (mkG 0).s,(mkG 0).w,i64 a1A.s,a1A.w]]⟩],p.2.2⟩) (fun p=>i - p.1) (fun p=>p.1≤i∧FR (b3j P w h 0 (a1m P (w:Rat) (h:Rat) i++a3s P (w:Rat) (h:Rat) i p.1)) p.2.1 600) (0,rg,_) ⟨Nat.zero_le _,by rw [show a3s P (w:Rat) (h:Rat) i 0=[] from rfl,List.append_nil];exact hr⟩ wkI ?_;rintro ⟨k,rg,m2⟩ F ⟨hk,hr⟩;dsimp only at hk hr ⊢;rcases Nat.lt_or_ge k i with h3|h3
 rotate_left
 ·have e2:=ltF h3
  have:k=i:=by omega
  subst this;refine goI a1s (ff2 e2 wi) trivial trivial trivial trivial trivial trivial ?_;exact ⟨(k+1,rg,_),⟨h2,hr⟩,by dsimp only;omega,wkI⟩
 have e2:=ltT h3;have wk:=wiI (i:=k) (by omega);obtain ⟨⟨q1,q2⟩,hq⟩:=a1w (l:=Q) (i:=k) (by rw [hPQ.len];omega);have hmq:((a0W Q).take i)[k]? = some (.agg [i64 q1.n.s,q1.n.w,i64 (mkG (q1.d:Int)).s,(mkG (q1.d:Int)).w,i64 q2.n.s,q2.n.w,i64 (mkG (q2.d:Int)).s,(mkG (q2.d:Int)).w]):=by rw [List.getElem?_take,if_pos h3,List.getElem?_map,hq];rfl
 have etk:((((a0W Q).take k).length:Nat):Int)=(k:Int):=by rw [List.length_take,List.length_map,hPQ.len,Nat.min_eq_left (by omega)]
 have pQk:IsPure (.sl false 8 ((a0W Q).take k)):=by rw [← List.map_take];exact inferInstance
 have cS:=fun (r:Rat) (rg:GF) (hr:FR r rg 600) t ht c n R=>cSide r rg hr i k (p1,p2) (q1,q2) hp hq h2 t ht c 26 n R
 have cC:=fun (r:Rat) (rg:GF) (hr:FR r rg 600) j sg hs n R=>cCen r rg hr i k j (p1,p2) (q1,q2) sg hp hq hs h2 26 n R
 clear cSide cCen;dsimp only at cS cC;refine goI a1s (ff2 e2 kN) hmq trivial trivial trivial trivial trivial ?_;refine OkS.perm (List.Perm.swap _ _ _) ?_;refine OkS.loop (α:=Nat × GF × Nat) (fun p=>⟨[(8,.sl false 8 (a0W Q)),(10,.optr 401 14 4 0 0),(11,.optr 507 26 13 0 0),(16,i64 (i:Int)),(17,.optr 1703 (m+4) 8 0 0),(18,i64 (k:Int)),(19,.optr 2003 (m2+4) 8 0 0),(81,.sl false 8 (a0W Q)),(82,i64 (P.length:Int)),(83,i64 (i:Int)),(90,.sl false 8 ((a0W Q).take i)),(91,i64 (i:Int)),(92,i64 (k:Int)),(102,.sl true 4 [.agg [i64 (mkG 0).s,(mkG 0).w,i64 a1A.s,a1A.w],.agg [i64 (mkG (w:Int)).s,(mkG (w:Int)).w,i64 a1A.s,a1A.w]]),(103,i64 2),(104,i64 (p.1:Int))],[rmE 26 (mkG (w:Int)) (mkG (h:Int)) a1A (a0W Q) p.2.1,⟨2003,m2+4,121,8,[.agg [i64 q1.n.s,q1.n.w,i64 (mkG (q1.d:Int)).s,(mkG (q1.d:Int)).w,i64 q2.n.s,q2.n.w,i64 (mkG (q2.d:Int)).s,(mkG (q2.d:Int)).w]]⟩,⟨1703,m+4,121,8,[.agg [i64 p1.n.s,p1.n.w,i64 (mkG (p1.d:Int)).s,(mkG (p1.d:Int)).w,i64 p2.n.s,p2.n.w,i64 (mkG (p2.d:Int)).s,(mkG (p2.d:Int)).w]]⟩,⟨401,14,113,4,[.agg [i64 (mkG 0).s,(mkG 0).w,i64 a1A.s,a1A.w]]⟩],p.2.2⟩) (fun p=>2 - p.1) (fun p=>p.1≤2∧FR (b3j P w h 0 (a1m P (w:Rat) (h:Rat) i++a3s P (w:Rat) (h:Rat) i k++a4W false (pt P k) (pt P i) w p.1)) p.2.1 600) (0,rg,_) ⟨Nat.zero_le _,by rw [show a4W false (pt P k) (pt P i) w 0=[] from rfl,List.append_nil];exact hr⟩ wkI ?_;rintro ⟨n,rg,m3⟩ F ⟨hn,hr⟩;dsimp only at hn hr ⊢;rcases Nat.lt_or_ge n 2 with h4|h4
 ·have e3:=lt2 n h4
  have wn:=wi2 n h4;have hm2:=hmx n h4;have cs:=cS _ _ hr _ (hxl n w hw) false;rw [← a7j,List.append_assoc] at cs;generalize mkG ((xv n w:Nat):Int)=XG at hm2 cs;refine goI a1s (ff2 e3 kN) hm2 trivial trivial trivial trivial trivial ?_;refine a0l.own _ (a0m.perm (cs _ [_,_,_,_]) (List.Perm.swap _ _ _)) ?_;rintro d H' n' ⟨rg',g1,rfl⟩;refine goI a1s wn trivial trivial trivial trivial trivial trivial ?_;exact ⟨(n+1,rg',_),⟨h4,g1⟩,by dsimp only;omega,wkI⟩
 have e3:=ge2 n h4
 have:n=2:=by omega
 subst this;refine goI a1s e3 trivial trivial trivial trivial trivial trivial ?_;refine OkS.loop (α:=Nat × GF × Nat) (fun p=>⟨[(8,.sl false 8 (a0W Q)),(10,.optr 401 14 4 0 0),(11,.optr 507 26 13 0 0),(16,i64 (i:Int)),(17,.optr 1703 (m+4) 8 0 0),(18,i64 (k:Int)),(19,.optr 2003 (m2+4) 8 0 0),(81,.sl false 8 (a0W Q)),(82,i64 (P.length:Int)),(83,i64 (i:Int)),(90,.sl false 8 ((a0W Q).take i)),(91,i64 (i:Int)),(92,i64 (k:Int)),(119,.sl true 4 [.agg [i64 (mkG 0).s,(mkG 0).w,i64 a1A.s,a1A.w],.agg [i64 (mkG (h:Int)).s,(mkG (h:Int)).w,i64 a1A.s,a1A.w]]),(120,i64 2),(121,i64 (p.1:Int))],[rmE 26 (mkG (w:Int)) (mkG (h:Int)) a1A (a0W Q) p.2.1,⟨2003,m2+4,121,8,[.agg [i64 q1.n.s,q1.n.w,i64 (mkG (q1.d:Int)).s,(mkG (q1.d:Int)).w,i64 q2.n.s,q2.n.w,i64 (mkG (q2.d:Int)).s,(mkG (q2.d:Int)).w]]⟩,⟨1703,m+4,121,8,[.agg [i64 p1.n.s,p1.n.w,i64 (mkG (p1.d:Int)).s,(mkG (p1.d:Int)).w,i64 p2.n.s,p2.n.w,i64 (mkG (p2.d:Int)).s,(mkG (p2.d:Int)).w]]⟩,⟨401,14,113,4,[.agg [i64 (mkG 0).s,(mkG 0).w,i64 a1A.s,a1A.w]]⟩],p.2.2⟩) (fun p=>2 - p.1) (fun p=>p.1≤2∧FR (b3j P w h 0 (a1m P (w:Rat) (h:Rat) i++a3s P (w:Rat) (h:Rat) i k++a4W false (pt P k) (pt P i) w 2++a4W true (pt P k) (pt P i) h p.1)) p.2.1 600) (0,rg,_) ⟨Nat.zero_le _,by rw [show a4W true (pt P k) (pt P i) h 0=[] from rfl,List.append_nil];exact hr⟩ wkI ?_;rintro ⟨n,rg,m4⟩ F ⟨hn,hr⟩;dsimp only at hn hr ⊢;rcases Nat.lt_or_ge n 2 with h4|h4
 ·have e3:=lt2 n h4
  have wn:=wi2 n h4;have hm2:=hmy n h4;have cs:=cS _ _ hr _ (hxl n h hh) true;rw [← a7j,List.append_assoc] at cs;generalize mkG ((xv n h:Nat):Int)=XG at hm2 cs;refine goI a1s (ff2 e3 kN) hm2 trivial trivial trivial trivial trivial ?_;refine a0l.own _ (a0m.perm (cs _ [_,_,_,_]) (List.Perm.swap _ _ _)) ?_;rintro d H' n' ⟨rg',g1,rfl⟩;refine goI a1s wn trivial trivial trivial trivial trivial trivial ?_;exact ⟨(n+1,rg',_),⟨h4,g1⟩,by dsimp only;omega,wkI⟩
 have e3:=ge2 n h4
 have:n=2:=by omega
 subst this;rw [List.append_assoc,b9b] at hr;refine goI a1s (ff5 e3 etk kN Nat.sub_zero (@List.drop_zero D)) trivial trivial trivial trivial trivial trivial ?_;refine OkS.loop (α:=Nat × GF × Nat) (fun p=>⟨[(8,.sl false 8 (a0W Q)),(10,.optr 401 14 4 0 0),(11,.optr 507 26 13 0 0),(16,i64 (i:Int)),(17,.optr 1703 (m+4) 8 0 0),(18,i64 (k:Int)),(19,.optr 2003 (m2+4) 8 0 0),(81,.sl false 8 (a0W Q)),(82,i64 (P.length:Int)),(83,i64 (i:Int)),(90,.sl false 8 ((a0W Q).take i)),(91,i64 (i:Int)),(92,i64 (k:Int)),(133,.sl false 8 ((a0W Q).take k)),(134,i64 (k:Int)),(135,i64 (p.1:Int))],[rmE 26 (mkG (w:Int)) (mkG (h:Int)) a1A (a0W Q) p.2.1,⟨2003,m2+4,121,8,[.agg [i64 q1.n.s,q1.n.w,i64 (mkG (q1.d:Int)).s,(mkG (q1.d:Int)).w,i64 q2.n.s,q2.n.w,i64 (mkG (q2.d:Int)).s,(mkG (q2.d:Int)).w]]⟩,⟨1703,m+4,121,8,[.agg [i64 p1.n.s,p1.n.w,i64 (mkG (p1.d:Int)).s,(mkG (p1.d:Int)).w,i64 p2.n.s,p2.n.w,i64 (mkG (p2.d:Int)).s,(mkG (p2.d:Int)).w]]⟩,⟨401,14,113,4,[.agg [i64 (mkG 0).s,(mkG 0).w,i64 a1A.s,a1A.w]]⟩],p.2.2⟩) (fun p=>k - p.1) (fun p=>p.1≤k∧FR (b3j P w h 0 (a1m P (w:Rat) (h:Rat) i++a3s P (w:Rat) (h:Rat) i k++a4m (pt P k) (pt P i) (w:Rat) (h:Rat)++a3R P i k p.1)) p.2.1 600) (0,rg,_) ⟨Nat.zero_le _,by rw [show a3R P i k 0=[] from rfl,List.append_nil];exact hr⟩ wkI ?_;rintro ⟨j,rg,m5⟩ F ⟨hj,hr⟩;dsimp only at hj hr ⊢;rcases Nat.lt_or_ge j k with h5|h5
 ·have e4:=ltT h5
  have wj:=wiI (i:=j) (by omega);obtain ⟨⟨s1,s2⟩,hs⟩:=a1w (l:=Q) (i:=j) (by rw [hPQ.len];omega);have hms:((a0W Q).take k)[j]? = some (.agg [i64 s1.n.s,s1.n.w,i64 (mkG (s1.d:Int)).s,(mkG (s1.d:Int)).w,i64 s2.n.s,s2.n.w,i64 (mkG (s2.d:Int)).s,(mkG (s2.d:Int)).w]):=by rw [List.getElem?_take,if_pos h5,List.getElem?_map,hs];rfl
  have cs:=cC _ _ hr j (s1,s2) hs;rw [← a7j,List.append_assoc] at cs;dsimp only at cs;refine goI a1s (ff2 e4 kN) hms trivial trivial trivial trivial trivial ?_;refine a0l.own _ (a0m.perm (cs _ [_,_,_,_]) (List.Perm.swap _ _ _)) ?_;rintro d H' n' ⟨rg',g1,rfl⟩;refine goI a1s wj trivial trivial trivial trivial trivial trivial ?_;exact ⟨(j+1,rg',_),⟨h5,g1⟩,by dsimp only;omega,wkI⟩
 have e4:=ltF h5
 have:j=k:=by omega
 subst this;rw [List.append_assoc,List.append_assoc] at hr;refine goI a1s (ff2 e4 wk) trivial trivial trivial trivial trivial trivial ?_;exact ⟨(j+1,rg,_),⟨h3,hr⟩,by dsimp only;omega,wkI⟩
abbrev a1q:Dr:=[(18,[0,1,2,3,4,5,6,7,8,9,10,11,12,13,14,15,16,17,18,19,20,21],[22,23])]
open Go.Proofs Go.RowKit
set_option maxRecDepth 20000
set_option maxHeartbeats 4000000
theorem d4M {α}{l:List α}{i:Nat}{a:α}(f:α→Bool)(h:l[i]? = some a):(l.take (i+1)).any f=((l.take i).any f||f a):=by
 rw [List.take_add_one,h,List.any_append];simp
theorem c1i (bb:Bool)(l:List a0F)(hl:l.length≤100000)(hf:∀ p∈l,p.few)(L W:Int):a0b C0 11 [.sl bb 3 (l.map a0F.D),i64 L,i64 W] (i64 (a2F l L W:Nat)):=by
 refine a0c.walk w1 d3k rfl fun F=>?_
 have el:(((l.map a0F.D).length:Nat):Int)=(l.length:Int):=by rw [List.length_map]
 have cs:=b7D L W;have hC:a2F l L W=if a8b L W then 3 else if l.length=0 then 2 else if 64<l.length then 5 else b5U (prE l L.toNat W.toNat) l.length:=rfl
 have pL:IsPure (.sl bb 3 (l.map a0F.D)):=inferInstance;have e30:((3:Int) != 0)=true:=rfl;have e00:((0:Int) != 0)=false:=rfl;rcases hS:a8b L W with _|_
 rotate_left
 ·rw [hS,if_pos rfl] at hC cs
  rw [hC];refine goI a1q (ff2 el e30) cs trivial trivial trivial trivial trivial ?_;exact a0a rfl IsPure.out
 rw [hS,if_neg (by decide)] at hC cs;rcases Nat.decEq l.length 0 with h0|h0
 rotate_left
 ·rw [if_pos h0] at hC
  rw [hC];have q1:((l.length:Int)==0)=true:=by rw [h0];rfl
  refine goI a1q (ff3 el e00 q1) cs trivial trivial trivial trivial trivial ?_;exact a0a rfl IsPure.out
 rw [if_neg h0] at hC;have q1:((l.length:Int)==0)=false:=beq_eq_false_iff_ne.2 (by omega)
 by_cases h64:64<l.length
 ·rw [if_pos h64] at hC
  rw [hC];have q2:decide ((l.length:Int)>64)=true:=decide_eq_true (by omega);refine goI a1q (ff4 el e00 q1 q2) cs trivial trivial trivial trivial trivial ?_;exact a0a rfl IsPure.out
 rw [if_neg h64] at hC;have q2:decide ((l.length:Int)>64)=false:=decide_eq_false (by omega);obtain ⟨a,b,rfl,rfl,ha,hb,-,-⟩:=b0g hS;rw [Int.toNat_natCast,Int.toNat_natCast] at hC;refine goI a1q (ff4 el e00 q1 q2) cs trivial trivial trivial trivial trivial ?_;refine OkS.loop (α:=Nat × Nat) (fun p=>⟨[(0,.sl bb 3 (l.map a0F.D)),(1,i64 (a:Int)),(2,i64 (b:Int)),(7,i64 (p.1:Int))],[],p.2⟩) (fun p=>l.length - p.1) (fun p=>p.1≤l.length∧∀ j,j<p.1→prE l a b j=0) (0,_) ⟨Nat.zero_le _,fun j hj=>absurd hj (Nat.not_lt_zero j)⟩ wkI ?_;rintro ⟨i,m⟩ F ⟨hi,hz⟩;dsimp only at hi hz ⊢;rcases Nat.lt_or_ge i l.length with h2|h2
 rotate_left
 ·have e1:=ltF h2
  have:i=l.length:=by omega
  subst this;rw [a8f hz] at hC;rw [hC];refine goI a1q (ff2 e1 el) trivial trivial trivial trivial trivial trivial ?_;exact a0a rfl IsPure.out
 have e1:=ltT h2;have wi:=wiI (i:=i) (by omega);obtain ⟨p,hp⟩:=a1w h2;have hm:(l.map a0F.D)[i]? = some (.agg [str (sb p.x),str (sb p.y),i64 p.wt]):=by rw [List.getElem?_map,hp];rfl
 have hpf:=hf p (List.mem_of_getElem? hp);have c1:=c2V p.x hpf.1;have c2:=c2V p.y hpf.2;have hE:prE l a b i=if p.bad a b≠0 then p.bad a b else if (l.take i).any (a5o p) then 9 else 0:=by unfold prE;rw [hp]
 have hB:p.bad a b=if two (chk p.x) (chk p.y)≠0 then two (chk p.x) (chk p.y) else if inR (a:Rat) (b:Rat) p.pt&&wtB p.wt then 0 else 3:=rfl
 have hfst:=fun h=>b8z hz h2 h
 have hab:two (chk p.x) (chk p.y)=0→chk p.x=0∧chk p.y=0:=by unfold two;split<;>omega
 have htw:two (chk p.x) (chk p.y)=if chk p.x≠0 then chk p.x else chk p.y:=rfl
 obtain ⟨K,hK⟩:∃ K,two (chk p.x) (chk p.y)=K:=⟨_,rfl⟩
 obtain ⟨BD,hBD⟩:∃ K,p.bad a b=K:=⟨_,rfl⟩
 obtain ⟨E,hEE⟩:∃ K,prE l a b i=K:=⟨_,rfl⟩
 rw [hK] at htw hB hab;rw [hBD] at hB hE;rw [hEE] at hE hfst;refine goI a1q (ff3 e1 el kN) hm trivial trivial trivial trivial trivial ?_;refine cI c1 ?_
 repeat (first|(refine a0n rfl rfl ?_;refine a1Z (fun _ _=>rfl) ?_)|(refine a0t rfl rfl ?_;refine a1V (fun _ _=>rfl) ?_)|refine a1p rfl rfl rfl (by first|(simp only [];done)|fail) (by exact sdI) (a1Z (fun _ _=>rfl) ?_)|refine a5U rfl rfl rfl (by first|(simp only [];done)|fail) (by exact sdI) ?_|refine a1S rfl rfl rfl (by first|(simp only [];done)|fail) (by exact sdI) (a1V (fun _ _=>rfl) ?_)|refine a5M rfl rfl rfl (by first|(simp only [];done)|fail) (by exact sdI) ?_|(refine a0n rfl rfl ?_;refine a6K rfl rfl rfl (by (try dsimp only);(try simp only []);exact rfl) ?_)|(refine a0n rfl rfl ?_;refine a5f rfl rfl rfl (by (try dsimp only);(try simp only []);exact rfl) ?_)|(refine a1p rfl rfl rfl (by first|(simp only [];done)|fail) (by exact sdI) ?_;refine a6K rfl rfl rfl (by (try dsimp only);(try simp only []);exact rfl) ?_)|(refine a1p rfl rfl rfl (by first|(simp only [];done)|fail) (by exact sdI) ?_;refine a5f rfl rfl rfl (by (try dsimp only);(try simp only []);exact rfl) ?_)|(refine a0t rfl rfl ?_;refine a5R rfl rfl rfl (by (try dsimp only);(try simp only []);exact rfl) ?_)|(refine a1S rfl rfl rfl (by first|(simp only [];done)|fail) (by exact sdI) ?_;refine a5R rfl rfl rfl (by (try dsimp only);(try simp only []);exact rfl) ?_))
 refine stI ?_;refine OkS.seqX (α:=Nat) (fun m=>⟨[(0,.sl bb 3 (l.map a0F.D)),(1,i64 (a:Int)),(2,i64 (b:Int)),(7,i64 (i:Int)),(8,i64 (K:Int))],[],m⟩) (fun _=>True) ?_ ?_
 ·rcases Nat.decEq (chk p.x) 0 with g|g
  ·have g1:=c9O g
   rw [if_pos g] at htw;subst htw;refine goI a1q g1 trivial trivial trivial trivial trivial trivial ?_;exact ⟨by trivial,_,trivial,wkI⟩
  ·have g1:=d1E g
   rw [if_neg (fun h=>h g)] at htw;rw [← htw] at c2;refine goI a1q (ff2 g1 kN) hm c2 trivial trivial trivial trivial ?_;exact ⟨by trivial,_,trivial,wkI⟩
 rintro m1 -;refine OkS.seqX (α:=Nat) (fun m=>⟨[(0,.sl bb 3 (l.map a0F.D)),(1,i64 (a:Int)),(2,i64 (b:Int)),(7,i64 (i:Int)),(8,i64 (BD:Int))],[],m⟩) (fun _=>True) ?_ ?_
 ·rcases Nat.decEq K 0 with g|g
  ·have g1:=c9O g
   rw [if_pos g] at hB;subst hB;refine goI a1q g1 trivial trivial trivial trivial trivial trivial ?_;exact ⟨by trivial,_,trivial,wkI⟩
  have g1:=d1E g;obtain ⟨k1,k2⟩:=hab g;rw [if_neg (fun h=>h g),b7U] at hB;have i1:=b0l (a0D p.x) 600 (a8t k1).rk (by decide) a ha;have i2:=b0l (a0D p.y) 600 (a8t k2).rk (by decide) b hb;rw [a2G k1] at i1;rw [a2G k2] at i2;rw [show p.pt.1=a0D p.x from rfl,show p.pt.2=a0D p.y from rfl] at hB;have hW:wtB p.wt=(!decide (p.wt<1) && !decide (p.wt>999999999)):=by
   unfold wtB;rw [← decide_not,← decide_not]
   congr 1
   ·rw [decide_eq_decide];omega
   ·rw [decide_eq_decide];omega
  rw [hW] at hB;obtain ⟨b1,k1⟩:∃ x,c0r (a0D p.x) a=x:=⟨_,rfl⟩
  obtain ⟨b2,k2⟩:∃ x,c0r (a0D p.y) b=x:=⟨_,rfl⟩
  obtain ⟨b5,k5⟩:∃ x,decide (p.wt<1)=x:=⟨_,rfl⟩
  obtain ⟨b6,k6⟩:∃ x,decide (p.wt>999999999)=x:=⟨_,rfl⟩
  rw [k1] at i1 hB;rw [k2] at i2 hB;rw [k5,k6] at hB;have hcase:b1=false∨(b1=true∧b2=false)∨(b1=true∧b2=true∧b5=true)∨(b1=true∧b2=true∧b5=false∧b6=true)∨(b1=true∧b2=true∧b5=false∧b6=false):=by
   cases b1<;>cases b2<;>cases b5<;>cases b6<;>decide
  rcases hcase with rfl|⟨rfl,rfl⟩|⟨rfl,rfl,rfl⟩|⟨rfl,rfl,rfl,rfl⟩|⟨rfl,rfl,rfl,rfl⟩
  ·rw [show (false&&b2&&(!b5 && !b6))=false from rfl,if_neg (by decide)] at hB
   subst hB;refine goI a1q (ff2 g1 kN) hm i1 trivial trivial trivial trivial ?_;exact ⟨by trivial,_,trivial,wkI⟩
  ·rw [show (true&&false&&(!b5 && !b6))=false from rfl,if_neg (by decide)] at hB
   subst hB;refine goI a1q (ff2 g1 kN) hm i1 i2 trivial trivial trivial ?_;exact ⟨by trivial,_,trivial,wkI⟩
  ·rw [show (true&&true&&(!true && !b6))=false from rfl,if_neg (by decide)] at hB
   subst hB;refine goI a1q (ff3 g1 k5 kN) hm i1 i2 trivial trivial trivial ?_;exact ⟨by trivial,_,trivial,wkI⟩
  ·rw [show (true&&true&&(!false && !true))=false from rfl,if_neg (by decide)] at hB
   subst hB;refine goI a1q (ff4 g1 k5 k6 kN) hm i1 i2 trivial trivial trivial ?_;exact ⟨by trivial,_,trivial,wkI⟩
  ·rw [show (true&&true&&(!false && !false))=true from rfl,if_pos rfl] at hB
   subst hB;subst g;refine goI a1q (ff4 g1 k5 k6 kN) hm i1 i2 trivial trivial trivial ?_;exact ⟨by trivial,_,trivial,wkI⟩
 rintro m2 -;refine OkS.seqX (α:=Nat) (fun m=>⟨[(0,.sl bb 3 (l.map a0F.D)),(1,i64 (a:Int)),(2,i64 (b:Int)),(7,i64 (i:Int)),(8,i64 (E:Int))],[],m⟩) (fun _=>True) ?_ ?_
 ·refine sR 1500 ?_
  refine OkS.block ?_;refine OkS.loopF (α:=Nat × Nat × Nat) (fun q=>⟨[(0,.sl bb 3 (l.map a0F.D)),(1,i64 (a:Int)),(2,i64 (b:Int)),(7,i64 (i:Int)),(8,i64 (q.2.1:Int)),(9,i64 (q.1:Int))],[],q.2.2⟩) (fun q=>i - q.1) (fun q F'=>F'=F∧q.1≤i∧((q.2.1=0∧BD=0∧(l.take q.1).any (a5o p)=false)∨(q.2.1≠0∧q.2.1=E))) (0,BD,_) ⟨rfl,Nat.zero_le _,by
   by_cases g:BD=0
   ·exact .inl ⟨g,g,rfl⟩
   ·exact .inr ⟨g,by rw [hE,if_pos g]⟩⟩ wkI ?_
  rintro ⟨k,e,m3⟩ F' ⟨rfl,hk,hJ⟩;dsimp only at hk hJ ⊢;rcases Nat.lt_or_ge k i with h3|h3
  ·have e2:=ltT h3
   rcases hJ with ⟨rfl,j2,j3⟩|⟨j1,rfl⟩
   ·obtain ⟨y,hy⟩:=a1w (l:=l) (i:=k) (by omega)
    have wk:=wiI (i:=k) (by omega);have hmk:(l.map a0F.D)[k]? = some (.agg [str (sb y.x),str (sb y.y),i64 y.wt]):=by rw [List.getElem?_map,hy];rfl
    have j4:=d4M (a5o p) hy;rw [j3,Bool.false_or] at j4;have s1:=a4O y.x p.x;have s2:=a4O y.y p.y;have hs:a5o p y=(decide (y.x=p.x)&&(decide (y.y=p.y)&&true)):=rfl;have z1:(((0:Nat):Int)==0)=true:=rfl;have hfin:a5o p y=true→E=9:=fun h=>by
     rw [hE,if_neg (fun q=>q j2),if_pos];refine List.any_eq_true.2 ⟨y,?_,h⟩;exact List.mem_of_getElem? (by rw [List.getElem?_take,if_pos h3];exact hy)
    obtain ⟨d1,hd1⟩:∃ x,decide (y.x=p.x)=x:=⟨_,rfl⟩
    obtain ⟨d2,hd2⟩:∃ x,decide (y.y=p.y)=x:=⟨_,rfl⟩
    rw [hd1] at s1 hs;rw [hd2] at s2 hs;cases d1
    ·refine goI a1q (ff6 e2 z1 s1 s2 wk kN) hm hmk trivial trivial trivial trivial ?_
     exact ⟨(k+1,0,_),⟨by trivial,h3,.inl ⟨rfl,j2,by rw [j4,hs];rfl⟩⟩,by dsimp only;omega,wkI⟩
    ·cases d2
     ·refine goI a1q (ff6 e2 z1 s1 s2 wk kN) hm hmk trivial trivial trivial trivial ?_
      exact ⟨(k+1,0,_),⟨by trivial,h3,.inl ⟨rfl,j2,by rw [j4,hs];rfl⟩⟩,by dsimp only;omega,wkI⟩
     ·have h9:=hfin (by rw [hs];rfl)
      refine goI a1q (ff6 e2 z1 s1 s2 wk kN) hm hmk trivial trivial trivial trivial ?_;exact ⟨(k+1,9,_),⟨by trivial,h3,.inr ⟨Nat.succ_ne_zero 8,h9.symm⟩⟩,by dsimp only;omega,wkI⟩
   ·have z1:=c9O j1
    refine goI a1q (ff2 e2 z1) trivial trivial trivial trivial trivial trivial ?_;exact ⟨by trivial,_,trivial,wkI⟩
  ·have e2:=ltF h3
   have:k=i:=by omega
   subst this;have hfin:e=E:=by
    rcases hJ with ⟨rfl,j2,j3⟩|⟨j1,j2⟩
    ·rw [hE,if_neg (fun q=>q j2),j3];rfl
    ·exact j2
   subst hfin;refine goI a1q e2 trivial trivial trivial trivial trivial trivial ?_;exact ⟨by trivial,_,trivial,wkI⟩
 rintro m4 -;rcases Nat.decEq E 0 with g|g
 ·have g1:=c6b g
  rw [hC,hfst g];refine goI a1q g1 trivial trivial trivial trivial trivial trivial ?_;exact a0a rfl IsPure.out
 ·have g1:=c6o g
  refine goI a1q (ff2 g1 wi) trivial trivial trivial trivial trivial trivial ?_;exact ⟨(i+1,_),⟨h2,fun j hj=>by
   rcases Nat.lt_or_ge j i with q|q
   ·exact hz j q
   ·have:j=i:=by dsimp only at hj;omega
    subst this;exact hEE.trans g⟩,by dsimp only;omega,wkI⟩
def evB (tt:Nat→Option a0k)(n k:Nat)(g:Operand→D):Op→Option (D × Ent × Prop)
 | .buildSlice t len ps=>match tt t with
  | some i=>match i.ti with
   | .slice e esz _ _=>match len with
    | 0=>none
    | len+1=>match tt e with
     | some ie=>match a2W g 0 ps.toList with
      | some es=>some (.osl k n esz 0 (len+1),⟨k,n,e,esz,es⟩,b0Z ie.ag esz es∧es.length=len+1∧Nat.ble ((len+1)*esz) 16777216=true∧Nat.ble 1 esz=true)
      | none=>none
     | none=>none
   | _=>none
  | none=>none
 | _=>none
section
variable {C:Ctx} {F B:Fra} {rd:Option Nat} {s:St} {ops:Array Oper} {o:Oper} {os:List Oper} {K:St→Prop} {ρ:Lk} {H:Hp} {w:World} {Q:Exit→Fra→St→Prop} {X:EV}
theorem c0Z {tt:Nat→Option a0k}{g:Operand→D}{ev:Operand→Value}{n k:Nat}{d:D}{e':Ent}{p:Prop}(htt:Tab C.P tt)(m:Mem C F ρ H w)(fr:∀ k,ρ k n=none)(hlt:∀ e∈H,e.g≠n)
  (hg:∀ x,Rep ρ (Own F.X ρ H) w (g x) (ev x)) (h:evB tt n k g o.op=some (d,e',p)) (hp:p) :
  ∃ v ρ' w',(execOp ev o).run C.P w=.ok (.value v) w'∧a7G C F H ρ w n d (some e') v ρ' w':=by
 unfold evB at h;split at h<;>first|(cases h;done)|skip
 rename_i t len ps ho;split at h<;>first|(cases h;done)|skip
 rename_i i hi;have ht:=htt _ _ hi;split at h<;>first|(cases h;done)|skip
 rename_i e esz eby ez hk;split at h<;>first|(cases h;done)|skip
 rename_i len;split at h<;>first|(cases h;done)|skip
 rename_i ie hie;split at h<;>first|(cases h;done)|skip
 rename_i es hes;simp only [Option.some.injEq,Prod.mk.injEq] at h;obtain ⟨rfl,rfl,rfl⟩:=h;obtain ⟨p1,p2,p3,p4⟩:=hp;have p3:=Nat.le_of_ble_eq_true p3;have p4:=Nat.le_of_ble_eq_true p4;obtain ⟨vs',f1,f2,f3,f4⟩:=b2J (ρ:=ρ) (w:=w) (O:=Own F.X ρ H) hg ps.toList 0 es ((Array.range ((len+1)*esz)).map (fun j=>(if (len+1)*esz=0 then #[] else ez.cells)[j%(if (len+1)*esz=0 then #[] else ez.cells).size]!)) hes
  (a6f p1) (by simp [p2])
 have run:=a3k (C:=C) (w:=w) (len:=len+1) (parts:=ps.map fun (i,x)=>(i,ev x)) (cells:=vs') ht hk p3 (by rw [← f1];simp);have hsz:vs'.size=(len+1)*esz:=by rw [f2];simp
 have hok:a2h ρ (Own F.X ρ H) w ⟨k,n,e,esz,es⟩ vs':=by
  refine ⟨by dsimp only;rw [p2,hsz];exact Nat.le_refl _,fun q d hd=>(f4 q d hd).1,fun j v hv=>?_,fun q d j c hd hc=>?_⟩
  ·have hj:j<(len+1)*esz:=by have:=(Array.getElem?_eq_some_iff.1 hv).1;omega
   have hq:j / esz<es.length:=by rw [p2];exact (Nat.div_lt_iff_lt_mul (by omega)).2 hj
   have:=(f4 (j / esz) _ (List.getElem?_eq_getElem hq)).2.2 (j%esz) (Nat.mod_lt _ (by omega))
   rw [Nat.zero_add,Nat.div_add_mod'] at this;rw [Array.getD_eq_getD_getElem?,hv] at this;exact this
  ·have:=(f4 q d hd).2.1 j c hc
   rw [Nat.zero_add] at this;exact this
 obtain ⟨m1,x1⟩:=m.alloc ⟨k,n,e,esz,es⟩ vs' (fr k) (fun e he hh=>hlt e he hh.2) hok;refine ⟨.slice (some ⟨w.heap.size,0,none⟩) (len+1) (len+1),ρ.put k n w.heap.size,_,?_,m1,x1,fun k' g' hg=>by unfold Lk.put;rw [if_neg fun h=>hg h.2],?_⟩
 ·unfold execOp
  simp only [ho];rw [run_bind,run];rfl
 ·exact Rep.osl0 (b:=w.heap.size) (T:=e) (fz:=(0,0)) (Lk.put_same _ _ _ _) (by rw [a0w];exact if_pos rfl) (Nat.le_refl _) (by rw [hsz]) (by simp only [maxLen];have:=Nat.le_mul_of_pos_right (len+1) p4;omega)
theorem c4N {tt:Nat→Option a0k}{n k:Nat}{g:Operand→D}{op:Op}{d:D}{e:Ent}{p:Prop}(h:evB tt n k g op=some (d,e,p)):e.g=n:=by
 unfold evB at h
 (repeat' split at h)<;>first|(cases h;done)|(cases h;rfl)
theorem OkL.bs {tt:Nat→Option a0k}(k:Nat)(htt:Tab C.P tt){d:D}{e':Ent}{p:Prop}(hw:a0M ops s.env o=some true)(he:evB tt s.n k (a1d s.env) o.op=some (d,e',p))(hp:p)
  (h:OkL C F ops os ⟨a1L s.env o.dst d,e'::s.H,s.n+1⟩ K):OkL C F ops (o::os) s K :=
 OkL.step hw (fun ρ a w hs=>by
  obtain ⟨v,ρ',w',h1,h2⟩:=c0Z htt hs.mem (fun k=>hs.fresh k _ (Nat.le_refl _)) (fun e he=>Nat.ne_of_lt (hs.gen e he)) (a0P hs.env) he hp;refine ⟨v,ρ',w',.inl h1,⟨h2.mem,h2.ext,fun k g hg=>by rw [h2.far k g (by omega)];exact hs.fresh k g (by omega),h2.rep⟩,fun e he2=>?_⟩;rcases List.mem_cons.1 he2 with rfl|he2
  ·have:=c4N he;omega
  ·exact Nat.lt_succ_of_lt (hs.gen e he2)) h
def d1G (C:Ctx)(X:EV)(F:Fra)(kb:Nat)(ops:Array Oper)(io:Nat)(l2:List Nat)(Q:Exit→Fra→St→Prop)(s:St):Prop:=match a8i ops.toList io with
 | some o=>match o.guard with
  | none=>match evB X.tt s.n (kb+io) (a1d s.env) o.op with
   | some (d,e,p)=>p∧a1R C X kb ops l2 ⟨a1L s.env o.dst d,e::s.H,s.n+1⟩ True fun acc s=>acc∧Q .normal F s
   | none=>False
  | some _=>False
 | none=>False
theorem c3Y {kb io:Nat}{l2:List Nat}(hX:WOk C X)(h:d1G C X F kb ops io l2 Q s):OkL C F ops ((io::l2).map fun j=>ops.getD j default) s (Q .normal F):=by
 unfold d1G at h;split at h<;>first|exact h.elim|skip
 rename_i o ho;split at h<;>first|exact h.elim|skip
 rename_i hgd;split at h<;>first|exact h.elim|skip
 rename_i d e p he;have e1:ops.getD io default=o:=by rw [Array.getD_eq_getD_getElem?,a3D ho];rfl
 rw [List.map_cons,e1];exact OkL.bs _ hX.tt (by unfold a0M;rw [hgd]) he h.1 (a1i (F:=F) (K':=Q .normal F) hX (fun acc s h=>h) h.2).2
theorem OkS.regOwn {i:Nat}(hX:WOk C X)(kb:Nat)(l1:List Nat)(io:Nat)(l2:List Nat)(hl:List.range ops.size=l1++io::l2)(hnd:a3x ops.toList=true)
  (h:a1R C X kb ops l1 s True fun acc s1=>acc∧d1G C X F kb ops io l2 Q s1):OkS C B rd F (.region i ops false) s Q:=by
 refine ⟨fun hB hd ρ a w hs=>wpIn_region ?_⟩;rw [hl];have hlt:∀ j∈l1++io::l2,j<ops.size:=fun j hj=>by rw [← hl] at hj;exact List.mem_range.1 hj
 have h1:=(a1i (F:=F) (K':=d1G C X F kb ops io l2 Q) hX (fun acc s h=>h) h).2.run (fun j hj=>hlt j (by simp [hj])) (a2P hB hd) hs;refine a1j (rd:=rd) (Q:=a3V C B Q) (l2:=io::l2) (fun e a w h=>?_) (a1T hnd) _ a w h1;obtain ⟨h0,s1,ρ1,k1,k2⟩:=h;refine ⟨h0,?_⟩;have h3:=(c3Y (F:=F) hX k1).run (fun j hj=>hlt j (List.mem_append_right _ hj)) (a2P hB hd) k2
 have:=a1j (rd:=rd) (Q:=a3V C B Q) (l2:=[]) (fun _ _ _ h=>a3c hB (fun _ h=>h) h) (a1T hnd) _ _ _ h3
 rwa [List.append_nil] at this
end
abbrev b0I:Dr:=[(1,[0,1,2,3,4,5,6,7,8,9],[10,11]),(5,[0,1,2,3,4,5,6,7,8,9,10,11],[12,13])]
abbrev b4o:Dr:=[(3,[0,1,2,3,4,5,6,7,8,9,10,11,12,13,14,15,16,17,18,19],[20,21,22,23])]
open Go.Proofs Go.RowKit
set_option maxRecDepth 20000
set_option maxHeartbeats 8000000
theorem a7I:rR 0=str ⟨#[48]⟩:=by
 have h:a0D [48]=0:=by kernel_rfl
 rw [← h,a2G (by kernel_rfl)];all_goals rfl
theorem c2J:rR 2=str ⟨#[50]⟩:=by
 have h:a0D [50]=2:=by kernel_rfl
 rw [← h,a2G (by kernel_rfl)];all_goals rfl
theorem a9m:rk 2 1:=(b1S 2 (by decide))
theorem c5n {a:Pnt}{l:List Pnt}{m:Rat}{k:Nat}(hm:rk m k)(h:∀ p∈l,rk (d2 a p) k):rk (a0U a l m) k:=by
 rcases b0a a l m with e|⟨p,hp,e⟩<;>rw [e]
 ·exact hm
 ·exact h p hp
structure b9L (l:List a0F):Prop where
 pos:0<l.length
 most:l.length≤64
 sh:c8x l
 ck:∀ p∈l,chk p.x=0∧chk p.y=0
theorem b9L.rk {l:List a0F}(h:b9L l){p:a0F}(hp:p∈l):rk (a0D p.x) 3∧rk (a0D p.y) 3:=⟨(b4M (h.ck p hp).1 (h.sh p hp).1).rk,(b4M (h.ck p hp).2 (h.sh p hp).2).rk⟩
theorem b4A {l:List a0F}{i:Nat}{p:a0F}(h:l[i]? = some p):pt (a1y l) i=p.pt:=c8r (by unfold a1y;rw [List.getElem?_map,h];rfl)
theorem d0W {x y u v:Rat}{k:Nat}(hx:rk x k)(hy:rk y k)(hu:rk u 3)(hv:rk v 3):rk (d2 (x,y) (u,v)) (4*(k+4)+1):=by
 have a:=a1E hx hu;have b:=a1E hy hv;exact (a5Q (a0y a a) (a0y b b)).mono (by omega)
theorem c4f (x y u v:Rat)(k:Nat)(hx:rk x k)(hy:rk y k)(hu:rk u 3)(hv:rk v 3)(hk:k≤500):a0b C0 128 [rR x,rR y,rR u,rR v] (rR (d2 (x,y) (u,v))):=by
 refine a0c.walk w1 c7e rfl fun F=>?_
 have a:=a1E hx hu;have b:=a1E hy hv;have c1:=b5W x u k 3 hx hu (by omega);have c2:=b5W y v k 3 hy hv (by omega);have c3:=b2e _ _ _ _ a a (by omega);have c4:=b2e _ _ _ _ b b (by omega);have c5:=d1u _ _ _ _ (a0y a a) (a0y b b) (by omega);rw [show (x - u)*(x - u)+(y - v)*(y - v)=d2 (x,y) (u,v) from rfl] at c5;unfold rR at *;refine goI dr0 kB c1 c2 c3 c4 c5 trivial ?_;exact a0a rfl IsPure.out
theorem c0u (bb:Bool)(l:List a0F)(hl:b9L l)(x y:Rat)(k:Nat)(hx:rk x k)(hy:rk y k)(hk:k≤500):a0b C0 64 [.sl bb 3 (l.map a0F.D),rR x,rR y] (rR (a8O (a1y l) (x,y))):=by
 refine a0c.walk w1 d2B rfl fun F=>?_
 have el:(((l.map a0F.D).length:Nat):Int)=(l.length:Int):=by rw [List.length_map]
 have pL:IsPure (.sl bb 3 (l.map a0F.D)):=inferInstance;have hPl:(a1y l).length=l.length:=List.length_map ..;have hl0:=hl.pos;have hl64:=hl.most;have csq:=fun (p:a0F) (hp:p∈l)=>c4f x y (a0D p.x) (a0D p.y) k hx hy (hl.rk hp).1 (hl.rk hp).2 hk
 have ksq:=fun (p:a0F) (hp:p∈l)=>d0W hx hy (hl.rk hp).1 (hl.rk hp).2
 have hpts:∀ q∈a1y l,rk (d2 (x,y) q) (4*(k+4)+1):=fun q hq=>by
  obtain ⟨p,hp,rfl⟩:=List.mem_map.1 hq;exact ksq p hp
 obtain ⟨p0,hp0⟩:=a1w (l:=l) (i:=0) (by omega);have hm0:(l.map a0F.D)[0]? = some (.agg [str (sb p0.x),str (sb p0.y),i64 p0.wt]):=by rw [List.getElem?_map,hp0];rfl
 have hmem0:=List.mem_of_getElem? hp0;have c0:=csq p0 hmem0;rw [a2G (hl.ck p0 hmem0).1,a2G (hl.ck p0 hmem0).2] at c0;have e0:pt (a1y l) 0=p0.pt:=b4A hp0;have hst:d2 (x,y) (a0D p0.x,a0D p0.y)=a0U (x,y) ((a1y l).take 1) (d2 (x,y) (pt (a1y l) 0)):=by
  rw [a7z (by omega),e0];show _=if d2 (x,y) p0.pt<d2 (x,y) p0.pt then _ else d2 (x,y) p0.pt
  rw [if_neg (Rat.lt_irrefl)];rfl
 rw [hst] at c0;have hnr:a8O (a1y l) (x,y)=a0U (x,y) (a1y l) (d2 (x,y) (pt (a1y l) 0)):=rfl;rw [hnr];have hm00:rk (d2 (x,y) (pt (a1y l) 0)) (4*(k+4)+1):=by rw [e0];exact ksq p0 hmem0
 generalize hM:d2 (x,y) (pt (a1y l) 0)=M0 at *;refine goI b0I (ff3 el kN Int.toNat_zero) hm0 c0 trivial trivial trivial trivial ?_;refine OkS.loop (α:=Nat × Nat) (fun p=>⟨[(0,.sl bb 3 (l.map a0F.D)),(1,rR x),(2,rR y),(7,rR (a0U (x,y) ((a1y l).take p.1) M0)),(8,i64 (p.1:Int))],[],p.2⟩) (fun p=>l.length - p.1) (fun p=>p.1≤l.length) (1,_) hl0 wkI ?_;rintro ⟨i,m⟩ F hi;dsimp only at hi ⊢;rcases Nat.lt_or_ge i l.length with h2|h2
 ·have e1:=ltT h2
  have wi:=wiI (i:=i) (by omega);obtain ⟨p,hp⟩:=a1w h2;have hm:(l.map a0F.D)[i]? = some (.agg [str (sb p.x),str (sb p.y),i64 p.wt]):=by rw [List.getElem?_map,hp];rfl
  have hmem:=List.mem_of_getElem? hp;have cq:=csq p hmem;rw [a2G (hl.ck p hmem).1,a2G (hl.ck p hmem).2] at cq;have ep:pt (a1y l) i=p.pt:=b4A hp;have hnx:=a7z (a:=(x,y)) (P:=a1y l) (i:=i) (by omega) M0;rw [ep] at hnx;have kr:=c5n (a:=(x,y)) (l:=(a1y l).take i) hm00 fun q hq=>hpts q (List.mem_of_mem_take hq)
  have cc:=d2K _ _ _ _ (ksq p hmem) kr (by omega);rw [show d2 (x,y) (a0D p.x,a0D p.y)=d2 (x,y) p.pt from rfl] at cq cc;have hc:=@c9J (d2 (x,y) p.pt) (a0U (x,y) ((a1y l).take i) M0);generalize a0U (x,y) ((a1y l).take i) M0=V at *;generalize d2 (x,y) p.pt=U at *
  by_cases g:U<V
  ·have e2:decide (a4z U V<0)=true:=decide_eq_true (hc.2 g)
   rw [if_pos g] at hnx;refine goI b0I (ff5 e1 el e2 wi kN) hm cq cc trivial trivial trivial ?_;exact ⟨(i+1,_),h2,by dsimp only;omega,by (dsimp only;rw [hnx];exact wkI)⟩
  ·have e2:decide (a4z U V<0)=false:=decide_eq_false (fun q=>g (hc.1 q))
   rw [if_neg g] at hnx;refine goI b0I (ff5 e1 el e2 wi kN) hm cq cc trivial trivial trivial ?_;exact ⟨(i+1,_),h2,by dsimp only;omega,by (dsimp only;rw [hnx];exact wkI)⟩
 ·have e1:=ltF h2
  have:i=l.length:=by omega
  subst this;have hfin:(a1y l).take l.length=a1y l:=by rw [← hPl,List.take_length]
  rw [hfin];refine goI b0I (ff2 e1 el) trivial trivial trivial trivial trivial trivial ?_;exact a0a rfl IsPure.out
theorem d4X (p q:a0F)(hp:rk (a0D p.x) 3∧rk (a0D p.y) 3)(hq:rk (a0D q.x) 3∧rk (a0D q.y) 3)(cp:chk p.x=0∧chk p.y=0)(cq:chk q.x=0∧chk q.y=0):a0b C0 126 [p.D,q.D] (.tup [rR (bA p.pt q.pt),rR (bB p.pt q.pt),rR (bC p.pt q.pt)]):=by
 refine a0c.walk w1 c9e rfl fun F=>?_
 have c1:=b5W (a0D q.x) (a0D p.x) 3 3 hq.1 hp.1 (by decide);have c2:=b2e 2 _ 1 _ a9m (a1E hq.1 hp.1) (by decide);have c3:=b5W (a0D q.y) (a0D p.y) 3 3 hq.2 hp.2 (by decide);have c4:=b2e 2 _ 1 _ a9m (a1E hq.2 hp.2) (by decide);have c5:=b2e (a0D q.x) _ 3 3 hq.1 hq.1 (by decide);have c6:=b2e (a0D q.y) _ 3 3 hq.2 hq.2 (by decide);have c7:=d1u _ _ _ _ (a0y hq.1 hq.1) (a0y hq.2 hq.2) (by decide);have c8:=b2e (a0D p.x) _ 3 3 hp.1 hp.1 (by decide);have c9:=b2e (a0D p.y) _ 3 3 hp.2 hp.2 (by decide);have c10:=d1u _ _ _ _ (a0y hp.1 hp.1) (a0y hp.2 hp.2) (by decide);have c11:=b5W _ _ _ _ (a5Q (a0y hq.1 hq.1) (a0y hq.2 hq.2)) (a5Q (a0y hp.1 hp.1) (a0y hp.2 hp.2)) (by decide);rw [show a0D q.x*a0D q.x+a0D q.y*a0D q.y - (a0D p.x*a0D p.x+a0D p.y*a0D p.y)=bC p.pt q.pt from rfl] at c11;rw [show 2*(a0D q.x - a0D p.x)=bA p.pt q.pt from rfl,c2J] at c2;rw [show 2*(a0D q.y - a0D p.y)=bB p.pt q.pt from rfl,c2J] at c4;rw [a2G cp.1,a2G cq.1] at c1;rw [a2G cp.2,a2G cq.2] at c3;rw [a2G cq.1] at c5;rw [a2G cq.2] at c6;rw [a2G cp.1] at c8;rw [a2G cp.2] at c9;generalize bA p.pt q.pt=A at *;generalize bB p.pt q.pt=B at *;generalize bC p.pt q.pt=CC at *;unfold a0F.D;unfold rR at *;refine goI b4o kB c1 c2 c3 c4 c5 c6 ?_;refine goI b4o kB c7 c8 c9 c10 c11 trivial ?_;exact a0a rfl IsPure.out
abbrev a1C:Dr:=[(9,[0,1,2,3,4,5,6,7,8,9,10,11,12,13,14],[15]),(25,[0,1,2,3,4,5,6,7,8,9,10,11,12,13,14],[15])]
open Go.Proofs Go.RowKit
set_option maxRecDepth 20000
set_option maxHeartbeats 8000000
def c3I (z:Pnt):D:=.agg [rR z.1,rR z.2]
instance  (z:Pnt):CellsPure (c3I z):=by unfold c3I rR;exact inferInstance
instance  (z:Pnt):IsPure (c3I z):=by unfold c3I rR;exact inferInstance
abbrev a0V (l:List Pnt):List D:=l.map c3I
theorem b7T (c:Bool)(p q:Pnt)(t:Rat):(a8X c p q t).length≤1:=by
 cases c<;>simp only [a8X,b1P,b2o]<;>split<;>simp
theorem a8x (c:Bool)(p q:Pnt)(w:Nat):∀ n,(a4W c p q w n).length≤n
 | 0=>Nat.le_refl _
 | n+1=>by
  unfold a4W;rw [List.length_append]
  have:=a8x c p q w n
  have:=b7T c p q ((xv n w:Nat):Rat)
  omega
theorem b3q (P:List Pnt)(i k:Nat):∀ n,(a3R P i k n).length≤n
 | 0=>Nat.le_refl _
 | n+1=>by
  unfold a3R;rw [List.length_append]
  have:=b3q P i k n
  have h:∀ p q s,(b5q p q s).length≤1:=fun p q s=>by unfold b5q;split<;>simp
  have:=h (pt P k) (pt P i) (pt P n)
  omega
theorem b1w (p q:Pnt)(w h:Nat):(a4m p q (w:Rat) (h:Rat)).length≤4:=by
 rw [← b9b,List.length_append]
 have:=a8x false p q w 2
 have:=a8x true p q h 2
 omega
theorem b9r (P:List Pnt)(w h i:Nat):∀ n,n≤64→(a3s P (w:Rat) (h:Rat) i n).length≤n*68
 | 0,_=>Nat.le_refl _
 | n+1,hn=>by
  unfold a3s;rw [List.length_append,List.length_append]
  have:=b9r P w h i n (by omega)
  have:=b1w (pt P n) (pt P i) w h
  have:=b3q P i n n
  omega
theorem b3l (P:List Pnt)(w h:Nat):∀ n,n≤64→(a1m P (w:Rat) (h:Rat) n).length≤4+n*4352
 | 0,_=>Nat.le_refl _
 | n+1,hn=>by
  unfold a1m;rw [List.length_append]
  have:=b3l P w h n (by omega)
  have:=b9r P w h n n (by omega)
  omega
theorem c8o (n v:Nat)(hv:v≤100000):rk ((xv n v:Nat):Rat) 1:=b1S _ (by cases n<;>simp only [xv]<;>omega)
theorem d0q {p q:a0F}(hp:rk (a0D p.x) 3)(hq:rk (a0D q.x) 3):rk (bA p.pt q.pt) 8:=a0y a9m (a1E hq hp)
theorem c6C {p q:a0F}(hp:rk (a0D p.y) 3)(hq:rk (a0D q.y) 3):rk (bB p.pt q.pt) 8:=a0y a9m (a1E hq hp)
theorem d0s {p q:a0F}(hp:rk (a0D p.x) 3∧rk (a0D p.y) 3)(hq:rk (a0D q.x) 3∧rk (a0D q.y) 3):rk (bC p.pt q.pt) 27:=a1E (a5Q (a0y hq.1 hq.1) (a0y hq.2 hq.2)) (a5Q (a0y hp.1 hp.1) (a0y hp.2 hp.2))
theorem c8M (bb:Bool)(l:List a0F)(hl:b9L l)(w h:Nat)(hw:w≤100000)(hh:h≤100000):a0b C0 63 [.sl bb 3 (l.map a0F.D),i64 (w:Int),i64 (h:Int)] (.sl false 2 (a0V (a3U (a1y l) (w:Rat) (h:Rat)))):=by
 refine a0c.walk w1 d2W rfl fun F=>?_
 have el:(((l.map a0F.D).length:Nat):Int)=(l.length:Int):=by rw [List.length_map]
 have pL:IsPure (.sl bb 3 (l.map a0F.D)):=inferInstance;have hPl:(a1y l).length=l.length:=List.length_map ..;have hl64:=hl.most;have cw:=b9t w hw;have ch:=b9t h hh;have cbis:=fun i k (p q:a0F) (hp:l[i]? = some p) (hq:l[k]? = some q)=>d4X p q (hl.rk (List.mem_of_getElem? hp)) (hl.rk (List.mem_of_getElem? hq)) (hl.ck p (List.mem_of_getElem? hp)) (hl.ck q (List.mem_of_getElem? hq))
 have hspot:a3U (a1y l) (w:Rat) (h:Rat)=a1m (a1y l) (w:Rat) (h:Rat) l.length:=by unfold a3U;rw [hPl]
 rw [hspot];have h00:a0V (a1m (a1y l) (w:Rat) (h:Rat) 0)=[.agg [rR 0,rR 0],.agg [rR 0,rR (h:Rat)],.agg [rR (w:Rat),rR 0],.agg [rR (w:Rat),rR (h:Rat)]]:=rfl;rw [a7I] at h00;have hall:=fun n hn=>b3l (a1y l) w h n hn
 have hpr:=fun i n hn=>b9r (a1y l) w h i n hn
 obtain ⟨P,hP⟩:∃ P,a1y l=P:=⟨_,rfl⟩
 have hpt:∀ i p,l[i]? = some p→pt P i=p.pt:=fun i p hp=>by rw [← hP];exact b4A hp
 rw [hP] at hPl h00 hall hpr ⊢;refine sR 0 ?_;refine sZ 100 ?_
 repeat (first|(refine a0n rfl rfl ?_;refine a1Z (fun _ _=>rfl) ?_)|(refine a0t rfl rfl ?_;refine a1V (fun _ _=>rfl) ?_)|refine a1p rfl rfl rfl (by first|(simp only [];done)|fail) (by exact sdI) (a1Z (fun _ _=>rfl) ?_)|refine a5U rfl rfl rfl (by first|(simp only [];done)|fail) (by exact sdI) ?_|refine a1S rfl rfl rfl (by first|(simp only [];done)|fail) (by exact sdI) (a1V (fun _ _=>rfl) ?_)|refine a5M rfl rfl rfl (by first|(simp only [];done)|fail) (by exact sdI) ?_|(refine a0n rfl rfl ?_;refine a6K rfl rfl rfl (by (try dsimp only);(try simp only []);exact rfl) ?_)|(refine a0n rfl rfl ?_;refine a5f rfl rfl rfl (by (try dsimp only);(try simp only []);exact rfl) ?_)|(refine a1p rfl rfl rfl (by first|(simp only [];done)|fail) (by exact sdI) ?_;refine a6K rfl rfl rfl (by (try dsimp only);(try simp only []);exact rfl) ?_)|(refine a1p rfl rfl rfl (by first|(simp only [];done)|fail) (by exact sdI) ?_;refine a5f rfl rfl rfl (by (try dsimp only);(try simp only []);exact rfl) ?_)|(refine a0t rfl rfl ?_;refine a5R rfl rfl rfl (by (try dsimp only);(try simp only []);exact rfl) ?_)|(refine a1S rfl rfl rfl (by first|(simp only [];done)|fail) (by exact sdI) ?_;refine a5R rfl rfl rfl (by (try dsimp only);(try simp only []);exact rfl) ?_))
 refine stI ?_;refine a0l.same _ cw inferInstance ?_;refine stI ?_;refine a0l.same _ ch inferInstance ?_;refine stI ?_;refine OkS.seq ?_;refine OkS.regOwn w1 1403 [0,1,2,3,4,5,6,7] 8 [9] rfl (by kernel_rfl) ?_;refine stI ?_;refine And.intro ⟨⟨a0Q.agg,a0Q.agg,a0Q.agg,a0Q.agg⟩,rfl,rfl,rfl⟩ ?_;refine stI ?_;refine goI a1C kB trivial trivial trivial trivial trivial trivial ?_;have hx2:∀ n v,n<2→[(str ⟨#[48]⟩:D),rR ((v:Nat):Rat)][n]? = some (rR ((xv n v:Nat):Rat)):=fun n v hn=>by
  rcases n with _|_|n
  ·show some (str ⟨#[48]⟩)=some (rR ((0:Nat):Rat))
   rw [a3E,a7I]
  ·rfl
  ·omega
 have lt2:∀ n:Nat,n<2→decide ((n:Int)<2)=true:=fun n hn=>decide_eq_true (by omega)
 have ge2:∀ n:Nat,2≤n→decide ((n:Int)<2)=false:=fun n hn=>decide_eq_false (by omega)
 have wi2:∀ n:Nat,n<2→IntKind.i64.wrap ((n:Int)+1)=((n+1:Nat):Int):=fun n hn=>wiI (by omega)
 refine OkS.loop (α:=Nat × Nat × Nat × Nat) (fun p=>⟨[(0,.sl bb 3 (l.map a0F.D)),(7,rR (w:Rat)),(8,rR (h:Rat)),(9,.osl p.2.1 p.2.2.1 2 0 (a0V (a1m P (w:Rat) (h:Rat) p.1)).length),(10,i64 (p.1:Int))],[⟨p.2.1,p.2.2.1,129,2,a0V (a1m P (w:Rat) (h:Rat) p.1)⟩],p.2.2.2⟩) (fun p=>l.length - p.1) (fun p=>p.1≤l.length) (0,_,_,_) (Nat.zero_le _) (by (dsimp only;rw [h00];exact wkI)) ?_;rintro ⟨i,kk,gg,m⟩ F hi;dsimp only at hi ⊢;have hLi:=hall i (by omega);refine OkS.rekey [(0,.sl bb 3 (l.map a0F.D)),(7,rR (w:Rat)),(8,rR (h:Rat)),(9,.osl 1411 m 2 0 (a0V (a1m P (w:Rat) (h:Rat) i)).length),(10,i64 (i:Int))] ⟨.inl rfl,.inl rfl,.inl rfl,.inr ⟨_,_,_,rfl,rfl⟩,.inl rfl,trivial⟩ ?_;rcases Nat.lt_or_ge i l.length with h2|h2
 rotate_left
 ·have e1:=ltF h2
  have:i=l.length:=by omega
  subst this;have pS:IsPure (.sl false 2 (a0V (a1m P (w:Rat) (h:Rat) l.length))):=inferInstance;generalize a0V (a1m P (w:Rat) (h:Rat) l.length)=L at *;refine goI a1C (ff2 e1 el) trivial trivial trivial trivial trivial trivial ?_;exact ⟨_,a9u _ _ _ _ L,IsPure.out,rfl⟩
 have e1:=ltT h2;have wi:=wiI (i:=i) (by omega);refine goI a1C (ff2 e1 el) trivial trivial trivial trivial trivial trivial ?_;refine OkS.loop (α:=Nat × Nat × Nat × Nat) (fun p=>⟨[(0,.sl bb 3 (l.map a0F.D)),(7,rR (w:Rat)),(8,rR (h:Rat)),(10,i64 (i:Int)),(11,i64 (p.1:Int)),(9,.osl p.2.1 p.2.2.1 2 0 (a0V (a1m P (w:Rat) (h:Rat) i++a3s P (w:Rat) (h:Rat) i p.1)).length)],[⟨p.2.1,p.2.2.1,129,2,a0V (a1m P (w:Rat) (h:Rat) i++a3s P (w:Rat) (h:Rat) i p.1)⟩],p.2.2.2⟩) (fun p=>i - p.1) (fun p=>p.1≤i) (0,_,_,_) (Nat.zero_le _) (by (dsimp only;rw [show a3s P (w:Rat) (h:Rat) i 0=[] from rfl,List.append_nil];exact wkI)) ?_;rintro ⟨k,kk2,g2,m2⟩ F hk;dsimp only at hk ⊢;refine OkS.rekey [(0,.sl bb 3 (l.map a0F.D)),(7,rR (w:Rat)),(8,rR (h:Rat)),(10,i64 (i:Int)),(11,i64 (k:Int)),(9,.osl 1411 m2 2 0 (a0V (a1m P (w:Rat) (h:Rat) i++a3s P (w:Rat) (h:Rat) i k)).length)] ⟨.inl rfl,.inl rfl,.inl rfl,.inl rfl,.inl rfl,.inr ⟨_,_,_,rfl,rfl⟩,trivial⟩ ?_;rcases Nat.lt_or_ge k i with h3|h3
 rotate_left
 ·have e2:=ltF h3
  have:k=i:=by omega
  subst this;refine goI a1C (ff2 e2 wi) trivial trivial trivial trivial trivial trivial ?_;exact ⟨(k+1,_,_,_),h2,by dsimp only;omega,wkI⟩
 have e2:=ltT h3;have wk:=wiI (i:=k) (by omega);obtain ⟨q,hq⟩:=a1w h2;obtain ⟨p,hp⟩:=a1w (l:=l) (i:=k) (by omega);have hmi:(l.map a0F.D)[i]? = some (.agg [str (sb q.x),str (sb q.y),i64 q.wt]):=by rw [List.getElem?_map,hq];rfl
 have hmk:(l.map a0F.D)[k]? = some (.agg [str (sb p.x),str (sb p.y),i64 p.wt]):=by rw [List.getElem?_map,hp];rfl
 have ca:=cbis k i p q hp hq;have kq:=hl.rk (List.mem_of_getElem? hq);have kp:=hl.rk (List.mem_of_getElem? hp);have kA:=d0q kp.1 kq.1;have kB:=c6C kp.2 kq.2;have kC:=d0s kp kq;have hsx:∀ t:Rat,a8X false (pt P k) (pt P i) t=if bB p.pt q.pt=0 then [] else [(t,(bC p.pt q.pt - bA p.pt q.pt*t) / bB p.pt q.pt)]:=fun t=>by rw [hpt k p hp,hpt i q hq];rfl
 have hsy:∀ t:Rat,a8X true (pt P k) (pt P i) t=if bA p.pt q.pt=0 then [] else [((bC p.pt q.pt - bB p.pt q.pt*t) / bA p.pt q.pt,t)]:=fun t=>by rw [hpt k p hp,hpt i q hq];rfl
 have hcn:∀ j s,l[j]? = some s→b5q (pt P k) (pt P i) (pt P j)=if bA p.pt q.pt*bB s.pt q.pt - bB p.pt q.pt*bA s.pt q.pt=0 then [] else [((bC p.pt q.pt*bB s.pt q.pt - bB p.pt q.pt*bC s.pt q.pt) / (bA p.pt q.pt*bB s.pt q.pt - bB p.pt q.pt*bA s.pt q.pt),(bA p.pt q.pt*bC s.pt q.pt - bC p.pt q.pt*bA s.pt q.pt) / (bA p.pt q.pt*bB s.pt q.pt - bB p.pt q.pt*bA s.pt q.pt))]:=fun j s hs=>by rw [hpt k p hp,hpt i q hq,hpt j s hs];rfl
 generalize bA p.pt q.pt=A at *;generalize bB p.pt q.pt=B at *;generalize bC p.pt q.pt=CC at *;unfold a0F.D at ca;refine goI a1C (ff2 e2 kN) hmi hmk ca trivial trivial trivial ?_;refine OkS.loop (α:=Nat × Nat × Nat × Nat) (fun p=>⟨[(0,.sl bb 3 (l.map a0F.D)),(7,rR (w:Rat)),(8,rR (h:Rat)),(10,i64 (i:Int)),(11,i64 (k:Int)),(12,rR A),(13,rR B),(14,rR CC),(62,.sl true 1 [str ⟨#[48]⟩,rR ((w:Nat):Rat)]),(63,i64 2),(64,i64 (p.1:Int)),(9,.osl p.2.1 p.2.2.1 2 0 (a0V (a1m P (w:Rat) (h:Rat) i++a3s P (w:Rat) (h:Rat) i k++a4W false (pt P k) (pt P i) w p.1)).length)],[⟨p.2.1,p.2.2.1,129,2,a0V (a1m P (w:Rat) (h:Rat) i++a3s P (w:Rat) (h:Rat) i k++a4W false (pt P k) (pt P i) w p.1)⟩],p.2.2.2⟩) (fun p=>2 - p.1) (fun p=>p.1≤2) (0,_,_,_) (Nat.zero_le _) (by (dsimp only;rw [show a4W false (pt P k) (pt P i) w 0=[] from rfl,List.append_nil];exact wkI)) ?_;rintro ⟨n,kk3,g3,m3⟩ F hn;dsimp only at hn ⊢;refine OkS.rekey [(0,.sl bb 3 (l.map a0F.D)),(7,rR (w:Rat)),(8,rR (h:Rat)),(10,i64 (i:Int)),(11,i64 (k:Int)),(12,rR A),(13,rR B),(14,rR CC),(62,.sl true 1 [str ⟨#[48]⟩,rR ((w:Nat):Rat)]),(63,i64 2),(64,i64 (n:Int)),(9,.osl 1411 m3 2 0 (a0V (a1m P (w:Rat) (h:Rat) i++a3s P (w:Rat) (h:Rat) i k++a4W false (pt P k) (pt P i) w n)).length)] ⟨.inl rfl,.inl rfl,.inl rfl,.inl rfl,.inl rfl,.inl rfl,.inl rfl,.inl rfl,.inl rfl,.inl rfl,.inl rfl,.inr ⟨_,_,_,rfl,rfl⟩,trivial⟩ ?_;rcases Nat.lt_or_ge n 2 with h4|h4
 ·have e3:=lt2 n h4
  have wn:=wi2 n h4;have hm2:=hx2 n w h4;have xr:=c8o n w hw;have cz:=c4n B;have hsn:a0V (a1m P (w:Rat) (h:Rat) i++a3s P (w:Rat) (h:Rat) i k++a4W false (pt P k) (pt P i) w (n+1))=a0V (a1m P (w:Rat) (h:Rat) i++a3s P (w:Rat) (h:Rat) i k++a4W false (pt P k) (pt P i) w n)++a0V (a8X false (pt P k) (pt P i) ((xv n w:Nat):Rat)):=by
   unfold a0V;rw [← List.map_append];exact congrArg (List.map c3I) (List.append_assoc _ _ _).symm
  rw [hsx] at hsn;have hLl:(a0V (a1m P (w:Rat) (h:Rat) i++a3s P (w:Rat) (h:Rat) i k++a4W false (pt P k) (pt P i) w n)).length≤300000:=by
   have:=hpr i k (by omega)
   have:=a8x false (pt P k) (pt P i) w 2
   have:=a8x false (pt P k) (pt P i) w n
   unfold a0V;rw [List.length_map];simp only [List.length_append];omega
  generalize ((xv n w:Nat):Rat)=X at *;generalize hLg:a0V (a1m P (w:Rat) (h:Rat) i++a3s P (w:Rat) (h:Rat) i k++a4W false (pt P k) (pt P i) w n)=L at *;clear hLg
  by_cases hb:B=0
  ·rw [decide_eq_true hb] at cz
   rw [if_pos hb] at hsn;rw [show a0V []=[] from rfl,List.append_nil] at hsn;refine goI a1C (ff3 e3 wn kN) hm2 cz trivial trivial trivial trivial ?_;exact ⟨(n+1,_,_,_),h4,by dsimp only;omega,by (dsimp only;rw [hsn];exact wkI)⟩
  ·rw [decide_eq_false hb] at cz
   rw [if_neg hb] at hsn;have m1:=b2e A X 8 1 kA xr (by decide);have s1:=b5W CC (A*X) 27 9 kC (a0y kA xr) (by decide);have d1:=b0k (CC - A*X) B 37 8 (a1E kC (a0y kA xr)) kB (by decide) hb;have htk:List.take L.length L=L:=List.take_length;rw [show a0V [(X,(CC - A*X) / B)]=[.agg [rR X,rR ((CC - A*X) / B)]] from rfl] at hsn;refine goI a1C (ff4 e3 wn htk kN) hm2 cz m1 s1 d1 trivial ?_;exact ⟨(n+1,_,_,_),h4,by dsimp only;omega,by (dsimp only;rw [hsn,List.length_append];exact wkI)⟩
 have e3:=ge2 n h4
 have:n=2:=by omega
 subst this;refine goI a1C e3 trivial trivial trivial trivial trivial trivial ?_;refine OkS.loop (α:=Nat × Nat × Nat × Nat) (fun p=>⟨[(0,.sl bb 3 (l.map a0F.D)),(7,rR (w:Rat)),(8,rR (h:Rat)),(10,i64 (i:Int)),(11,i64 (k:Int)),(12,rR A),(13,rR B),(14,rR CC),(85,.sl true 1 [str ⟨#[48]⟩,rR ((h:Nat):Rat)]),(86,i64 2),(87,i64 (p.1:Int)),(9,.osl p.2.1 p.2.2.1 2 0 (a0V (a1m P (w:Rat) (h:Rat) i++a3s P (w:Rat) (h:Rat) i k++a4W false (pt P k) (pt P i) w 2++a4W true (pt P k) (pt P i) h p.1)).length)],[⟨p.2.1,p.2.2.1,129,2,a0V (a1m P (w:Rat) (h:Rat) i++a3s P (w:Rat) (h:Rat) i k++a4W false (pt P k) (pt P i) w 2++a4W true (pt P k) (pt P i) h p.1)⟩],p.2.2.2⟩) (fun p=>2 - p.1) (fun p=>p.1≤2) (0,_,_,_) (Nat.zero_le _) (by (dsimp only;rw [show a4W true (pt P k) (pt P i) h 0=[] from rfl,List.append_nil];exact wkI)) ?_;rintro ⟨n,kk4,g4,m4⟩ F hn;dsimp only at hn ⊢;refine OkS.rekey [(0,.sl bb 3 (l.map a0F.D)),(7,rR (w:Rat)),(8,rR (h:Rat)),(10,i64 (i:Int)),(11,i64 (k:Int)),(12,rR A),(13,rR B),(14,rR CC),(85,.sl true 1 [str ⟨#[48]⟩,rR ((h:Nat):Rat)]),(86,i64 2),(87,i64 (n:Int)),(9,.osl 1411 m4 2 0 (a0V (a1m P (w:Rat) (h:Rat) i++a3s P (w:Rat) (h:Rat) i k++a4W false (pt P k) (pt P i) w 2++a4W true (pt P k) (pt P i) h n)).length)] ⟨.inl rfl,.inl rfl,.inl rfl,.inl rfl,.inl rfl,.inl rfl,.inl rfl,.inl rfl,.inl rfl,.inl rfl,.inl rfl,.inr ⟨_,_,_,rfl,rfl⟩,trivial⟩ ?_;rcases Nat.lt_or_ge n 2 with h4|h4
 ·have e3:=lt2 n h4
  have wn:=wi2 n h4;have hm2:=hx2 n h h4;have xr:=c8o n h hh;have cz:=c4n A;have hsn:a0V (a1m P (w:Rat) (h:Rat) i++a3s P (w:Rat) (h:Rat) i k++a4W false (pt P k) (pt P i) w 2++a4W true (pt P k) (pt P i) h (n+1))=a0V (a1m P (w:Rat) (h:Rat) i++a3s P (w:Rat) (h:Rat) i k++a4W false (pt P k) (pt P i) w 2++a4W true (pt P k) (pt P i) h n)++a0V (a8X true (pt P k) (pt P i) ((xv n h:Nat):Rat)):=by
   unfold a0V;rw [← List.map_append];exact congrArg (List.map c3I) (List.append_assoc _ _ _).symm
  rw [hsy] at hsn;have hLl:(a0V (a1m P (w:Rat) (h:Rat) i++a3s P (w:Rat) (h:Rat) i k++a4W false (pt P k) (pt P i) w 2++a4W true (pt P k) (pt P i) h n)).length≤300000:=by
   have:=hpr i k (by omega)
   have:=a8x false (pt P k) (pt P i) w 2
   have:=a8x true (pt P k) (pt P i) h n
   unfold a0V;rw [List.length_map];simp only [List.length_append];omega
  generalize ((xv n h:Nat):Rat)=X at *;generalize hLg:a0V (a1m P (w:Rat) (h:Rat) i++a3s P (w:Rat) (h:Rat) i k++a4W false (pt P k) (pt P i) w 2++a4W true (pt P k) (pt P i) h n)=L at *;clear hLg
  by_cases hb:A=0
  ·rw [decide_eq_true hb] at cz
   rw [if_pos hb] at hsn;rw [show a0V []=[] from rfl,List.append_nil] at hsn;refine goI a1C (ff3 e3 wn kN) hm2 cz trivial trivial trivial trivial ?_;exact ⟨(n+1,_,_,_),h4,by dsimp only;omega,by (dsimp only;rw [hsn];exact wkI)⟩
  ·rw [decide_eq_false hb] at cz
   rw [if_neg hb] at hsn;have m1:=b2e B X 8 1 kB xr (by decide);have s1:=b5W CC (B*X) 27 9 kC (a0y kB xr) (by decide);have d1:=b0k (CC - B*X) A 37 8 (a1E kC (a0y kB xr)) kA (by decide) hb;have htk:List.take L.length L=L:=List.take_length;rw [show a0V [((CC - B*X) / A,X)]=[.agg [rR ((CC - B*X) / A),rR X]] from rfl] at hsn;refine goI a1C (ff4 e3 wn htk kN) hm2 cz m1 s1 d1 trivial ?_;exact ⟨(n+1,_,_,_),h4,by dsimp only;omega,by (dsimp only;rw [hsn,List.length_append];exact wkI)⟩
 have e3:=ge2 n h4
 have:n=2:=by omega
 subst this;refine goI a1C e3 trivial trivial trivial trivial trivial trivial ?_;refine OkS.loop (α:=Nat × Nat × Nat × Nat) (fun p=>⟨[(0,.sl bb 3 (l.map a0F.D)),(7,rR (w:Rat)),(8,rR (h:Rat)),(10,i64 (i:Int)),(11,i64 (k:Int)),(12,rR A),(13,rR B),(14,rR CC),(19,i64 (p.1:Int)),(9,.osl p.2.1 p.2.2.1 2 0 (a0V (a1m P (w:Rat) (h:Rat) i++a3s P (w:Rat) (h:Rat) i k++a4m (pt P k) (pt P i) (w:Rat) (h:Rat)++a3R P i k p.1)).length)],[⟨p.2.1,p.2.2.1,129,2,a0V (a1m P (w:Rat) (h:Rat) i++a3s P (w:Rat) (h:Rat) i k++a4m (pt P k) (pt P i) (w:Rat) (h:Rat)++a3R P i k p.1)⟩],p.2.2.2⟩) (fun p=>k - p.1) (fun p=>p.1≤k) (0,_,_,_) (Nat.zero_le _) (by (dsimp only;rw [show a3R P i k 0=[] from rfl,List.append_nil,← b9b,← List.append_assoc];exact wkI)) ?_;rintro ⟨j,kk5,g5,m5⟩ F hj;dsimp only at hj ⊢;refine OkS.rekey [(0,.sl bb 3 (l.map a0F.D)),(7,rR (w:Rat)),(8,rR (h:Rat)),(10,i64 (i:Int)),(11,i64 (k:Int)),(12,rR A),(13,rR B),(14,rR CC),(19,i64 (j:Int)),(9,.osl 1411 m5 2 0 (a0V (a1m P (w:Rat) (h:Rat) i++a3s P (w:Rat) (h:Rat) i k++a4m (pt P k) (pt P i) (w:Rat) (h:Rat)++a3R P i k j)).length)] ⟨.inl rfl,.inl rfl,.inl rfl,.inl rfl,.inl rfl,.inl rfl,.inl rfl,.inl rfl,.inl rfl,.inr ⟨_,_,_,rfl,rfl⟩,trivial⟩ ?_;rcases Nat.lt_or_ge j k with h5|h5
 rotate_left
 ·have e4:=ltF h5
  have:j=k:=by omega
  subst this;have hfin:a0V (a1m P (w:Rat) (h:Rat) i++a3s P (w:Rat) (h:Rat) i (j+1))=a0V (a1m P (w:Rat) (h:Rat) i++a3s P (w:Rat) (h:Rat) i j++a4m (pt P j) (pt P i) (w:Rat) (h:Rat)++a3R P i j j):=by
   rw [show a3s P (w:Rat) (h:Rat) i (j+1)=a3s P (w:Rat) (h:Rat) i j++(a4m (pt P j) (pt P i) (w:Rat) (h:Rat)++a3R P i j j) from rfl,← List.append_assoc,← List.append_assoc]
  refine goI a1C (ff2 e4 wk) trivial trivial trivial trivial trivial trivial ?_;exact ⟨(j+1,_,_,_),h3,by dsimp only;omega,by (dsimp only;rw [hfin];exact wkI)⟩
 have e4:=ltT h5;have wj:=wiI (i:=j) (by omega);obtain ⟨s,hs⟩:=a1w (l:=l) (i:=j) (by omega);have hmj:(l.map a0F.D)[j]? = some (.agg [str (sb s.x),str (sb s.y),i64 s.wt]):=by rw [List.getElem?_map,hs];rfl
 have cb:=cbis j i s q hs hq;have ks:=hl.rk (List.mem_of_getElem? hs);have kA2:=d0q ks.1 kq.1;have kB2:=c6C ks.2 kq.2;have kC2:=d0s ks kq;have hcn:=hcn j s hs;generalize bA s.pt q.pt=A2 at *;generalize bB s.pt q.pt=B2 at *;generalize bC s.pt q.pt=C2 at *;have hsn:a0V (a1m P (w:Rat) (h:Rat) i++a3s P (w:Rat) (h:Rat) i k++a4m (pt P k) (pt P i) (w:Rat) (h:Rat)++a3R P i k (j+1))=a0V (a1m P (w:Rat) (h:Rat) i++a3s P (w:Rat) (h:Rat) i k++a4m (pt P k) (pt P i) (w:Rat) (h:Rat)++a3R P i k j)++a0V (b5q (pt P k) (pt P i) (pt P j)):=by
  unfold a0V;rw [← List.map_append];exact congrArg (List.map c3I) (List.append_assoc _ _ _).symm
 rw [hcn] at hsn;have hLl:(a0V (a1m P (w:Rat) (h:Rat) i++a3s P (w:Rat) (h:Rat) i k++a4m (pt P k) (pt P i) (w:Rat) (h:Rat)++a3R P i k j)).length≤300000:=by
  have:=hpr i k (by omega)
  have:=b1w (pt P k) (pt P i) w h
  have:=b3q P i k j
  unfold a0V;rw [List.length_map];simp only [List.length_append];omega
 generalize hLg:a0V (a1m P (w:Rat) (h:Rat) i++a3s P (w:Rat) (h:Rat) i k++a4m (pt P k) (pt P i) (w:Rat) (h:Rat)++a3R P i k j)=L at *;clear hLg;unfold a0F.D at cb;have t1:=b2e A B2 8 8 kA kB2 (by decide);have t2:=b2e B A2 8 8 kB kA2 (by decide);have t3:=b5W _ _ _ _ (a0y kA kB2) (a0y kB kA2) (by decide);have kD:=a1E (a0y kA kB2) (a0y kB kA2);have cz:=c4n (A*B2 - B*A2)
 by_cases hb:A*B2 - B*A2=0
 ·rw [decide_eq_true hb] at cz
  rw [if_pos hb] at hsn;rw [show a0V []=[] from rfl,List.append_nil] at hsn;refine goI a1C (ff2 e4 kN) hmi hmj cb trivial trivial trivial ?_;refine goI a1C wj t1 t2 t3 cz trivial trivial ?_;exact ⟨(j+1,_,_,_),h5,by dsimp only;omega,by (dsimp only;rw [hsn];exact wkI)⟩
 rw [decide_eq_false hb] at cz;rw [if_neg hb] at hsn;have u1:=b2e CC B2 27 8 kC kB2 (by decide);have u2:=b2e B C2 8 27 kB kC2 (by decide);have u3:=b5W _ _ _ _ (a0y kC kB2) (a0y kB kC2) (by decide);have u4:=b0k _ _ _ _ (a1E (a0y kC kB2) (a0y kB kC2)) kD (by decide) hb;have v1:=b2e A C2 8 27 kA kC2 (by decide);have v2:=b2e CC A2 27 8 kC kA2 (by decide);have v3:=b5W _ _ _ _ (a0y kA kC2) (a0y kC kA2) (by decide);have v4:=b0k _ _ _ _ (a1E (a0y kA kC2) (a0y kC kA2)) kD (by decide) hb;have htk:List.take L.length L=L:=List.take_length;rw [show ∀ x y:Rat,a0V [(x,y)]=[.agg [rR x,rR y]] from fun x y=>rfl] at hsn;refine goI a1C (ff2 e4 kN) hmi hmj cb trivial trivial trivial ?_;refine goI a1C wj t1 t2 t3 cz trivial trivial ?_;refine goI a1C kB u1 u2 u3 u4 v1 v2 ?_;refine a0l.same _ v3 inferInstance ?_;refine dsI ?_;refine goI a1C (ff2 htk wj) v4 trivial trivial trivial trivial trivial ?_;exact ⟨(j+1,_,_,_),h5,by dsimp only;omega,by (dsimp only;rw [hsn,List.length_append];exact wkI)⟩
abbrev a6z:Dr:=[(7,[0,1,2,3,4,5,6,7,8,9,10],[11,12])]
open Go.Proofs Go.RowKit
set_option maxRecDepth 20000
set_option maxHeartbeats 8000000
theorem b9D {l:List a0F}(hl:b9L l){i:Nat}(hi:i<l.length):rk (pt (a1y l) i).1 3∧rk (pt (a1y l) i).2 3:=by
 obtain ⟨p,hp⟩:=a1w hi;rw [b4A hp];exact hl.rk (List.mem_of_getElem? hp)
theorem c4j {l:List a0F}(hl:b9L l){w h:Nat}(hw:w≤100000)(hh:h≤100000){z:Pnt}(hz:z∈a3U (a1y l) (w:Rat) (h:Rat)):rk z.1 104∧rk z.2 104:=by
 have hPl:(a1y l).length=l.length:=List.length_map ..;have A:∀ p q:Pnt,rk p.1 3→rk q.1 3→rk (bA p q) 8:=fun p q a b=>a0y a9m (a1E b a)
 have B:∀ p q:Pnt,rk p.2 3→rk q.2 3→rk (bB p q) 8:=fun p q a b=>a0y a9m (a1E b a)
 have C:∀ p q:Pnt,rk p.1 3∧rk p.2 3→rk q.1 3∧rk q.2 3→rk (bC p q) 27:=fun p q a b=>a1E (a5Q (a0y b.1 b.1) (a0y b.2 b.2)) (a5Q (a0y a.1 a.1) (a0y a.2 a.2))
 have dv:∀ {a b:Rat} {i j:Nat},rk a i→rk b j→b≠0→rk (a / b) (i+j):=fun {a b i j} ha hb h0=>by
  rw [Rat.div_def];exact a0y ha (b8a hb h0)
 have nt:∀ t:Nat,(t=0∨t=w∨t=h)→rk (t:Rat) 1:=fun t ht=>b1S t (by omega)
 rcases b4q hz with ⟨x,y,hx,hy,rfl⟩|⟨i,k,hi,hk,h1⟩
 ·exact ⟨(nt x (by omega)).mono (by decide),(nt y (by omega)).mono (by decide)⟩
 ·have pi:=b9D hl (i:=i) (by omega)
  have pk:=b9D hl (i:=k) (by omega);rcases h1 with h1|⟨j,hj,h1⟩
  ·rcases b4N h1 with ⟨t,h0,ht,rfl⟩|⟨t,h0,ht,rfl⟩
   ·have kt:=nt t (by omega)
    exact ⟨kt.mono (by decide),(dv (a1E (C _ _ pk pi) (a0y (A _ _ pk.1 pi.1) kt)) (B _ _ pk.2 pi.2) h0).mono (by decide)⟩
   ·have kt:=nt t (by omega)
    exact ⟨(dv (a1E (C _ _ pk pi) (a0y (B _ _ pk.2 pi.2) kt)) (A _ _ pk.1 pi.1) h0).mono (by decide),kt.mono (by decide)⟩
  ·have pj:=b9D hl (i:=j) (by omega)
   obtain ⟨h0,rfl⟩:=b9y h1;have kd:rk (a7h (pt (a1y l) k) (pt (a1y l) i) (pt (a1y l) j)) 33:=a1E (a0y (A _ _ pk.1 pi.1) (B _ _ pj.2 pi.2)) (a0y (B _ _ pk.2 pi.2) (A _ _ pj.1 pi.1));exact ⟨(dv (a1E (a0y (C _ _ pk pi) (B _ _ pj.2 pi.2)) (a0y (B _ _ pk.2 pi.2) (C _ _ pj pi))) kd h0).mono (by decide),(dv (a1E (a0y (A _ _ pk.1 pi.1) (C _ _ pj pi)) (a0y (C _ _ pk pi) (A _ _ pj.1 pi.1))) kd h0).mono (by decide)⟩
theorem b4e {l:List a0F}(hl:b9L l){z:Pnt}{k:Nat}(h1:rk z.1 k)(h2:rk z.2 k):rk (a8O (a1y l) z) (4*(k+4)+1):=by
 have hPl:(a1y l).length=l.length:=List.length_map ..;obtain ⟨⟨p,hp,e⟩,-⟩:=b2A (P:=a1y l) (by rw [hPl];exact hl.pos) z;rw [e];obtain ⟨q,hq,rfl⟩:=List.mem_map.1 hp;exact d0W h1 h2 (hl.rk hq).1 (hl.rk hq).2
theorem c5x {l:List a0F}(hl:b9L l){w h:Rat}{S:List Pnt}{k:Nat}(hS:∀ z∈S,rk z.1 k∧rk z.2 k):rk (b2w (a1y l) w h S) (4*(k+4)+1):=by
 rcases (b9d (a1y l) w h S).2.2 with e|⟨z,hz,-,e⟩<;>rw [e]
 ·exact (b1S 0 (by decide)).mono (by omega)
 ·exact b4e hl (hS z hz).1 (hS z hz).2
theorem d5v (bb:Bool)(l:List a0F)(hl:b9L l)(w h:Nat)(hw:w≤100000)(hh:h≤100000):a0b C0 14 [.sl bb 3 (l.map a0F.D),i64 (w:Int),i64 (h:Int)] (rR (b0V (a1y l) (w:Rat) (h:Rat))):=by
 refine a0c.walk w1 d1L rfl fun F=>?_
 have pL:IsPure (.sl bb 3 (l.map a0F.D)):=inferInstance;have cs:=c8M bb l hl w h hw hh;have hSk:=fun z=>@c4j l hl w h hw hh z
 have hPl:(a1y l).length=l.length:=List.length_map ..;have hSl:(a3U (a1y l) (w:Rat) (h:Rat)).length≤300000:=by
  have:=b3l (a1y l) w h l.length hl.most
  have:=hl.most
  unfold a3U;rw [hPl];omega
 have hg:b0V (a1y l) (w:Rat) (h:Rat)=b2w (a1y l) (w:Rat) (h:Rat) (a3U (a1y l) (w:Rat) (h:Rat)):=rfl;rw [hg];obtain ⟨S,hS⟩:∃ S,a3U (a1y l) (w:Rat) (h:Rat)=S:=⟨_,rfl⟩
 rw [hS] at cs hSk hSl ⊢;have el:(((a0V S).length:Nat):Int)=(S.length:Int):=by rw [List.length_map]
 have pS:IsPure (.sl false 2 (a0V S)):=inferInstance;have h00:b2w (a1y l) (w:Rat) (h:Rat) (S.take 0)=0:=rfl;have hat:∀ (i:Nat) z,S[i]? = some z→(a0V S)[i]? = some (.agg [rR z.1,rR z.2]):=fun i z hz=>by rw [List.getElem?_map,hz];rfl
 generalize a0V S=SD at *;refine goI a6z kB cs trivial trivial trivial trivial trivial ?_;refine OkS.loop (α:=Nat × Nat) (fun p=>⟨[(0,.sl bb 3 (l.map a0F.D)),(1,i64 (w:Int)),(2,i64 (h:Int)),(7,rR (b2w (a1y l) (w:Rat) (h:Rat) (S.take p.1))),(8,.sl false 2 SD),(9,i64 (p.1:Int))],[],p.2⟩) (fun p=>S.length - p.1) (fun p=>p.1≤S.length) (0,_) (Nat.zero_le _) (by (dsimp only;rw [h00,a7I];exact wkI)) ?_;rintro ⟨i,m⟩ F hi;dsimp only at hi ⊢;rcases Nat.lt_or_ge i S.length with h2|h2
 rotate_left
 ·have e1:=ltF h2
  have:i=S.length:=by omega
  subst this;rw [List.take_length];refine goI a6z (ff2 e1 el) trivial trivial trivial trivial trivial trivial ?_;exact a0a rfl IsPure.out
 have e1:=ltT h2;have wi:=wiI (i:=i) (by omega);obtain ⟨z,hz⟩:=a1w h2;have hm:=hat i z hz;have kz:=hSk z (List.mem_of_getElem? hz);have i1:=b0l z.1 104 kz.1 (by decide) w hw;have i2:=b0l z.2 104 kz.2 (by decide) h hh;have cn:=c0u bb l hl z.1 z.2 104 kz.1 kz.2 (by decide);have kn:=b4e hl kz.1 kz.2;have kg:=c5x hl (w:=(w:Rat)) (h:=(h:Rat)) (S:=S.take i) fun y hy=>hSk y (List.mem_of_mem_take hy)
 have cc:=d2K _ _ _ _ kn kg (by decide);have hnx:b2w (a1y l) (w:Rat) (h:Rat) (S.take (i+1))=a3A (a1y l) (w:Rat) (h:Rat) (b2w (a1y l) (w:Rat) (h:Rat) (S.take i)) z:=by
  rw [List.take_add_one,hz];exact b8D ..
 unfold a3A at hnx;rw [b7U] at hnx;rw [show a8O (a1y l) (z.1,z.2)=a8O (a1y l) z from rfl] at cn;have hgt:=@b0d (a8O (a1y l) z) (b2w (a1y l) (w:Rat) (h:Rat) (S.take i));generalize b2w (a1y l) (w:Rat) (h:Rat) (S.take i)=G at *;generalize a8O (a1y l) z=V at *;obtain ⟨b1,k1⟩:∃ x,c0r z.1 w=x:=⟨_,rfl⟩
 obtain ⟨b2,k2⟩:∃ x,c0r z.2 h=x:=⟨_,rfl⟩
 rw [k1] at i1 hnx;rw [k2] at i2 hnx;have hcase:b1=false∨(b1=true∧b2=false)∨(b1=true∧b2=true):=by cases b1<;>cases b2<;>decide
 rcases hcase with rfl|⟨rfl,rfl⟩|⟨rfl,rfl⟩
 ·rw [if_neg (by simp)] at hnx
  refine goI a6z (ff4 e1 el wi kN) hm i1 trivial trivial trivial trivial ?_;exact ⟨(i+1,_),h2,by dsimp only;omega,by (dsimp only;rw [hnx];exact wkI)⟩
 ·rw [if_neg (by simp)] at hnx
  refine goI a6z (ff4 e1 el wi kN) hm i1 i2 trivial trivial trivial ?_;exact ⟨(i+1,_),h2,by dsimp only;omega,by (dsimp only;rw [hnx];exact wkI)⟩
 ·by_cases g:G<V
  ·rw [if_pos ⟨rfl,g⟩] at hnx
   have e2:decide (a4z V G>0)=true:=decide_eq_true (hgt.2 g);refine goI a6z (ff5 e1 el e2 wi kN) hm i1 i2 cn cc trivial ?_;exact ⟨(i+1,_),h2,by dsimp only;omega,by (dsimp only;rw [hnx];exact wkI)⟩
  ·rw [if_neg (fun q=>g q.2)] at hnx
   have e2:decide (a4z V G>0)=false:=decide_eq_false (fun q=>g (hgt.1 q));refine goI a6z (ff5 e1 el e2 wi kN) hm i1 i2 cn cc trivial ?_;exact ⟨(i+1,_),h2,by dsimp only;omega,by (dsimp only;rw [hnx];exact wkI)⟩
set_option maxHeartbeats 8000000
theorem c8j {l:List UInt8}(h:chk l=0)(hl:l.length≤12):(a0D l).den≤E12:=by
 obtain ⟨m1,m2,m3,m4⟩:=a4h h;obtain ⟨p1,p2⟩:=a2R h;have hb:∀ k,k≤12→(10:Nat)^k≤E12:=fun k hk=>Nat.pow_le_pow_right (by decide) hk
 rw [m2];unfold b4D;cases hs:a3S l
 ·exact (by decide:1≤E12)
 ·have hs2:(a1v l).length≤12:=by
   have:(a1v l).length≤l.length:=by unfold a1v;simp
   omega
  exact Nat.le_trans (Nat.le_of_lt (a4Z _ (p2 hs))) (hb _ hs2)
theorem b7S {n:Nat}(hn:n≤100000):(n:Rat)≤100000:=by
 have:=Rat.intCast_le_intCast.2 (show (n:Int)≤((100000:Nat):Int) by omega)
 rw [Rat.intCast_natCast,Rat.intCast_natCast] at this;exact this
def d1H (p:a0F):Bool:=c9Y [p.x,p.y]
def shP (p:a0F):Bool:=decide (p.x.length≤12)&&decide (p.y.length≤12)
theorem c5M {l:List a0F}(h:l.all d1H=true):c8x l:=fun p hp=>by
 have:=c5w (List.all_eq_true.1 h p hp)
 exact ⟨this p.x (by simp),this p.y (by simp)⟩
theorem c4t {l:List a0F}{L W:Int}(h:a2F l L W=0)(h4:c8x l):∃ w h:Nat,L=w∧W=h∧w≤100000∧h≤100000∧b9L l∧((∀ p∈l,shP p=true)→b9K (b0V (a1y l) (w:Rat) (h:Rat))=false):=by
 obtain ⟨w,v,rfl,rfl,hw,hh,-,-,h0,h64,hb,-⟩:=b8K h;refine ⟨w,v,rfl,rfl,hw,hh,⟨h0,h64,h4,fun p hp=>⟨(a4K (hb p hp)).1,(a4K (hb p hp)).2.1⟩⟩,fun hs=>?_⟩;refine b7z (by unfold a1y;rw [List.length_map];exact h0) (fun q hq=>?_) hw hh;obtain ⟨p,hp,rfl⟩:=List.mem_map.1 hq;obtain ⟨b1,b2,b3,-⟩:=a4K (hb p hp);obtain ⟨r1,r2,r3,r4⟩:=b6n.1 b3
 have:=hs p hp
 unfold shP at this;rw [Bool.and_eq_true,decide_eq_true_eq,decide_eq_true_eq] at this;exact ⟨r1,r2,Rat.le_trans r3 (b7S hw),Rat.le_trans r4 (b7S hh),c8j b1 this.1,c8j b2 this.2⟩
theorem c8a (ha:a0b C0 10 [] (boo true))(l:List a0F)(hl:l.length≤9223372036854775807)(L W:Int):a0b C0 3 [.sl false 3 (l.map a0F.D),.agg [i64 L,i64 W]] (boo true):=by
 refine a0c.walk w1 d4o rfl fun F=>?_
 have el:(((l.map a0F.D).length:Nat):Int)=(l.length:Int):=by rw [List.length_map]
 have pL:IsPure (.sl false 3 (l.map a0F.D)):=inferInstance;obtain ⟨b70,h70⟩:∃ b,decide ((l.length:Int)>70)=b:=⟨_,rfl⟩
 refine goI dr0 el trivial trivial trivial trivial trivial trivial ?_;refine OkS.loop (α:=Nat × Nat) (fun p=>⟨[(0,.sl false 3 (l.map a0F.D)),(3,.optr 0 0 2 0 0),(12,.sl false 3 (l.map a0F.D)),(13,i64 (l.length:Int)),(14,i64 (p.1:Int))],[⟨0,0,23,2,[.agg [i64 L,i64 W]]⟩],p.2⟩) (fun p=>l.length - p.1) (fun p=>p.1≤l.length∧(0<p.1→b70=false)∧(l.take p.1).all d1H=true) (0,_) ⟨Nat.zero_le _,fun h=>absurd h (Nat.lt_irrefl 0),rfl⟩ wkI ?_;rintro ⟨i,m⟩ F ⟨hi,hb,hk⟩;dsimp only at hi hb hk ⊢;rcases Nat.lt_or_ge i l.length with h2|h2
 ·have e1:=ltT h2
  have wi:=wiI (i:=i) (by omega);obtain ⟨p,hp⟩:=a1w h2;have hm:(l.map a0F.D)[i]? = some (.agg [str (sb p.x),str (sb p.y),i64 p.wt]):=by rw [List.getElem?_map,hp];rfl
  have c:a0b C0 9 [.sl true 1 [str (sb p.x),str (sb p.y)]] (boo (d1H p)):=d3b true [p.x,p.y] (by simp);obtain ⟨f,hf⟩:∃ f,d1H p=f:=⟨_,rfl⟩
  rw [hf] at c;cases b70
  ·cases f
   ·refine goI dr0 (ff4 e1 el h70 kN) hm c ha trivial trivial trivial ?_
    exact a0a rfl IsPure.out
   ·refine goI dr0 (ff5 e1 el h70 wi kN) hm c trivial trivial trivial trivial ?_
    exact ⟨(i+1,_),⟨h2,fun _=>by trivial,a9Z hp hk hf⟩,by dsimp only;omega,wkI⟩
  ·refine goI dr0 (ff4 e1 el h70 kN) hm ha trivial trivial trivial trivial ?_
   exact a0a rfl IsPure.out
 have e1:=ltF h2
 have:i=l.length:=by omega
 subst this;rw [List.take_length] at hk;have h4:=c5M hk;have hl70:l.length≤70:=by
  rcases Nat.eq_zero_or_pos l.length with q|q
  ·omega
  ·have:=hb q
   subst this
   have:=of_decide_eq_false h70
   omega
 have hf:∀ p∈l,p.few:=fun p hp=>by have:=h4 p hp;unfold a0F.few;omega
 have c1:=c1i false l (by omega) hf L W;have c2:=b5K false l (by omega) hf L W;have c3:=d5h false l (by omega) hf L W fun _=>h4
 have hgood:=fun h=>@c4t l L W h h4
 have hT:d3c l L W=if a2F l L W=0 then b3x (b0V (a1y l) ((L.toNat:Nat):Rat) ((W.toNat:Nat):Rat)) else []:=rfl
 have hE:d2t l L W=if a2F l L W=0 then b2S (b0V (a1y l) ((L.toNat:Nat):Rat) ((W.toNat:Nat):Rat)) else a2F l L W:=rfl
 obtain ⟨E,hEE⟩:∃ E,a2F l L W=E:=⟨_,rfl⟩
 rw [hEE] at c1 c2 hgood hT hE;have bself:∀ k:Nat,((k:Int)==(k:Int))=true:=fun k=>beq_self_eq_true _
 have nself:∀ k:Nat,((k:Int) != (k:Int))=false:=fun k=>d4K rfl
 refine goI dr0 (ff2 e1 el) c1 trivial trivial trivial trivial trivial ?_;refine OkS.loop (α:=Nat × Nat) (fun p=>⟨[(0,.sl false 3 (l.map a0F.D)),(3,.optr 0 0 2 0 0),(7,i64 (E:Int)),(38,.sl false 3 (l.map a0F.D)),(39,i64 (l.length:Int)),(40,i64 (p.1:Int))],[⟨0,0,23,2,[.agg [i64 L,i64 W]]⟩],p.2⟩) (fun p=>l.length - p.1) (fun p=>p.1≤l.length∧(E=0→(l.take p.1).all shP=true)) (0,_) ⟨Nat.zero_le _,fun _=>rfl⟩ wkI ?_;rintro ⟨i,m⟩ F ⟨hi,hs⟩;dsimp only at hi hs ⊢;rcases Nat.lt_or_ge i l.length with h2|h2
 ·have e1:=ltT h2
  have wi:=wiI (i:=i) (by omega);obtain ⟨p,hp⟩:=a1w h2;have hm:(l.map a0F.D)[i]? = some (.agg [str (sb p.x),str (sb p.y),i64 p.wt]):=by rw [List.getElem?_map,hp];rfl
  rcases Nat.decEq E 0 with g|g
  ·have g1:=c9O g
   refine goI dr0 (ff5 e1 el g1 wi kN) hm trivial trivial trivial trivial trivial ?_;exact ⟨(i+1,_),⟨h2,fun q=>absurd q g⟩,by dsimp only;omega,wkI⟩
  have g1:=d1E g;have z1:=a0v p.x;have z2:=a0v p.y;obtain ⟨d1,k1⟩:∃ b,decide ((l.length:Int)>5)=b:=⟨_,rfl⟩
  obtain ⟨d2,k2⟩:∃ b,decide ((p.x.length:Int)>12)=b:=⟨_,rfl⟩
  obtain ⟨d3,k3⟩:∃ b,decide ((p.y.length:Int)>12)=b:=⟨_,rfl⟩
  have hcase:d1=true∨(d1=false∧d2=true)∨(d1=false∧d2=false∧d3=true)∨(d1=false∧d2=false∧d3=false):=by cases d1<;>cases d2<;>cases d3<;>decide
  rcases hcase with rfl|⟨rfl,rfl⟩|⟨rfl,rfl,rfl⟩|⟨rfl,rfl,rfl⟩
  ·refine goI dr0 (ff5 e1 el g1 k1 kN) hm c2 ha trivial trivial trivial ?_
   exact a0a rfl IsPure.out
  ·refine goI dr0 (ff7 e1 el g1 k1 z1 k2 kN) hm c2 ha trivial trivial trivial ?_
   exact a0a rfl IsPure.out
  ·refine goI dr0 (ff7 e1 el g1 k1 z1 k2 (ff3 z2 k3 kN)) hm c2 ha trivial trivial trivial ?_
   exact a0a rfl IsPure.out
  ·have hsp:shP p=true:=by
    unfold shP
    have:=of_decide_eq_false k2
    have:=of_decide_eq_false k3
    rw [Bool.and_eq_true,decide_eq_true_eq,decide_eq_true_eq];omega
   have hs2:=a9Z hp (hs g) hsp;refine goI dr0 (ff7 e1 el g1 k1 z1 k2 (ff4 z2 k3 wi kN)) hm trivial trivial trivial trivial trivial ?_;exact ⟨(i+1,_),⟨h2,fun _=>hs2⟩,by dsimp only;omega,wkI⟩
 have e1:=ltF h2
 have:i=l.length:=by omega
 subst this;rw [List.take_length] at hs;rcases Nat.decEq E 0 with g|g
 ·have g1:=c6b g
  have g2:=nself E;rw [if_neg g] at hT hE;rw [hT,hE] at c3;have zs:a1X (sb []) ⟨#[]⟩=true:=by rw [b7H];exact decide_eq_true rfl
  refine goI dr0 (ff5 e1 el g1 g2 zs) c3 c2 ha trivial trivial trivial ?_;exact a0a rfl IsPure.out
 ·obtain ⟨w,h,rfl,rfl,hw,hh,hok,hbig⟩:=hgood g
  have hbig:=hbig (List.all_eq_true.1 (hs g));have g1:=c6o g;have g2:=nself E;have g3:=d1E g;rw [if_pos g,Int.toNat_natCast,Int.toNat_natCast] at hT hE;unfold b3x at hT;unfold b2S at hE;rw [hbig,if_neg (by decide)] at hT hE;rw [hT,hE] at c3;have c4:=d5v false l hok w h hw hh;unfold rR at c4;have zs:a1X (sb (txt (b0V (a1y l) (w:Rat) (h:Rat)))) (sb (txt (b0V (a1y l) (w:Rat) (h:Rat))))=true:=by rw [a4V];exact decide_eq_true rfl
  generalize txt (b0V (a1y l) (w:Rat) (h:Rat))=T at *;have g4:(((0:Nat):Int) != (E:Int))=false:=by rw [g];rfl
  refine goI dr0 (ff7 e1 el g1 g2 g3 g4 zs) c3 c2 c4 ha trivial trivial ?_;exact a0a rfl IsPure.out
end Go.Ide
