/- The layer of own lemmas and contracts, part 13. -/
import Derived.Test.YtpehlicnhjoknaaGreatDoorP12
import Derived.Test.YtpehlicnhjoknaaGreatDoorP6
set_option linter.unusedVariables false
set_option linter.unusedSimpArgs false
namespace Go.Ide
abbrev a3m:Dr:=[(2,[0,1,2,3,4,5,6,7,8,9,10],[11]),(5,[0,1,2,3,4,5,6,7,8,9],[10,11]),(6,[0,1,2,3,4,5,6,7,8,9,10,11,12,13,14,15,16,17,18,19,20,21,22,23],[24])]
abbrev a4n:Dr:=[(1,[0,1,2,3,4,5,6,7,8,9,10,11,12,13,14,15,16,17,18,19,20,21,22,23],[24,25,26,27]),(2,[0,1,2,3,4,5,6,7],[8]),(5,[0,1,2,3,4,5,6,7,8,9,10,11,12,13,14,15],[16,17]),(6,[0,1,2,3,4,5,6,7,8,9,10,11,12,13,14,15,16,17,18,19],[20,21]),(7,[0,1,2,3,4,5,6,7,8,9,10,11,12,13,14,15,16],[17])]
open Go.Proofs Go.RowKit
set_option maxRecDepth 20000
set_option maxHeartbeats 4000000
theorem a0m.perm {C:Ctx}{f:Nat}{args:List D}{H H0:Hp}{n:Nat}{Φ:D→Hp→Nat→Prop}(h:a0m C f args H n Φ)(hp:H0.Perm H):a0m C f args H0 n Φ :=
 ⟨h.1,fun F ρ w vs m fr gn sz rp=>by
  have:=h.2 F ρ w vs (m.perm hp) fr (fun e he=>gn e (hp.mem_iff.2 he)) sz (fun i d hd=>by rw [← Own.perm hp];exact rp i d hd)
  rwa [← Own.perm hp] at this⟩
def swp (c:Bool)(z:Pnt):Pnt:=match c with
 | true=>(z.2,z.1)
 | false=>z
theorem d2U (c:Bool)(a p:Pnt):d2 (swp c a) (swp c p)=d2 a p:=by
 cases c
 ·rfl
 ·unfold d2 swp;grind
theorem d4K (c:Bool)(z:Pnt):swp c (swp c z)=z:=by cases c<;>rfl
def c2m (c:Bool)(p q:Pnt)(t:Rat):List Pnt:=match c with
 | true=>b1c p q t
 | false=>b1b p q t
def b2C (p q:Pnt)(t:Rat):Rat:=(p.2*p.2+(p.1 - t)*(p.1 - t) - q.2*q.2 - (q.1 - t)*(q.1 - t)) / ((p.2 - q.2)+(p.2 - q.2))
theorem b9K {c:Bool}{p q:Pnt}{t:Rat}(h:(swp c p).2 - (swp c q).2=0):c2m c q p t=[]:=by
 cases c
 ·have h:p.2 - q.2=0:=h
  exact if_pos (by unfold bB;rw [h];decide +kernel)
 ·have h:p.1 - q.1=0:=h
  exact if_pos (by unfold bA;rw [h];decide +kernel)
theorem b9M {c:Bool}{p q:Pnt}{t:Rat}(h:(swp c p).2 - (swp c q).2≠0):c2m c q p t=[swp c (t,b2C (swp c p) (swp c q) t)]:=by
 cases c
 ·have h:p.2 - q.2≠0:=h
  have h2:bB q p≠0:=by unfold bB;grind
  show (if bB q p=0 then [] else _)=_;rw [if_neg h2];show _=[(t,b2C p q t)];unfold b2C;rw [c6G]
 ·have h:p.1 - q.1≠0:=h
  have h2:bA q p≠0:=by unfold bA;grind
  show (if bA q p=0 then [] else _)=_;rw [if_neg h2];show _=[(b2C (p.2,p.1) (q.2,q.1) t,t)];unfold b2C;rw [← c2p]
theorem b5l (r:Rat):(a7g r==0)=decide (r=0):=by
 rw [b9D,decide_eq_decide];exact Rat.num_eq_zero
def b3u (P:List Pnt)(w h:Nat)(r:Rat)(l:List Pnt):Rat:=l.foldl (a4r P (w:Rat) (h:Rat)) r
theorem b4D (P:List Pnt)(w h:Nat)(r:Rat):b3u P w h r []=r:=rfl
theorem b0H (P:List Pnt)(w h:Nat)(r:Rat)(z:Pnt):b3u P w h r [z]=a4r P (w:Rat) (h:Rat) r z:=rfl
theorem a7q (P:List Pnt)(w h:Nat)(r:Rat)(l k:List Pnt):b3u P w h r (l++k)=b3u P w h (b3u P w h r l) k:=List.foldl_append ..
theorem d2b {P:List Pnt}{Q:List (GF × GF)}(hPQ:FPs P Q 3)(hPl:P.length≤100)(w h:Nat)(hw:w≤100000)(hh:h≤100000){r:Rat}{rg:GF}(hr:FR r rg 600){p q:Pnt}{pg qg:GF × GF}(hp:FP p pg 3)(hq:FP q qg 3)(hpm:p∈P)(t:Nat)(ht:t≤100000)(c:Bool)
  (g n:Nat) (R:Hp):a0m C0 80 [.optr 507 g 13 0 0,a5m pg,a5m qg,(⟨mkG (t:Int),1⟩:GF).D,boo c] (rmE g (mkG (w:Int)) (mkG (h:Int)) a1y (a0V Q) rg::R) n (fun _ H' _=>∃ rg',FR (b3u P w h r (c2m c q p (t:Rat))) rg' 600∧H'=rmE g (mkG (w:Int)) (mkG (h:Int)) a1y (a0V Q) rg'::R):=by
 refine a0m.drop ?_;refine a0m.walk w1 d0X rfl fun F=>?_
 have ft:=a8u t ht;have hcand:=fun (y:Rat)=>b2n hpm (swp c ((t:Rat),y))
 have hdsw:=fun (y:Rat)=>d2U c (swp c ((t:Rat),y)) p
 simp only [d4K] at hdsw;have cTry:=fun (y:Rat) (far:Rat) (fg:GF) (hf:FR far fg 600) (ag:GF × GF) (ha:FP (swp c ((t:Rat),y)) ag 140) (hd:far=d2 (swp c ((t:Rat),y)) p) n R=>c6V hPQ hPl w h hw hh hr hf ha (by rw [hd];exact hcand y) g n R
 have hnone:=@b9K c p q (t:Rat);have hsome:=@b9M c p q (t:Rat);obtain ⟨TG,hTG⟩:∃ T,(⟨mkG (t:Int),1⟩:GF)=T:=⟨_,rfl⟩
 rw [hTG] at ft ⊢;unfold a5m a4u GF.D;unfold GF.D at cTry;obtain ⟨p1,p2⟩:=pg;obtain ⟨q1,q2⟩:=qg;dsimp only at *;have pO:IsPure a1y.w:=inferInstance;have pW:IsPure (mkG (w:Int)).w:=inferInstance;have pH:IsPure (mkG (h:Int)).w:=inferInstance;generalize a1y=OG at *;generalize mkG (w:Int)=WG at *;generalize mkG (h:Int)=HG at *;have pQ:IsPure (.sl false 8 (a0V Q)):=inferInstance;clear hTG;refine sR 0 ?_;refine OkS.seqX (α:=Nat × (GF × GF) × (GF × GF)) (fun m=>⟨[(0,.optr 507 g 13 0 0),(4,boo c),(6,.optr 0 n 8 0 0),(7,.optr 1 (n+1) 8 0 0),(8,.optr 2 (n+2) 4 0 0)],
   ⟨2,n+2,114,4,[.agg [i64 TG.n.s,TG.n.w,i64 (mkG (TG.d:Int)).s,(mkG (TG.d:Int)).w]]⟩::⟨1,n+1,116,8,[a5m m.2.2]⟩::⟨0,n,116,8,[a5m m.2.1]⟩::rmE g WG HG OG (a0V Q) rg::R,m.1⟩) (fun m=>FP (swp c p) m.2.1 3∧FP (swp c q) m.2.2 3) ?_ ?_
 ·cases c
  ·refine goI a3m kB trivial trivial trivial trivial trivial trivial ?_
   exact ⟨trivial,(_,(p1,p2),(q1,q2)),⟨hp,hq⟩,wkI⟩
  ·refine sR 100 ?_
   refine ifI ?_;refine OkS.regW w1 200 [0,1,2,3,4,5,6,7,8,9,10] [11] 10 [3,2,1,0,4] (0) (by kernel_rfl) (by kernel_rfl) ?_;refine dsI ?_;refine gvI kN ?_;refine And.intro (.inl trivial) ?_;refine goI a3m kB trivial trivial trivial trivial trivial trivial ?_;exact ⟨trivial,(_,(p2,p1),(q2,q1)),⟨⟨hp.fy,hp.fx⟩,⟨hq.fy,hq.fx⟩⟩,wkI⟩
 rintro ⟨m,⟨u1,u2⟩,⟨v1,v2⟩⟩ ⟨hu,hv⟩;dsimp only at hu hv ⊢;clear hp hq;obtain ⟨pp,hpp⟩:∃ z,swp c p=z:=⟨_,rfl⟩
 obtain ⟨qq,hqq⟩:∃ z,swp c q=z:=⟨_,rfl⟩
 rw [hpp] at hu hdsw hnone hsome;rw [hqq] at hv hnone hsome;have fdy:=a1O hu.fy hv.fy;have c1:=a3g hu.fy hv.fy (by decide);have c2:=a6t fdy.is;have fa:=a1O hu.fx ft;have fb:=a1O hv.fx ft;have c3:=a3g hu.fx ft (by decide);have c4:=a3g hv.fx ft (by decide);have c5:=a2h hu.fy hu.fy (by decide);have c6:=a2h fa fa (by decide);have f7:=a3j (a0x hu.fy hu.fy) (a0x fa fa);have c7:=a5j (a0x hu.fy hu.fy) (a0x fa fa) (by decide);have c8:=a2h hv.fy hv.fy (by decide);have f9:=a1O f7 (a0x hv.fy hv.fy);have c9:=a3g f7 (a0x hv.fy hv.fy) (by decide);have c10:=a2h fb fb (by decide);have f11:=a1O f9 (a0x fb fb);have c11:=a3g f9 (a0x fb fb) (by decide);have f12:=a3j fdy fdy;have c12:=a5j fdy fdy (by decide);have hz:=b5l (pp.2 - qq.2);unfold a5m a4u
 by_cases h0:pp.2 - qq.2=0
 ·rw [decide_eq_true h0] at hz
  rw [hnone h0,b4D];clear c3 c4 c5 c6 c7 c8 c9 c10 c11 c12 f7 f9 f11 f12 fa fb fdy cTry hcand hdsw;unfold GF.D at c1 c2;generalize a3q u2 v2=dy at *;have p_TG:IsPure TG.n.w:=inferInstance;generalize mkG (TG.d:Int)=TG_d at *;have p_u1:IsPure u1.n.w:=inferInstance;generalize mkG (u1.d:Int)=u1_d at *;have p_u2:IsPure u2.n.w:=inferInstance;generalize mkG (u2.d:Int)=u2_d at *;have p_v1:IsPure v1.n.w:=inferInstance;generalize mkG (v1.d:Int)=v1_d at *;have p_v2:IsPure v2.n.w:=inferInstance;generalize mkG (v2.d:Int)=v2_d at *;have p_dy:IsPure dy.n.w:=inferInstance;generalize mkG (dy.d:Int)=dy_d at *;refine goI a3m hz c1 c2 trivial trivial trivial trivial ?_;exact ⟨_,.cons _ (.cons _ (.cons _ (.cons _ (.refl _)))),rg,hr,rfl⟩
 rw [decide_eq_false h0] at hz;have h02:pp.2 - qq.2+(pp.2 - qq.2)≠0:=by grind
 have f13:=b3l f11 f12 h02;have c13:=b7H f11 f12 h02 (by decide);rw [hsome h0,b0H];have hV:(pp.2*pp.2+(pp.1 - (t:Rat))*(pp.1 - (t:Rat)) - qq.2*qq.2 - (qq.1 - (t:Rat))*(qq.1 - (t:Rat))) / (pp.2 - qq.2+(pp.2 - qq.2))=b2C pp qq (t:Rat):=rfl;rw [hV] at f13;have hzp:FP ((t:Rat),b2C pp qq (t:Rat)) (TG,c5o (a3q (a3q (a9y (a4s u2 u2) (a4s (a3q u1 TG) (a3q u1 TG))) (a4s v2 v2)) (a4s (a3q v1 TG) (a3q v1 TG))) (a9y (a3q u2 v2) (a3q u2 v2))) 50:=⟨ft.mono (by decide),f13⟩
 have c14:=a5s hzp hu (by decide);have f14:=(b3k hzp hu).mono (show 4*(50+3+1)+1≤600 by decide);have cT:=fun ag ha n R=>cTry (b2C pp qq (t:Rat)) _ _ f14 ag ha (hdsw _) n R
 have hzp1:=hzp.fx.mono (show 50≤140 by decide);have hzp2:=hzp.fy.mono (show 50≤140 by decide);clear f7 f9 f11 f12 f13 f14 fa fb fdy cTry hcand hdsw hnone hsome hzp;unfold a5m a4u at c14;unfold GF.D at c1 c2 c3 c4 c5 c6 c7 c8 c9 c10 c11 c12 c13 c14 cT;generalize a3q u2 v2=dy at *;generalize a3q u1 TG=ga at *;generalize a3q v1 TG=gb at *;generalize a4s u2 u2=m1 at *;generalize a4s ga ga=m2 at *;generalize a9y m1 m2=s1 at *;generalize a4s v2 v2=m3 at *;generalize a3q s1 m3=s2 at *;generalize a4s gb gb=m4 at *;generalize a3q s2 m4=s3 at *;generalize a9y dy dy=dd at *;generalize c5o s3 dd=yy at *;generalize b3j (TG,yy) (u1,u2)=far at *;dsimp only at c14;refine goI a3m hz c1 c2 trivial trivial trivial trivial ?_;refine goI a3m hz c3 c4 c5 c6 c7 c8 ?_;refine a0n.same _ c9 inferInstance ?_;refine dsI ?_;refine goI a3m kB c10 c11 c12 c13 c14 trivial ?_;cases c
 ·refine goI a3m kB trivial trivial trivial trivial trivial trivial ?_
  refine a0l.own _ (a0m.perm (cT (TG,yy) ⟨hzp1,hzp2⟩ _ ([_,_,_,_,_,_,_,_]++R)) (List.perm_middle (l₁:=[_,_,_,_,_,_,_,_]))) ?_;rintro d H' n' ⟨rg',h1,rfl⟩;refine goI a3m kB trivial trivial trivial trivial trivial trivial ?_;exact And.intro (by trivial) ⟨_,List.Sublist.cons_cons _ (List.sublist_append_right [_,_,_,_,_,_,_,_] R),rg',h1,rfl⟩
 ·refine goI a3m kB trivial trivial trivial trivial trivial trivial ?_
  refine a0l.own _ (a0m.perm (cT (yy,TG) ⟨hzp2,hzp1⟩ _ ([_,_,_,_,_,_,_,_]++R)) (List.perm_middle (l₁:=[_,_,_,_,_,_,_,_]))) ?_;rintro d H' n' ⟨rg',h1,rfl⟩;refine goI a3m kB trivial trivial trivial trivial trivial trivial ?_;exact ⟨_,List.Sublist.cons_cons _ (List.sublist_append_right [_,_,_,_,_,_,_,_] R),rg',h1,rfl⟩
theorem c0K {p q s:Pnt}(h:crs p q s=0):b6V q p s=[]:=if_pos (by rw [a6o,h];decide +kernel)
theorem c0L {p q s:Pnt}(h:crs p q s≠0):b6V q p s=[(p.1+c0I p q s,p.2+c0J p q s)]:=by
 have h2:a7b q p s≠0:=by rw [a6o];grind
 obtain ⟨e1,e2⟩:=b6X h;unfold b6V;rw [if_neg h2,e1,e2]
theorem c5f {p q s:Pnt}:c0I p q s*c0I p q s+c0J p q s*c0J p q s=d2 (p.1+c0I p q s,p.2+c0J p q s) p:=by unfold d2;grind
theorem c0M {P:List Pnt}{Q:List (GF × GF)}(hPQ:FPs P Q 3)(hPl:P.length≤100)(w h:Nat)(hw:w≤100000)(hh:h≤100000){r:Rat}{rg:GF}(hr:FR r rg 600){p q s:Pnt}{pg qg sg:GF × GF}(hp:FP p pg 3)(hq:FP q qg 3)(hs:FP s sg 3)(hpm:p∈P)
  (g n:Nat) (R:Hp):a0m C0 81 [.optr 507 g 13 0 0,a5m pg,a5m qg,a5m sg] (rmE g (mkG (w:Int)) (mkG (h:Int)) a1y (a0V Q) rg::R) n (fun _ H' _=>∃ rg',FR (b3u P w h r (b6V q p s)) rg' 600∧H'=rmE g (mkG (w:Int)) (mkG (h:Int)) a1y (a0V Q) rg'::R):=by
 refine a0m.drop ?_;refine a0m.walk w1 d0Y rfl fun F=>?_
 have cTry:=fun (far:Rat) (fg:GF) (hf:FR far fg 600) (g1 g2:GF) (h1:FR (p.1+c0I p q s) g1 140) (h2:FR (p.2+c0J p q s) g2 140) (hd:far=d2 (p.1+c0I p q s,p.2+c0J p q s) p) n R=>c6V hPQ hPl w h hw hh hr hf (a:=(p.1+c0I p q s,p.2+c0J p q s)) (ag:=(g1,g2)) ⟨h1,h2⟩ (by rw [hd];exact b2n hpm _) g n R
 have hnone:=@c0K p q s;have hsome:=@c0L p q s;have pO:IsPure a1y.w:=inferInstance;have pW:IsPure (mkG (w:Int)).w:=inferInstance;have pH:IsPure (mkG (h:Int)).w:=inferInstance;generalize a1y=OG at *;generalize mkG (w:Int)=WG at *;generalize mkG (h:Int)=HG at *;have pQ:IsPure (.sl false 8 (a0V Q)):=inferInstance;obtain ⟨u1,u2⟩:=pg;obtain ⟨v1,v2⟩:=qg;obtain ⟨z1,z2⟩:=sg;have f1:=a1O hq.fx hp.fx;have f2:=a1O hq.fy hp.fy;have f3:=a1O hs.fx hp.fx;have f4:=a1O hs.fy hp.fy;have c1:=a3g hq.fx hp.fx (by decide);have c2:=a3g hq.fy hp.fy (by decide);have c3:=a3g hs.fx hp.fx (by decide);have c4:=a3g hs.fy hp.fy (by decide);have c5:=a2h f1 f4 (by decide);have c6:=a2h f2 f3 (by decide);have f7:=a1O (a0x f1 f4) (a0x f2 f3);have c7:=a3g (a0x f1 f4) (a0x f2 f3) (by decide);have c8:=a6t f7.is;rw [show (q.1 - p.1)*(s.2 - p.2) - (q.2 - p.2)*(s.1 - p.1)=crs p q s from rfl] at f7 c8;have hz:=b5l (crs p q s);unfold a5m a4u;unfold a5m a4u GF.D at cTry;dsimp only at *
 by_cases h0:crs p q s=0
 ·rw [decide_eq_true h0] at hz
  rw [hnone h0,b4D];clear f1 f2 f3 f4 f7 cTry;unfold GF.D at c1 c2 c3 c4 c5 c6 c7 c8;generalize a3q v1 u1=ax at *;generalize a3q v2 u2=ay at *;generalize a3q z1 u1=bx at *;generalize a3q z2 u2=by_ at *;generalize a4s ax by_=m1 at *;generalize a4s ay bx=m2 at *;generalize a3q m1 m2=dd at *;refine goI a4n hz c1 c2 c3 c4 trivial trivial ?_;refine goI a4n hz c5 c6 c7 c8 trivial trivial ?_;exact ⟨rmE g WG HG OG (a0V Q) rg::R,List.sublist_append_right [_,_,_,_,_,_,_,_] _,rg,hr,rfl⟩
 rw [decide_eq_false h0] at hz;have h02:crs p q s+crs p q s≠0:=by grind
 rw [hsome h0,b0H];have f9:=a3j f7 f7;have c9:=a5j f7 f7 (by decide);have c10:=a2h f1 f1 (by decide);have c11:=a2h f2 f2 (by decide);have f12:=a3j (a0x f1 f1) (a0x f2 f2);have c12:=a5j (a0x f1 f1) (a0x f2 f2) (by decide);have c13:=a2h f3 f3 (by decide);have c14:=a2h f4 f4 (by decide);have f15:=a3j (a0x f3 f3) (a0x f4 f4);have c15:=a5j (a0x f3 f3) (a0x f4 f4) (by decide);have c16:=a2h f4 f12 (by decide);have c17:=a2h f2 f15 (by decide);have f18:=a1O (a0x f4 f12) (a0x f2 f15);have c18:=a3g (a0x f4 f12) (a0x f2 f15) (by decide);have f19:=b3l f18 f9 h02;have c19:=b7H f18 f9 h02 (by decide);have c20:=a2h f1 f15 (by decide);have c21:=a2h f3 f12 (by decide);have f22:=a1O (a0x f1 f15) (a0x f3 f12);have c22:=a3g (a0x f1 f15) (a0x f3 f12) (by decide);have f23:=b3l f22 f9 h02;have c23:=b7H f22 f9 h02 (by decide);rw [show ((s.2 - p.2)*((q.1 - p.1)*(q.1 - p.1)+(q.2 - p.2)*(q.2 - p.2)) - (q.2 - p.2)*((s.1 - p.1)*(s.1 - p.1)+(s.2 - p.2)*(s.2 - p.2))) / (crs p q s+crs p q s)=c0I p q s from rfl] at f19;rw [show ((q.1 - p.1)*((s.1 - p.1)*(s.1 - p.1)+(s.2 - p.2)*(s.2 - p.2)) - (s.1 - p.1)*((q.1 - p.1)*(q.1 - p.1)+(q.2 - p.2)*(q.2 - p.2))) / (crs p q s+crs p q s)=c0J p q s from rfl] at f23;have hpx:FR p.1 u1 3:=hp.fx;have hpy:FR p.2 u2 3:=hp.fy;have f24:=(a3j hpx f19).mono (show 136≤140 by decide);have c24:=a5j hpx f19 (by decide);have f25:=(a3j hpy f23).mono (show 136≤140 by decide);have c25:=a5j hpy f23 (by decide);have c26:=a2h f19 f19 (by decide);have c27:=a2h f23 f23 (by decide);have f28:=(a3j (a0x f19 f19) (a0x f23 f23)).mono (show 132+132+(132+132)+1≤600 by decide);have c28:=a5j (a0x f19 f19) (a0x f23 f23) (by decide);have cT:=cTry _ _ f28 _ _ f24 f25 c5f;clear f1 f2 f3 f4 f7 f9 f12 f15 f18 f19 f22 f23 f24 f25 f28 cTry hnone hsome;unfold GF.D at c1 c2 c3 c4 c5 c6 c7 c8 c9 c10 c11 c12 c13 c14 c15 c16 c17 c18 c19 c20 c21 c22 c23 c24 c25 c26 c27 c28;generalize a3q v1 u1=ax at *;generalize a3q v2 u2=ay at *;generalize a3q z1 u1=bx at *;generalize a3q z2 u2=by_ at *;generalize a4s ax by_=m1 at *;generalize a4s ay bx=m2 at *;generalize a3q m1 m2=dd at *;generalize a9y dd dd=ee at *;generalize a4s ax ax=m3 at *;generalize a4s ay ay=m4 at *;generalize a9y m3 m4=uu at *;generalize a4s bx bx=m5 at *;generalize a4s by_ by_=m6 at *;generalize a9y m5 m6=vv at *;generalize a4s by_ uu=n1 at *;generalize a4s ay vv=n2 at *;generalize a3q n1 n2=n3 at *;generalize c5o n3 ee=xx at *;generalize a4s ax vv=n4 at *;generalize a4s bx uu=n5 at *;generalize a3q n4 n5=n6 at *;generalize c5o n6 ee=yy at *;generalize a9y u1 xx=e1 at *;generalize a9y u2 yy=e2 at *;generalize a4s xx xx=k1 at *;generalize a4s yy yy=k2 at *;generalize a9y k1 k2=far at *;refine goI a4n hz c1 c2 c3 c4 trivial trivial ?_;refine goI a4n hz c5 c6 c7 c8 c9 trivial ?_;refine goI a4n kB c10 c11 c12 c13 c14 c15 ?_;refine goI a4n kB c16 c17 c18 c19 c20 c21 ?_;refine a0n.same _ c22 inferInstance ?_;refine dsI ?_;refine goI a4n kB c23 c24 c25 c26 c27 c28 ?_;refine a0l.own _ (a0m.perm (cT _ ([_,_,_,_,_,_,_,_,_,_,_,_]++R)) (List.perm_middle (l₁:=[_,_,_,_,_,_,_,_,_,_,_,_]))) ?_;rintro d H' n' ⟨rg',h1,rfl⟩;refine goI a4n kB trivial trivial trivial trivial trivial trivial ?_;exact And.intro (by trivial) ⟨_,List.Sublist.cons_cons _ (List.sublist_append_right [_,_,_,_,_,_,_,_,_,_,_,_] R),rg',h1,rfl⟩
open Go.Proofs Go.RowKit
set_option maxRecDepth 20000
set_option maxHeartbeats 4000000
def plD (p:a0F):D:=.agg [str (sb p.x),str (sb p.y)]
instance  (p:a0F):CellsPure (plD p):=by unfold plD;exact inferInstance
instance  (p:a0F):IsPure (plD p):=by unfold plD;exact inferInstance
def a4y (y x:a0F):Bool:=decide (x.x=y.x)&&(decide (x.y=y.y)&&true)
theorem d4i (x y:a0F):a0b C0 155 [plD x,.pptr (plD y)] (boo (a4y y x)):=by
 refine a0c.walk w1 c3k rfl fun F=>?_
 have e1:=a7B x.x y.x;have e2:=a7B x.y y.y;unfold plD a4y;refine goI dr0 (ff2 e1 e2) trivial trivial trivial trivial trivial trivial ?_;exact a0a rfl IsPure.out
theorem d5J (l:List a0F)(y:a0F)(hl:l.length≤1000000):a0b C0 215 [.sl false 2 (l.map plD),.clo (.func 155) [] [.pptr (plD y)]] (i64 (c5x (a4y y) l)):=by
 refine a0c.walk w1 c3z rfl fun F=>?_
 have el:(((l.map plD).length:Nat):Int)=(l.length:Int):=by rw [List.length_map]
 refine goI dr0 el trivial trivial trivial trivial trivial trivial ?_;refine OkS.loop (α:=Nat × Nat) (fun p=>⟨[(0,.sl false 2 (l.map plD)),(1,.clo (.func 155) [] [.pptr (plD y)]),(7,i64 (l.length:Int)),(8,i64 (p.1:Int))],[],p.2⟩) (fun p=>l.length - p.1) (fun p=>p.1≤l.length∧∀ (j:Nat) (x:a0F),j<p.1→l[j]? = some x→a4y y x=false) (0,_) ⟨Nat.zero_le _,fun j x hj=>absurd hj (Nat.not_lt_zero j)⟩ wkI ?_;rintro ⟨i,n⟩ F ⟨hi,ha⟩;dsimp only at hi ha ⊢;rcases Nat.lt_or_ge i l.length with h2|h2
 ·have e1:=ltT h2
  have wi:=wiI (i:=i) (by omega);obtain ⟨x,hx⟩:=a1T h2;have hm:(l.map plD)[i]? = some (.agg [str (sb x.x),str (sb x.y)]):=by rw [List.getElem?_map,hx];rfl
  have cn:=d4i x y;have hat:=fun h=>c5y hx h ha
  obtain ⟨b,hb⟩:∃ b,a4y y x=b:=⟨_,rfl⟩
  rw [hb] at cn hat;rw [show plD x=.agg [str (sb x.x),str (sb x.y)] from rfl] at cn;cases b
  ·refine goI dr0 (ff3 e1 wi kN) hm cn trivial trivial trivial trivial ?_
   exact ⟨(i+1,_),⟨h2,fun j z hj hz=>by
    rcases Nat.lt_or_ge j i with q|q
    ·exact ha j z q hz
    ·have:j=i:=by dsimp only at hj;omega
     subst this;rw [hx] at hz;cases hz;exact hb⟩,by dsimp only;omega,wkI⟩
  ·rw [hat rfl]
   refine goI dr0 (ff3 e1 wi kN) hm cn trivial trivial trivial trivial ?_;exact a0a rfl IsPure.out
 ·have e1:=ltF h2
  have:i=l.length:=by omega
  subst this;rw [b7J ha];refine goI dr0 e1 trivial trivial trivial trivial trivial trivial ?_;exact a0a rfl IsPure.out
theorem d5G (l:List a0F)(y:a0F)(hl:l.length≤1000000):a0b C0 154 [.sl false 2 (l.map plD),.clo (.func 155) [] [.pptr (plD y)]] (boo (l.any (a4y y))):=by
 refine a0c.walk w1 c3j rfl fun F=>?_
 have c1:=d5J l y hl;have e1:=c5z (a4y y) l;refine goI dr0 e1 c1 trivial trivial trivial trivial trivial ?_;exact a0a rfl IsPure.out
def prE (l:List a0F)(a b:Nat)(i:Nat):Nat:=match l[i]? with
 | some p=>if p.bad a b≠0 then p.bad a b else if (l.take i).any (a4y p) then 9 else 0
 | none=>0
def a2J (l:List a0F)(L W:Int):Nat:=if a4A L W then 3 else if l.length=0 then 2 else if 64<l.length then 5 else b6v (prE l L.toNat W.toNat) l.length
def a0F.gf (p:a0F):GF × GF:=(a5N p.x,a5N p.y)
def b3I (l:List a0F)(e:Nat):D:=if e=0 then .sl false 8 (l.map fun p=>a5m p.gf) else a2d
theorem b1d {L W:Int}(h:a4A L W=false):∃ a b:Nat,L=a∧W=b∧a≤100000∧b≤100000∧1≤a∧1≤b:=by
 unfold a4A at h;simp only [Bool.or_eq_false_iff,decide_eq_false_iff_not] at h;exact ⟨L.toNat,W.toNat,by omega,by omega,by omega,by omega,by omega,by omega⟩
theorem a4K {p:a0F}{a b:Nat}(h:p.bad a b=0):chk p.x=0∧chk p.y=0∧inR (a:Rat) (b:Rat) p.pt=true∧wtB p.wt=true:=by
 unfold a0F.bad at h;split at h
 ·rename_i q;exact absurd h q
 ·rename_i q
  have hab:two (chk p.x) (chk p.y)=0→chk p.x=0∧chk p.y=0:=by unfold two;split<;>omega
  obtain ⟨h1,h2⟩:=hab (Decidable.not_not.1 q);split at h
  ·rename_i q2
   rw [Bool.and_eq_true] at q2;exact ⟨h1,h2,q2.1,q2.2⟩
  ·cases h
theorem c4Y {p:a0F}{a b:Nat}(h:p.bad a b=0):p.at=a5m p.gf:=by
 obtain ⟨h1,h2,-⟩:=a4K h;unfold a0F.at;rw [if_neg]
 ·rfl
 ·unfold two;rw [h1,h2];decide
theorem c0E (p:a0F):∃ c1 c2 c3 c4 c5 c6 c7 c8,p.at=.agg [c1,c2,c3,c4,c5,c6,c7,c8]:=by
 unfold a0F.at;split
 ·exact ⟨_,_,_,_,_,_,_,_,rfl⟩
 ·exact ⟨_,_,_,_,_,_,_,_,rfl⟩
theorem b0k {l:List a0F}{i:Nat}{p:a0F}{β:Type}(f:a0F→β)(h:l[i]? = some p):(l.take (i+1)).map f=(l.take i).map f++[f p]:=by
 rw [List.take_add_one,h,List.map_append];rfl
theorem b9d (bb:Bool)(l:List a0F)(hl:l.length≤100000)(hf:∀ p∈l,p.few)(L W:Int):a0b C0 76 [.sl bb 3 (l.map a0F.D),i64 L,i64 W] (.tup [b3I l (a2J l L W),i64 (a2J l L W:Nat)]):=by
 refine a0c.walk w1 d0U rfl fun F=>?_
 have el:(((l.map a0F.D).length:Nat):Int)=(l.length:Int):=by rw [List.length_map]
 have cs:=b5o L W;have cw1:=a2s ((l.length:Int)==0) 2;have cw2:=a2s (decide ((l.length:Int)>64)) 5;have hC:a2J l L W=if a4A L W then 3 else if l.length=0 then 2 else if 64<l.length then 5 else b6v (prE l L.toNat W.toNat) l.length:=rfl
 have c3:=fun a b c:Int=>b3q [a,b,c] (by simp)
 rcases hS:a4A L W with _|_
 rotate_left
 ·rw [hS,if_pos rfl] at hC cs
  rw [hC];have c3:=c3 3 (if ((l.length:Int)==0) then 2 else 0) (if decide ((l.length:Int)>64) then 5 else 0);rw [show a3f [3,_,_]=3 from rfl] at c3;have e0:((3:Int) != 0)=true:=rfl;refine goI dr0 (ff2 el e0) cs cw1 cw2 c3 trivial trivial ?_;exact ⟨_,a6u (.refl _),IsPure.out,rfl⟩
 rw [hS,if_neg (by decide)] at hC cs;rcases Nat.decEq l.length 0 with h0|h0
 rotate_left
 ·rw [if_pos h0] at hC
  rw [hC];have q1:((l.length:Int)==0)=true:=by rw [h0];rfl
  have q2:decide ((l.length:Int)>64)=false:=decide_eq_false (by omega);rw [q1,if_pos rfl] at cw1;rw [q2,if_neg (by decide)] at cw2;have c3:=c3 0 2 0;rw [show a3f [0,2,0]=2 from rfl] at c3;have e0:((2:Int) != 0)=true:=rfl;refine goI dr0 (ff4 el e0 q1 q2) cs cw1 cw2 c3 trivial trivial ?_;exact ⟨_,a6u (.refl _),IsPure.out,rfl⟩
 rw [if_neg h0] at hC;have q1:((l.length:Int)==0)=false:=beq_eq_false_iff_ne.2 (by omega);rw [q1,if_neg (by decide)] at cw1
 by_cases h64:64<l.length
 ·rw [if_pos h64] at hC
  rw [hC];have q2:decide ((l.length:Int)>64)=true:=decide_eq_true (by omega);rw [q2,if_pos rfl] at cw2;have c3:=c3 0 0 5;rw [show a3f [0,0,5]=5 from rfl] at c3;have e0:((5:Int) != 0)=true:=rfl;refine goI dr0 (ff4 el e0 q1 q2) cs cw1 cw2 c3 trivial trivial ?_;exact ⟨_,a6u (.refl _),IsPure.out,rfl⟩
 rw [if_neg h64] at hC;have q2:decide ((l.length:Int)>64)=false:=decide_eq_false (by omega);rw [q2,if_neg (by decide)] at cw2;have c3:=c3 0 0 0;rw [show a3f [0,0,0]=0 from rfl] at c3;have e0:((0:Int) != 0)=false:=rfl;obtain ⟨a,b,rfl,rfl,ha,hb,-,-⟩:=b1d hS;rw [Int.toNat_natCast,Int.toNat_natCast] at hC;refine goI dr0 (ff4 el e0 q1 q2) cs cw1 cw2 c3 trivial trivial ?_;refine OkS.loop (α:=Nat × Nat × Nat × Nat) (fun p=>⟨[(1,i64 (a:Int)),(2,i64 (b:Int)),(9,a7a 1603 p.2.1 8 ((l.take p.1).map fun p=>a5m p.gf)),(10,a7a 1503 p.2.2.1 2 ((l.take p.1).map plD)),(34,.sl bb 3 (l.map a0F.D)),(35,i64 (l.length:Int)),(36,i64 (p.1:Int))],
   a6g 1603 p.2.1 116 8 ((l.take p.1).map fun p=>a5m p.gf)++a6g 1503 p.2.2.1 233 2 ((l.take p.1).map plD),p.2.2.2⟩) (fun p=>l.length - p.1) (fun p=>p.1≤l.length∧∀ j,j<p.1→prE l a b j=0) (0,0,0,_) ⟨Nat.zero_le _,fun j hj=>absurd hj (Nat.not_lt_zero j)⟩ wkI ?_
 rintro ⟨i,g1,g2,m⟩ F ⟨hi,hz⟩;dsimp only at hi hz ⊢;rcases Nat.lt_or_ge i l.length with h2|h2
 rotate_left
 ·have e1:=ltF h2
  have:i=l.length:=by omega
  subst this;rw [a5O hz] at hC;rw [hC,List.take_length];refine goI dr0 e1 trivial trivial trivial trivial trivial trivial ?_;exact ⟨_,a6u (b8d c5L rfl),IsPure.out,rfl⟩
 have e1:=ltT h2;have wi:=wiI (i:=i) (by omega);obtain ⟨p,hp⟩:=a1T h2;have hm:(l.map a0F.D)[i]? = some (.agg [str (sb p.x),str (sb p.y),i64 p.wt]):=by rw [List.getElem?_map,hp];rfl
 have cp:=c1V p (hf p (List.mem_of_getElem? hp)) a b ha hb;have ca:=d5G (l.take i) p (by rw [List.length_take];omega);have hE:prE l a b i=if p.bad a b≠0 then p.bad a b else if (l.take i).any (a4y p) then 9 else 0:=by unfold prE;rw [hp]
 have hgood:=@c4Y p a b;obtain ⟨tw,htw⟩:∃ x,(l.take i).any (a4y p)=x:=⟨_,rfl⟩
 rw [htw] at ca hE;have cw:=a2s tw 9;have cf:=b3q [((p.bad a b:Nat):Int),if tw then 9 else 0] (by simp);have hF:a3f [((p.bad a b:Nat):Int),if tw then 9 else 0]=((prE l a b i:Nat):Int):=by
  rw [hE];show (if ((p.bad a b:Nat):Int)≠0 then ((p.bad a b:Nat):Int) else if (if tw then 9 else 0:Int)≠0 then (if tw then 9 else 0:Int) else 0)=_
  by_cases g:p.bad a b=0
  ·rw [if_neg (by omega),show (if p.bad a b≠0 then p.bad a b else if tw=true then 9 else 0)=if tw=true then 9 else 0 from if_neg fun h=>h g]
   cases tw<;>rfl
  ·rw [if_pos (by omega),show (if p.bad a b≠0 then p.bad a b else if tw=true then 9 else 0)=p.bad a b from if_pos g]
 rw [hF] at cf;have hfst:=fun h=>b8b hz h2 h
 have hnx:prE l a b i=0→p.bad a b=0:=fun h=>by
  rw [hE] at h
  by_cases g:p.bad a b=0
  ·exact g
  ·rw [if_pos g] at h;exact absurd h g
 obtain ⟨E,hEE⟩:∃ E,prE l a b i=E:=⟨_,rfl⟩
 rw [hEE] at cf hfst hnx;have hs1:=b0k (fun p=>a5m p.gf) hp;have hs2:=b0k plD hp;have hl1:((l.take i).map fun p=>a5m p.gf).length≤i:=by rw [List.length_map,List.length_take];omega
 have hl2:((l.take i).map plD).length≤i:=by rw [List.length_map,List.length_take];omega
 have hsame:((l.take i).map fun p=>a5m p.gf)=[]↔(l.take i).map plD=[]:=by rw [List.map_eq_nil_iff,List.map_eq_nil_iff]
 have pL2:IsPure (.sl false 2 ((l.take i).map plD)):=inferInstance;obtain ⟨c1,c2,c3',c4,c5,c6,c7,c8,hat⟩:=c0E p;have pat:IsPure p.at:=by unfold a0F.at;split<;>exact inferInstance
 rw [hat] at cp hgood pat;rw [show plD p=.agg [str (sb p.x),str (sb p.y)] from rfl] at ca hs2;unfold a0F.D at cp;generalize p.bad a b=BD at *;have hbad:E≠0→a2J l (a:Int) (b:Int)=E∧b3I l E=a2d:=fun h=>⟨by rw [hC];exact hfst h,if_neg h⟩
 clear hC hfst hat;generalize hL1:(l.take i).map (fun p=>a5m p.gf)=L1 at *;generalize hL2:(l.take i).map plD=L2 at *;clear hL1 hL2;rcases L1 with _|⟨x1,L1⟩<;>rcases L2 with _|⟨x2,L2⟩
 ·dsimp only [a1A,a1B,List.nil_append] at *
  refine goI dr0 (ff3 e1 wi kN) hm cp trivial trivial trivial trivial ?_;refine a0l.own _ (a0m.lendS ca rfl (d2u (FzS.of (.nil 2)) (.clo1 (.ptr rfl rfl rfl rfl))) inferInstance (.prim _)) ?_;rintro d H2 n2 ⟨rfl,rfl,rfl⟩;rcases Nat.decEq E 0 with h0|h0
  ·obtain ⟨b1,b2⟩:=hbad h0
   have e3:=c5c h0;rw [b1,b2];refine goI dr0 e3 cw cf trivial trivial trivial trivial ?_;exact ⟨_,a6u (.refl _),IsPure.out,rfl⟩
  ·have e3:=c7k h0
   rw [← hgood (hnx h0)] at hs1;refine goI dr0 (ff2 e3 wi) cw cf trivial trivial trivial trivial ?_;exact ⟨(i+1,_,_,_),⟨h2,fun j hj=>by
    rcases Nat.lt_or_ge j i with q|q
    ·exact hz j q
    ·have:j=i:=by dsimp only at hj;omega
     subst this;exact hEE.trans h0⟩,by dsimp only;omega,by (dsimp only;rw [hs1,hs2];exact wkI)⟩
 ·exact absurd (hsame.1 rfl) (by simp)
 ·exact absurd (hsame.2 rfl) (by simp)
 ·have tk1:List.take (L1.length+1) (x1::L1)=x1::L1:=by simp
  have tk2:List.take (L2.length+1) (x2::L2)=x2::L2:=by simp
  simp only [List.length_cons] at hl1 hl2;dsimp only [a1j,a1k,List.cons_append,List.nil_append];refine goI dr0 (ff3 e1 wi kN) hm cp trivial trivial trivial trivial ?_;refine a0l.own _ (a0m.lendS ca rfl (d2u (FzS.of (b8d (K:=1503) (l:=x2::L2) (.inr rfl) rfl)) (.clo1 (.ptr rfl rfl rfl rfl))) inferInstance (.prim _)) ?_;rintro d H2 n2 ⟨rfl,rfl,rfl⟩;rcases Nat.decEq E 0 with h0|h0
  ·obtain ⟨b1,b2⟩:=hbad h0
   have e3:=c5c h0;rw [b1,b2];refine goI dr0 e3 cw cf trivial trivial trivial trivial ?_;exact ⟨_,a6u (.refl _),IsPure.out,rfl⟩
  ·have e3:=c7k h0
   rw [← hgood (hnx h0)] at hs1;refine goI dr0 (ff4 e3 wi tk1 tk2) cw cf trivial trivial trivial trivial ?_;exact ⟨(i+1,_,_,_),⟨h2,fun j hj=>by
    rcases Nat.lt_or_ge j i with q|q
    ·exact hz j q
    ·have:j=i:=by dsimp only at hj;omega
     subst this;exact hEE.trans h0⟩,by dsimp only;omega,by (dsimp only;rw [hs1,hs2,a2e,a2e];exact wkI)⟩
abbrev a1s:Dr:=[(5,[0,1,2,3,4,5],[6,7,8]),(6,[0,1,2,3,4,5,6,7],[]),(9,[0,1,2,3,4,5,6,7],[]),(12,[0,1,2,3,4,5,6,7,8,9,10],[11]),(21,[0,1,2,3,4,5,6,7],[]),(26,[0,1,2,3,4,5,6,7],[])]
open Go.Proofs Go.RowKit
set_option maxRecDepth 20000
set_option maxHeartbeats 8000000
def xv:Nat→Nat→Nat
 | 0,_=>0
 | _+1,w=>w
def c2h (w h ix:Nat):Nat→List Pnt
 | 0=>[]
 | n+1=>c2h w h ix n++[(((xv ix w:Nat):Rat),((xv n h:Nat):Rat))]
def c0U (w h:Nat):Nat→List Pnt
 | 0=>[]
 | n+1=>c0U w h n++c2h w h n 2
def c4A (c:Bool)(p q:Pnt)(w:Nat):Nat→List Pnt
 | 0=>[]
 | n+1=>c4A c p q w n++c2m c p q ((xv n w:Nat):Rat)
theorem c5k (P:List Pnt)(w h:Nat):c0U w h 2=a7K P (w:Rat) (h:Rat) 0:=by
 show [(((0:Nat):Rat),((0:Nat):Rat)),(((0:Nat):Rat),(h:Rat)),((w:Rat),((0:Nat):Rat)),((w:Rat),(h:Rat))]=_;rw [a4Q];rfl
theorem d1Z (p q:Pnt)(w h:Nat):c4A false p q w 2++c4A true p q h 2=a7i p q (w:Rat) (h:Rat):=by
 show ([]++b1b p q ((0:Nat):Rat)++b1b p q (w:Rat))++([]++b1c p q ((0:Nat):Rat)++b1c p q (h:Rat))=_;rw [a4Q,List.nil_append,List.nil_append,← List.append_assoc];rfl
def a1p (l:List a0F):List Pnt:=l.map a0F.pt
def c7p (l:List a0F):List (GF × GF):=l.map a0F.gf
def c7D (l:List a0F):Prop:=∀ p∈l,p.x.length≤40∧p.y.length≤40
theorem d1b {l:List a0F}(h:c7D l)(hc:∀ p∈l,chk p.x=0∧chk p.y=0):FPs (a1p l) (c7p l) 3:=by
 refine ⟨by unfold a1p c7p;rw [List.length_map,List.length_map],fun i a ha=>?_⟩;unfold c7p at ha;rw [List.getElem?_map] at ha;rcases hp:l[i]? with _|p
 ·rw [hp] at ha;cases ha
 ·rw [hp] at ha
  cases ha;have hm:=List.mem_of_getElem? hp;have e:pt (a1p l) i=p.pt:=by unfold a1p;exact d1M (by rw [List.getElem?_map,hp];rfl)
  rw [e];exact ⟨b5v (hc p hm).1 (h p hm).1,b5v (hc p hm).2 (h p hm).2⟩
theorem b9a {l:List a0F}{L W:Int}(h:a2J l L W=0):∃ a b:Nat,L=a∧W=b∧a≤100000∧b≤100000∧1≤a∧1≤b∧0<l.length∧l.length≤64∧(∀ p∈l,p.bad a b=0)∧∀ j,j<l.length→prE l a b j=0:=by
 unfold a2J at h;split at h
 ·cases h
 rename_i h1;split at h
 ·cases h
 split at h
 ·cases h
 obtain ⟨a,b,rfl,rfl,ha,hb,ha1,hb1⟩:=b1d (Bool.eq_false_iff.2 h1);rw [Int.toNat_natCast,Int.toNat_natCast] at h;have hz:=c1q h;refine ⟨a,b,rfl,rfl,ha,hb,ha1,hb1,by omega,by omega,fun p hp=>?_,hz⟩;obtain ⟨j,hj,e⟩:=List.getElem_of_mem hp
 have:=hz j hj
 unfold prE at this;rw [List.getElem?_eq_getElem hj,e] at this;dsimp only at this
 by_cases g:p.bad a b=0
 ·exact g
 ·rw [if_pos g] at this;exact absurd this g
def c4f (l:List a0F)(L W:Int):List UInt8:=if a2J l L W=0 then a8i (a3z (a1p l) ((L.toNat:Nat):Rat) ((W.toNat:Nat):Rat)) else []
def c4e (l:List a0F)(L W:Int):Nat:=if a2J l L W=0 then b1V (a3z (a1p l) ((L.toNat:Nat):Rat) ((W.toNat:Nat):Rat)) else a2J l L W
theorem d4q (bb:Bool)(l:List a0F)(hl:l.length≤100000)(hf:∀ p∈l,p.few)(L W:Int)(h40:a2J l L W=0→c7D l):a0b C0 30 [.sl bb 3 (l.map a0F.D),i64 L,i64 W] (.tup [str (sb (c4f l L W)),i64 (c4e l L W:Nat)]):=by
 refine a0c.walk w1 d0q rfl fun F=>?_
 have c:=b9d bb l hl hf L W;have hT:c4f l L W=if a2J l L W=0 then a8i (a3z (a1p l) ((L.toNat:Nat):Rat) ((W.toNat:Nat):Rat)) else []:=rfl
 have hE:c4e l L W=if a2J l L W=0 then b1V (a3z (a1p l) ((L.toNat:Nat):Rat) ((W.toNat:Nat):Rat)) else a2J l L W:=rfl
 rw [hT,hE];have hz:=@b9a l L W;obtain ⟨E,hEE⟩:∃ E,a2J l L W=E:=⟨_,rfl⟩
 rw [hEE] at c h40 hz ⊢;rcases Nat.decEq E 0 with h0|h0
 ·have e0:=c5c h0
  rw [if_neg h0,if_neg h0];have pP:IsPure (b3I l E):=by unfold b3I;rw [if_neg h0];exact inferInstance
  rw [show b3I l E=a2d from if_neg h0] at c;refine goI a1s e0 c trivial trivial trivial trivial trivial ?_;exact a0a rfl IsPure.out
 have e0:=c7k h0;obtain ⟨w,h,rfl,rfl,hw,hh,hw1,hh1,hl0,hl64,hbad,-⟩:=hz h0;have hPQ:=d1b (h40 h0) fun p hp=>⟨(a4K (hbad p hp)).1,(a4K (hbad p hp)).2.1⟩
 rw [if_pos h0,if_pos h0,Int.toNat_natCast,Int.toNat_natCast];rw [show b3I l E=.sl false 8 (a0V (c7p l)) from by unfold b3I a0V c7p;rw [if_pos h0,List.map_map];rfl] at c;have hPl:(a1p l).length=l.length:=List.length_map ..;obtain ⟨P,hP⟩:∃ P,a1p l=P:=⟨_,rfl⟩
 obtain ⟨Q,hQ⟩:∃ P,c7p l=P:=⟨_,rfl⟩
 rw [hP] at hPQ hPl ⊢;rw [hQ] at hPQ c;have fw:=d2v (w:Int) (b4O hw);have fh:=d2v (h:Int) (b4O hh);have f0:=d5A;rw [show (⟨mkG (w:Int),1⟩:GF).D=.agg [i64 (mkG (w:Int)).s,(mkG (w:Int)).w,i64 a1y.s,a1y.w] from rfl] at fw;rw [show (⟨mkG (h:Int),1⟩:GF).D=.agg [i64 (mkG (h:Int)).s,(mkG (h:Int)).w,i64 a1y.s,a1y.w] from rfl] at fh;rw [show (⟨mkG 0,1⟩:GF).D=.agg [i64 (mkG 0).s,(mkG 0).w,i64 a1y.s,a1y.w] from rfl] at f0;have z0:=c7g 600 (by decide);have cSide:=fun (r:Rat) (rg:GF) (hr:FR r rg 600) i k (pg qg:GF × GF) (hp:Q[i]? = some pg) (hq:Q[k]? = some qg) (hi:i<P.length) t ht c g n R=>d2b hPQ (by omega) w h hw hh hr (hPQ.at_ i pg hp) (hPQ.at_ k qg hq) (a9Y hi) t ht c g n R
 have cCen:=fun (r:Rat) (rg:GF) (hr:FR r rg 600) i k j (pg qg sg:GF × GF) (hp:Q[i]? = some pg) (hq:Q[k]? = some qg) (hs:Q[j]? = some sg) (hi:i<P.length) g n R=>c0M hPQ (by omega) w h hw hh hr (hPQ.at_ i pg hp) (hPQ.at_ k qg hq) (hPQ.at_ j sg hs) (a9Y hi) g n R
 refine goI a1s e0 c f0 fw fh trivial trivial ?_;have pO:IsPure a1y.w:=inferInstance;have pW:IsPure (mkG (w:Int)).w:=inferInstance;have pH:IsPure (mkG (h:Int)).w:=inferInstance;have pZ:IsPure (mkG 0).w:=inferInstance;have pQ:IsPure (.sl false 8 (a0V Q)):=inferInstance;have frx:∀ n v,v≤100000→FR ((xv n v:Nat):Rat) ⟨mkG ((xv n v:Nat):Int),1⟩ 1:=fun n v hv=>a8u _ (by cases n<;>simp only [xv]<;>omega)
 have hx0:∀ v,mkG ((xv 0 v:Nat):Int)=mkG 0:=fun v=>rfl
 have hx1:∀ n v,mkG ((xv (n+1) v:Nat):Int)=mkG (v:Int):=fun n v=>rfl
 have hxl:∀ n v,v≤100000→xv n v≤100000:=fun n v hv=>by cases n<;>simp only [xv]<;>omega
 have elQ:(((a0V Q).length:Nat):Int)=(P.length:Int):=by rw [List.length_map,hPQ.len]
 obtain ⟨q0,hq0⟩:=a1T (l:=Q) (i:=0) (by rw [hPQ.len];omega);have hq0p:=hPQ.at_ 0 q0 hq0;obtain ⟨q01,q02⟩:=q0;have hm0:(a0V Q)[0]? = some (.agg [i64 q01.n.s,q01.n.w,i64 (mkG (q01.d:Int)).s,(mkG (q01.d:Int)).w,i64 q02.n.s,q02.n.w,i64 (mkG (q02.d:Int)).s,(mkG (q02.d:Int)).w]):=by rw [List.getElem?_map,hq0];rfl
 have cTry0:=fun (r:Rat) (rg:GF) (hr:FR r rg 600) (x y:Nat) (xg yg:GI) (hx:FR (x:Rat) ⟨xg,1⟩ 1) (hy:FR (y:Rat) ⟨yg,1⟩ 1) n R=>c6V hPQ (by omega) w h hw hh hr ((b3k (z:=((x:Rat),(y:Rat))) (a:=(⟨xg,1⟩,⟨yg,1⟩)) ⟨hx,hy⟩ hq0p).mono (show 4*(1+3+1)+1≤600 by decide)) (a:=((x:Rat),(y:Rat))) (ag:=(⟨xg,1⟩,⟨yg,1⟩)) ⟨hx.mono (by decide),hy.mono (by decide)⟩ rfl 26 n R
 have cDist:=fun (x y:Nat) (xg yg:GI) (hx:FR (x:Rat) ⟨xg,1⟩ 1) (hy:FR (y:Rat) ⟨yg,1⟩ 1)=>a5s (z:=((x:Rat),(y:Rat))) (a:=(⟨xg,1⟩,⟨yg,1⟩)) ⟨hx,hy⟩ hq0p (by decide)
 unfold a5m a4u at cTry0 cDist cSide cCen;unfold GF.D at cTry0 cDist cSide;dsimp only at cTry0 cDist cSide cCen;rw [show mkG ((1:Nat):Int)=a1y from rfl] at cTry0 cDist cSide;have hmx:∀ n,n<2→[(.agg [i64 (mkG 0).s,(mkG 0).w,i64 a1y.s,a1y.w]:D),.agg [i64 (mkG (w:Int)).s,(mkG (w:Int)).w,i64 a1y.s,a1y.w]][n]? = some (.agg [i64 (mkG ((xv n w:Nat):Int)).s,(mkG ((xv n w:Nat):Int)).w,i64 a1y.s,a1y.w]):=fun n hn=>by
  rcases n with _|_|n
  ·rfl
  ·rfl
  ·omega
 have hmy:∀ n,n<2→[(.agg [i64 (mkG 0).s,(mkG 0).w,i64 a1y.s,a1y.w]:D),.agg [i64 (mkG (h:Int)).s,(mkG (h:Int)).w,i64 a1y.s,a1y.w]][n]? = some (.agg [i64 (mkG ((xv n h:Nat):Int)).s,(mkG ((xv n h:Nat):Int)).w,i64 a1y.s,a1y.w]):=fun n hn=>by
  rcases n with _|_|n
  ·rfl
  ·rfl
  ·omega
 have lt2:∀ n:Nat,n<2→decide ((n:Int)<2)=true:=fun n hn=>decide_eq_true (by omega)
 have ge2:∀ n:Nat,2≤n→decide ((n:Int)<2)=false:=fun n hn=>decide_eq_false (by omega)
 have wi2:∀ n:Nat,n<2→IntKind.i64.wrap ((n:Int)+1)=((n+1:Nat):Int):=fun n hn=>wiI (by omega)
 refine OkS.loop (α:=Nat × GF × Nat) (fun p=>⟨[(8,.sl false 8 (a0V Q)),(10,.optr 401 14 4 0 0),(11,.optr 507 26 13 0 0),(50,.sl true 4 [.agg [i64 (mkG 0).s,(mkG 0).w,i64 a1y.s,a1y.w],.agg [i64 (mkG (w:Int)).s,(mkG (w:Int)).w,i64 a1y.s,a1y.w]]),(51,i64 2),(52,i64 (p.1:Int))],[rmE 26 (mkG (w:Int)) (mkG (h:Int)) a1y (a0V Q) p.2.1,⟨401,14,114,4,[.agg [i64 (mkG 0).s,(mkG 0).w,i64 a1y.s,a1y.w]]⟩],p.2.2⟩) (fun p=>2 - p.1) (fun p=>p.1≤2∧FR (b3u P w h 0 (c0U w h p.1)) p.2.1 600) (0,⟨mkG 0,1⟩,_) ⟨Nat.zero_le _,z0⟩ wkI ?_;rintro ⟨ix,rg,m⟩ F ⟨hix,hr⟩;dsimp only at hix hr ⊢;rcases Nat.lt_or_ge ix 2 with h2|h2
 ·have e1:=lt2 ix h2
  have wi:=wi2 ix h2;have hm:=hmx ix h2;have fx:=frx ix w hw;generalize hxg:mkG ((xv ix w:Nat):Int)=XG at hm fx;refine goI a1s (ff2 e1 kN) hm trivial trivial trivial trivial trivial ?_;refine OkS.perm (List.Perm.swap _ _ _) ?_;refine OkS.loop (α:=Nat × GF × Nat) (fun p=>⟨[(8,.sl false 8 (a0V Q)),(10,.optr 401 14 4 0 0),(11,.optr 507 26 13 0 0),(13,.optr 802 (m+3) 4 0 0),(50,.sl true 4 [.agg [i64 (mkG 0).s,(mkG 0).w,i64 a1y.s,a1y.w],.agg [i64 (mkG (w:Int)).s,(mkG (w:Int)).w,i64 a1y.s,a1y.w]]),(51,i64 2),(52,i64 (ix:Int)),(61,.sl true 4 [.agg [i64 (mkG 0).s,(mkG 0).w,i64 a1y.s,a1y.w],.agg [i64 (mkG (h:Int)).s,(mkG (h:Int)).w,i64 a1y.s,a1y.w]]),(62,i64 2),(63,i64 (p.1:Int))],[rmE 26 (mkG (w:Int)) (mkG (h:Int)) a1y (a0V Q) p.2.1,⟨802,m+3,114,4,[.agg [i64 XG.s,XG.w,i64 a1y.s,a1y.w]]⟩,⟨401,14,114,4,[.agg [i64 (mkG 0).s,(mkG 0).w,i64 a1y.s,a1y.w]]⟩],p.2.2⟩) (fun p=>2 - p.1) (fun p=>p.1≤2∧FR (b3u P w h 0 (c0U w h ix++c2h w h ix p.1)) p.2.1 600) (0,rg,_) ⟨Nat.zero_le _,by rw [show c2h w h ix 0=[] from rfl,List.append_nil];exact hr⟩ wkI ?_;rintro ⟨iy,rg,m2⟩ F ⟨hiy,hr⟩;dsimp only at hiy hr ⊢;rcases Nat.lt_or_ge iy 2 with h3|h3
  ·have e2:=lt2 iy h3
   have wi:=wi2 iy h3;have hm2:=hmy iy h3;have fy:=frx iy h hh;generalize hyg:mkG ((xv iy h:Nat):Int)=YG at hm2 fy;have cd:=cDist _ _ XG YG fx fy;have ct:=cTry0 _ _ hr _ _ XG YG fx fy;rw [← b0H,← a7q,List.append_assoc] at ct;generalize b3j ({ n:=XG,d:=1 },{ n:=YG,d:=1 }) (q01,q02)=dg at cd ct;refine goI a1s (ff2 e2 kN) hm2 hm0 cd trivial trivial trivial ?_;refine a0l.own _ (a0m.perm (ct _ [_,_,_]) (List.Perm.swap _ _ _)) ?_;rintro d H' n' ⟨rg',g1,rfl⟩;refine goI a1s wi trivial trivial trivial trivial trivial trivial ?_;exact ⟨(iy+1,rg',_),⟨h3,g1⟩,by dsimp only;omega,wkI⟩
  ·have e2:=ge2 iy h3
   have:iy=2:=by omega
   subst this;refine goI a1s (ff2 e2 wi) trivial trivial trivial trivial trivial trivial ?_;exact ⟨(ix+1,rg,_),⟨h2,hr⟩,by dsimp only;omega,wkI⟩
 have e1:=ge2 ix h2
 have:ix=2:=by omega
 subst this;rw [c5k P] at hr;refine goI a1s (ff2 e1 elQ) trivial trivial trivial trivial trivial trivial ?_;refine OkS.loop (α:=Nat × GF × Nat) (fun p=>⟨[(8,.sl false 8 (a0V Q)),(10,.optr 401 14 4 0 0),(11,.optr 507 26 13 0 0),(81,.sl false 8 (a0V Q)),(82,i64 (P.length:Int)),(83,i64 (p.1:Int))],[rmE 26 (mkG (w:Int)) (mkG (h:Int)) a1y (a0V Q) p.2.1,⟨401,14,114,4,[.agg [i64 (mkG 0).s,(mkG 0).w,i64 a1y.s,a1y.w]]⟩],p.2.2⟩) (fun p=>P.length - p.1) (fun p=>p.1≤P.length∧FR (b3u P w h 0 (a7K P (w:Rat) (h:Rat) p.1)) p.2.1 600) (0,rg,_) ⟨Nat.zero_le _,hr⟩ wkI ?_;rintro ⟨i,rg,m⟩ F ⟨hi,hr⟩;dsimp only at hi hr ⊢;rcases Nat.lt_or_ge i P.length with h2|h2
 rotate_left
 ·have e1:=ltF h2
  have:i=P.length:=by omega
  subst this;have cg:=c5M hr (by decide);unfold GF.D at cg;rw [show b3u P w h 0 (a7K P (w:Rat) (h:Rat) P.length)=a3z P (w:Rat) (h:Rat) from rfl] at cg;generalize a8i (a3z P (w:Rat) (h:Rat))=GT at *;generalize b1V (a3z P (w:Rat) (h:Rat))=GN at *;refine goI a1s e1 cg trivial trivial trivial trivial trivial ?_;exact a0a rfl IsPure.out
 have e1:=ltT h2;have wi:=wiI (i:=i) (by omega);obtain ⟨⟨p1,p2⟩,hp⟩:=a1T (l:=Q) (i:=i) (by rw [hPQ.len];exact h2);have hm:(a0V Q)[i]? = some (.agg [i64 p1.n.s,p1.n.w,i64 (mkG (p1.d:Int)).s,(mkG (p1.d:Int)).w,i64 p2.n.s,p2.n.w,i64 (mkG (p2.d:Int)).s,(mkG (p2.d:Int)).w]):=by rw [List.getElem?_map,hp];rfl
 have eti:((((a0V Q).take i).length:Nat):Int)=(i:Int):=by rw [List.length_take,List.length_map,hPQ.len,Nat.min_eq_left hi]
 have pQi:IsPure (.sl false 8 ((a0V Q).take i)):=by rw [← List.map_take];exact inferInstance
 refine goI a1s (ff5 e1 eti kN Nat.sub_zero (@List.drop_zero D)) hm trivial trivial trivial trivial trivial ?_;refine OkS.perm (List.Perm.swap _ _ _) ?_;refine OkS.loop (α:=Nat × GF × Nat) (fun p=>⟨[(8,.sl false 8 (a0V Q)),(10,.optr 401 14 4 0 0),(11,.optr 507 26 13 0 0),(16,i64 (i:Int)),(17,.optr 1703 (m+4) 8 0 0),(81,.sl false 8 (a0V Q)),(82,i64 (P.length:Int)),(83,i64 (i:Int)),(90,.sl false 8 ((a0V Q).take i)),(91,i64 (i:Int)),(92,i64 (p.1:Int))],[rmE 26 (mkG (w:Int)) (mkG (h:Int)) a1y (a0V Q) p.2.1,⟨1703,m+4,116,8,[.agg [i64 p1.n.s,p1.n.w,i64 (mkG (p1.d:Int)).s,(mkG (p1.d:Int)).w,i64 p2.n.s,p2.n.w,i64 (mkG (p2.d:Int)).s,(mkG (p2.d:Int)).w]]⟩,⟨401,14,114,4,[.agg [i64 (mkG 0).s,(mkG 0).w,i64 a1y.s,a1y.w]]⟩],p.2.2⟩) (fun p=>i - p.1) (fun p=>p.1≤i∧FR (b3u P w h 0 (a7K P (w:Rat) (h:Rat) i++c0v P (w:Rat) (h:Rat) i p.1)) p.2.1 600) (0,rg,_) ⟨Nat.zero_le _,by rw [show c0v P (w:Rat) (h:Rat) i 0=[] from rfl,List.append_nil];exact hr⟩ wkI ?_;rintro ⟨k,rg,m2⟩ F ⟨hk,hr⟩;dsimp only at hk hr ⊢;rcases Nat.lt_or_ge k i with h3|h3
 rotate_left
 ·have e2:=ltF h3
  have:k=i:=by omega
  subst this;refine goI a1s (ff2 e2 wi) trivial trivial trivial trivial trivial trivial ?_;exact ⟨(k+1,rg,_),⟨h2,hr⟩,by dsimp only;omega,wkI⟩
 have e2:=ltT h3;have wk:=wiI (i:=k) (by omega);obtain ⟨⟨q1,q2⟩,hq⟩:=a1T (l:=Q) (i:=k) (by rw [hPQ.len];omega);have hmq:((a0V Q).take i)[k]? = some (.agg [i64 q1.n.s,q1.n.w,i64 (mkG (q1.d:Int)).s,(mkG (q1.d:Int)).w,i64 q2.n.s,q2.n.w,i64 (mkG (q2.d:Int)).s,(mkG (q2.d:Int)).w]):=by rw [List.getElem?_take,if_pos h3,List.getElem?_map,hq];rfl
 have etk:((((a0V Q).take k).length:Nat):Int)=(k:Int):=by rw [List.length_take,List.length_map,hPQ.len,Nat.min_eq_left (by omega)]
 have pQk:IsPure (.sl false 8 ((a0V Q).take k)):=by rw [← List.map_take];exact inferInstance
 have cS:=fun (r:Rat) (rg:GF) (hr:FR r rg 600) t ht c n R=>cSide r rg hr i k (p1,p2) (q1,q2) hp hq h2 t ht c 26 n R
 have cC:=fun (r:Rat) (rg:GF) (hr:FR r rg 600) j sg hs n R=>cCen r rg hr i k j (p1,p2) (q1,q2) sg hp hq hs h2 26 n R
 clear cSide cCen;dsimp only at cS cC;refine goI a1s (ff2 e2 kN) hmq trivial trivial trivial trivial trivial ?_;refine OkS.perm (List.Perm.swap _ _ _) ?_;refine OkS.loop (α:=Nat × GF × Nat) (fun p=>⟨[(8,.sl false 8 (a0V Q)),(10,.optr 401 14 4 0 0),(11,.optr 507 26 13 0 0),(16,i64 (i:Int)),(17,.optr 1703 (m+4) 8 0 0),(18,i64 (k:Int)),(19,.optr 2003 (m2+4) 8 0 0),(81,.sl false 8 (a0V Q)),(82,i64 (P.length:Int)),(83,i64 (i:Int)),(90,.sl false 8 ((a0V Q).take i)),(91,i64 (i:Int)),(92,i64 (k:Int)),(102,.sl true 4 [.agg [i64 (mkG 0).s,(mkG 0).w,i64 a1y.s,a1y.w],.agg [i64 (mkG (w:Int)).s,(mkG (w:Int)).w,i64 a1y.s,a1y.w]]),(103,i64 2),(104,i64 (p.1:Int))],[rmE 26 (mkG (w:Int)) (mkG (h:Int)) a1y (a0V Q) p.2.1,⟨2003,m2+4,116,8,[.agg [i64 q1.n.s,q1.n.w,i64 (mkG (q1.d:Int)).s,(mkG (q1.d:Int)).w,i64 q2.n.s,q2.n.w,i64 (mkG (q2.d:Int)).s,(mkG (q2.d:Int)).w]]⟩,⟨1703,m+4,116,8,[.agg [i64 p1.n.s,p1.n.w,i64 (mkG (p1.d:Int)).s,(mkG (p1.d:Int)).w,i64 p2.n.s,p2.n.w,i64 (mkG (p2.d:Int)).s,(mkG (p2.d:Int)).w]]⟩,⟨401,14,114,4,[.agg [i64 (mkG 0).s,(mkG 0).w,i64 a1y.s,a1y.w]]⟩],p.2.2⟩) (fun p=>2 - p.1) (fun p=>p.1≤2∧FR (b3u P w h 0 (a7K P (w:Rat) (h:Rat) i++c0v P (w:Rat) (h:Rat) i k++c4A false (pt P k) (pt P i) w p.1)) p.2.1 600) (0,rg,_) ⟨Nat.zero_le _,by rw [show c4A false (pt P k) (pt P i) w 0=[] from rfl,List.append_nil];exact hr⟩ wkI ?_;rintro ⟨n,rg,m3⟩ F ⟨hn,hr⟩;dsimp only at hn hr ⊢;rcases Nat.lt_or_ge n 2 with h4|h4
 ·have e3:=lt2 n h4
  have wn:=wi2 n h4;have hm2:=hmx n h4;have cs:=cS _ _ hr _ (hxl n w hw) false;rw [← a7q,List.append_assoc] at cs;generalize mkG ((xv n w:Nat):Int)=XG at hm2 cs;refine goI a1s (ff2 e3 kN) hm2 trivial trivial trivial trivial trivial ?_;refine a0l.own _ (a0m.perm (cs _ [_,_,_,_]) (List.Perm.swap _ _ _)) ?_;rintro d H' n' ⟨rg',g1,rfl⟩;refine goI a1s wn trivial trivial trivial trivial trivial trivial ?_;exact ⟨(n+1,rg',_),⟨h4,g1⟩,by dsimp only;omega,wkI⟩
 have e3:=ge2 n h4
 have:n=2:=by omega
 subst this;refine goI a1s e3 trivial trivial trivial trivial trivial trivial ?_;refine OkS.loop (α:=Nat × GF × Nat) (fun p=>⟨[(8,.sl false 8 (a0V Q)),(10,.optr 401 14 4 0 0),(11,.optr 507 26 13 0 0),(16,i64 (i:Int)),(17,.optr 1703 (m+4) 8 0 0),(18,i64 (k:Int)),(19,.optr 2003 (m2+4) 8 0 0),(81,.sl false 8 (a0V Q)),(82,i64 (P.length:Int)),(83,i64 (i:Int)),(90,.sl false 8 ((a0V Q).take i)),(91,i64 (i:Int)),(92,i64 (k:Int)),(119,.sl true 4 [.agg [i64 (mkG 0).s,(mkG 0).w,i64 a1y.s,a1y.w],.agg [i64 (mkG (h:Int)).s,(mkG (h:Int)).w,i64 a1y.s,a1y.w]]),(120,i64 2),(121,i64 (p.1:Int))],[rmE 26 (mkG (w:Int)) (mkG (h:Int)) a1y (a0V Q) p.2.1,⟨2003,m2+4,116,8,[.agg [i64 q1.n.s,q1.n.w,i64 (mkG (q1.d:Int)).s,(mkG (q1.d:Int)).w,i64 q2.n.s,q2.n.w,i64 (mkG (q2.d:Int)).s,(mkG (q2.d:Int)).w]]⟩,⟨1703,m+4,116,8,[.agg [i64 p1.n.s,p1.n.w,i64 (mkG (p1.d:Int)).s,(mkG (p1.d:Int)).w,i64 p2.n.s,p2.n.w,i64 (mkG (p2.d:Int)).s,(mkG (p2.d:Int)).w]]⟩,⟨401,14,114,4,[.agg [i64 (mkG 0).s,(mkG 0).w,i64 a1y.s,a1y.w]]⟩],p.2.2⟩) (fun p=>2 - p.1) (fun p=>p.1≤2∧FR (b3u P w h 0 (a7K P (w:Rat) (h:Rat) i++c0v P (w:Rat) (h:Rat) i k++c4A false (pt P k) (pt P i) w 2++c4A true (pt P k) (pt P i) h p.1)) p.2.1 600) (0,rg,_) ⟨Nat.zero_le _,by rw [show c4A true (pt P k) (pt P i) h 0=[] from rfl,List.append_nil];exact hr⟩ wkI ?_;rintro ⟨n,rg,m4⟩ F ⟨hn,hr⟩;dsimp only at hn hr ⊢;rcases Nat.lt_or_ge n 2 with h4|h4
 ·have e3:=lt2 n h4
  have wn:=wi2 n h4;have hm2:=hmy n h4;have cs:=cS _ _ hr _ (hxl n h hh) true;rw [← a7q,List.append_assoc] at cs;generalize mkG ((xv n h:Nat):Int)=XG at hm2 cs;refine goI a1s (ff2 e3 kN) hm2 trivial trivial trivial trivial trivial ?_;refine a0l.own _ (a0m.perm (cs _ [_,_,_,_]) (List.Perm.swap _ _ _)) ?_;rintro d H' n' ⟨rg',g1,rfl⟩;refine goI a1s wn trivial trivial trivial trivial trivial trivial ?_;exact ⟨(n+1,rg',_),⟨h4,g1⟩,by dsimp only;omega,wkI⟩
 have e3:=ge2 n h4
 have:n=2:=by omega
 subst this;rw [List.append_assoc,d1Z] at hr;refine goI a1s (ff5 e3 etk kN Nat.sub_zero (@List.drop_zero D)) trivial trivial trivial trivial trivial trivial ?_;refine OkS.loop (α:=Nat × GF × Nat) (fun p=>⟨[(8,.sl false 8 (a0V Q)),(10,.optr 401 14 4 0 0),(11,.optr 507 26 13 0 0),(16,i64 (i:Int)),(17,.optr 1703 (m+4) 8 0 0),(18,i64 (k:Int)),(19,.optr 2003 (m2+4) 8 0 0),(81,.sl false 8 (a0V Q)),(82,i64 (P.length:Int)),(83,i64 (i:Int)),(90,.sl false 8 ((a0V Q).take i)),(91,i64 (i:Int)),(92,i64 (k:Int)),(133,.sl false 8 ((a0V Q).take k)),(134,i64 (k:Int)),(135,i64 (p.1:Int))],[rmE 26 (mkG (w:Int)) (mkG (h:Int)) a1y (a0V Q) p.2.1,⟨2003,m2+4,116,8,[.agg [i64 q1.n.s,q1.n.w,i64 (mkG (q1.d:Int)).s,(mkG (q1.d:Int)).w,i64 q2.n.s,q2.n.w,i64 (mkG (q2.d:Int)).s,(mkG (q2.d:Int)).w]]⟩,⟨1703,m+4,116,8,[.agg [i64 p1.n.s,p1.n.w,i64 (mkG (p1.d:Int)).s,(mkG (p1.d:Int)).w,i64 p2.n.s,p2.n.w,i64 (mkG (p2.d:Int)).s,(mkG (p2.d:Int)).w]]⟩,⟨401,14,114,4,[.agg [i64 (mkG 0).s,(mkG 0).w,i64 a1y.s,a1y.w]]⟩],p.2.2⟩) (fun p=>k - p.1) (fun p=>p.1≤k∧FR (b3u P w h 0 (a7K P (w:Rat) (h:Rat) i++c0v P (w:Rat) (h:Rat) i k++a7i (pt P k) (pt P i) (w:Rat) (h:Rat)++b3c P i k p.1)) p.2.1 600) (0,rg,_) ⟨Nat.zero_le _,by rw [show b3c P i k 0=[] from rfl,List.append_nil];exact hr⟩ wkI ?_;rintro ⟨j,rg,m5⟩ F ⟨hj,hr⟩;dsimp only at hj hr ⊢;rcases Nat.lt_or_ge j k with h5|h5
 ·have e4:=ltT h5
  have wj:=wiI (i:=j) (by omega);obtain ⟨⟨s1,s2⟩,hs⟩:=a1T (l:=Q) (i:=j) (by rw [hPQ.len];omega);have hms:((a0V Q).take k)[j]? = some (.agg [i64 s1.n.s,s1.n.w,i64 (mkG (s1.d:Int)).s,(mkG (s1.d:Int)).w,i64 s2.n.s,s2.n.w,i64 (mkG (s2.d:Int)).s,(mkG (s2.d:Int)).w]):=by rw [List.getElem?_take,if_pos h5,List.getElem?_map,hs];rfl
  have cs:=cC _ _ hr j (s1,s2) hs;rw [← a7q,List.append_assoc] at cs;dsimp only at cs;refine goI a1s (ff2 e4 kN) hms trivial trivial trivial trivial trivial ?_;refine a0l.own _ (a0m.perm (cs _ [_,_,_,_]) (List.Perm.swap _ _ _)) ?_;rintro d H' n' ⟨rg',g1,rfl⟩;refine goI a1s wj trivial trivial trivial trivial trivial trivial ?_;exact ⟨(j+1,rg',_),⟨h5,g1⟩,by dsimp only;omega,wkI⟩
 have e4:=ltF h5
 have:j=k:=by omega
 subst this;rw [List.append_assoc,List.append_assoc] at hr;refine goI a1s (ff2 e4 wk) trivial trivial trivial trivial trivial trivial ?_;exact ⟨(j+1,rg,_),⟨h3,hr⟩,by dsimp only;omega,wkI⟩
structure SmQ (r:Rat):Prop where
 big:b1p r=false
 len:(txt r).length≤40
 den:r.den≤1000
 rk:rk r 2
theorem smq {x d:Nat}(hx:x≤1000000000)(h0:0<d)(hd:d≤1000):SmQ (mkRat (x:Int) d):=by
 obtain ⟨q1,q2⟩:=a5W (x:=(x:Int)) (d:=d) (by omega);have n1:(mkRat (x:Int) d).num.natAbs≤1000000000:=by
  rw [q1,b2A];exact Nat.le_trans (Nat.div_le_self _ _) (by omega)
 have n2:(mkRat (x:Int) d).den≤1000:=by rw [q2];exact Nat.le_trans (Nat.div_le_self _ _) hd
 have hn:nb (mkRat (x:Int) d) 1000000000 1000:=⟨n1,n2⟩
 refine ⟨b8H hn (by decide +kernel) (by decide +kernel),?_,n2,d1t hn (by decide) (by decide)⟩;have l1:=b0J (mkRat (x:Int) d).num (by omega) (by omega);have l2:=a0R 3 (mkRat (x:Int) d).den (by omega);unfold txt;split
 ·omega
 ·rw [List.length_append,List.length_cons];omega
theorem a8v {n:Nat}(h:0<n):(0:Rat)<(n:Rat):=by
 have:=Rat.intCast_lt_intCast.2 (show ((0:Nat):Int)<(n:Int) by omega)
 rw [Rat.intCast_natCast,Rat.intCast_natCast] at this;exact this
theorem a9U {m n:Nat}(h:m≤n):(m:Rat)≤(n:Rat):=by
 have:=Rat.intCast_le_intCast.2 (show (m:Int)≤(n:Int) by omega)
 rw [Rat.intCast_natCast,Rat.intCast_natCast] at this;exact this
theorem b8G (m n:Nat):((m*n:Nat):Rat)=(m:Rat)*(n:Rat):=by
 rw [← Rat.intCast_natCast,Int.natCast_mul,Rat.intCast_mul,Rat.intCast_natCast,Rat.intCast_natCast]
theorem b2k (x d:Nat):mkRat (x:Int) d=(x:Rat) / (d:Rat):=by
 rw [Rat.mkRat_eq_div,Rat.intCast_natCast]
theorem b4L {x d:Nat}(h0:0<d):mkRat (x:Int) d*(d:Rat)=(x:Rat):=by
 have:=a8v h0
 rw [b2k,Rat.div_mul_cancel (by grind)]
theorem c1K {x d:Nat}(h0:0<d):0≤mkRat (x:Int) d:=by
 rw [b2k];exact div_pos (a9U (Nat.zero_le x)) (a8v h0)
theorem d1q {x d w:Nat}(h0:0<d)(h:x≤w*d):mkRat (x:Int) d≤(w:Rat):=by
 have hp:=a8v h0;have h1:(0:Rat)≤(w:Rat)*(d:Rat) - (x:Rat):=by
  have:=a9U h
  rw [b8G] at this
  grind
 have h2:=div_pos h1 hp;have e:((w:Rat)*(d:Rat) - (x:Rat)) / (d:Rat)=(w:Rat) - mkRat (x:Int) d:=by
  rw [b2k,Rat.div_def,Rat.div_def]
  have:=Rat.mul_inv_cancel (d:Rat) (by grind)
  grind
 rw [e] at h2
 grind
theorem c4z {a b:Nat}(hb:0<b):rtx a b=sb (txt (mkRat (a:Int) b)):=by
 obtain ⟨q1,q2⟩:=a5W (x:=(a:Int)) (d:=b) (by omega);have e1:(mkRat (a:Int) b).num=((a / Nat.gcd a b:Nat):Int):=by
  rw [q1,Int.natAbs_natCast,decide_eq_false (by omega)];rfl
 have e2:(mkRat (a:Int) b).den=a.gcd b*(b / a.gcd b) / a.gcd b:=by
  rw [q2,Int.natAbs_natCast,Nat.mul_div_cancel_left _ (Nat.gcd_pos_of_pos_right _ hb)]
 rw [Nat.mul_div_cancel_left _ (Nat.gcd_pos_of_pos_right _ hb)] at e2;unfold rtx txt c0d;rw [e1,e2];have e3:Lib.itoa ((b / Nat.gcd a b:Nat):Int)=Lib.decDigits (b / Nat.gcd a b):=b3A false _ (fun h=>by cases h);rw [e3]
 by_cases h:b / Nat.gcd a b=1
 ·rw [if_pos h,if_pos (by omega)]
 ·rw [if_neg h,if_neg (by omega)]
def prb (X Y:Rat):a0F:=⟨txt X,txt Y,1⟩
theorem b2r (X Y:Rat):(prb X Y).pt=(X,Y):=by unfold prb a0F.pt;rw [a5Z,a5Z]
theorem c6r {X Y:Rat}{w h:Nat}(hX:SmQ X)(hY:SmQ Y)(hi:inR (w:Rat) (h:Rat) (X,Y)=true):(prb X Y).bad w h=0:=by
 have e:two (chk (prb X Y).x) (chk (prb X Y).y)=0:=by
  show two (chk (txt X)) (chk (txt Y))=0;rw [a6m hX.big,a6m hY.big];rfl
 unfold a0F.bad;rw [e,b2r,hi];rfl
theorem b9b {X Y:Rat}{w h:Nat}(hX:SmQ X)(hY:SmQ Y)(hw:w≤100000)(hh:h≤100000)(hi:inR (w:Rat) (h:Rat) (X,Y)=true):Okp (X,Y):=by
 obtain ⟨r1,r2,r3,r4⟩:=a3Q.1 hi;have k:(1000:Nat)≤E12:=by decide +kernel
 exact ⟨r1,r2,Rat.le_trans r3 (a9U hw),Rat.le_trans r4 (a9U hh),Nat.le_trans hX.den k,Nat.le_trans hY.den k⟩
theorem a9X {X Y X' Y':Rat}(h:X≠X'∨Y≠Y'):a4y (prb X Y) (prb X' Y')=false:=by
 have t:∀ {a b:Rat},txt a=txt b→a=b:=fun {a b} e=>by rw [← a5Z a,e,a5Z]
 show (decide (txt X'=txt X)&&(decide (txt Y'=txt Y)&&true))=false;rcases h with h|h
 ·rw [decide_eq_false (fun e=>h (t e).symm)];rfl
 ·rw [decide_eq_false (p:=txt Y'=txt Y) (fun e=>h (t e).symm)];cases decide (txt X'=txt X)<;>rfl
theorem b9L {w h:Nat}(h1:1≤w)(h2:w≤100000)(h3:1≤h)(h4:h≤100000):a4A (w:Int) (h:Int)=false:=by
 unfold a4A;rw [decide_eq_false (by omega),decide_eq_false (by omega),decide_eq_false (by omega),decide_eq_false (by omega)];rfl
def a3A (n w h:Nat):List a0F:=(a8D n w h n).map fun q=>prb (mkRat (q.1:Int) q.2.1) (mkRat (q.2.2.1:Int) q.2.2.2)
theorem d1l (n w h:Nat)(hn:0<n):(a8D n w h n).map a3E=(a3A n w h).map a0F.D:=by
 unfold a3A;rw [List.map_map];refine List.map_congr_left fun q hq=>?_
 unfold a8D at hq;obtain ⟨i,-,hi⟩:=List.mem_flatMap.1 hq;unfold c7v at hi;obtain ⟨k,-,rfl⟩:=List.mem_map.1 hi;unfold a3E;dsimp only;rw [c4z (by omega),c4z (by omega)];rfl
theorem d1m {x d y w h:Nat}(h0:0<d)(hx:x≤w*d)(hy:y≤h*d):inR (w:Rat) (h:Rat) (mkRat (x:Int) d,mkRat (y:Int) d)=true :=
 a3Q.2 ⟨c1K h0,c1K h0,d1q h0 hx,d1q h0 hy⟩
theorem a9M {l:List a0F}{w h:Nat}(h1:1≤w)(h2:w≤100000)(h3:1≤h)(h4:h≤100000)(hl:0<l.length)(hl2:l.length≤64)(hp:∀ p∈l,∃ X Y,p=prb X Y∧SmQ X∧SmQ Y∧inR (w:Rat) (h:Rat) (X,Y)=true)(hd:∀ j p,l[j]? = some p→(l.take j).any (a4y p)=false):a2J l (w:Int) (h:Int)=0∧c7D l∧b1p (a3z (a1p l) (w:Rat) (h:Rat))=false:=by
 refine ⟨?_,fun p hm=>?_,a8h (by unfold a1p;rw [List.length_map];exact hl) (fun q hq=>?_) h2 h4⟩
 ·unfold a2J
  rw [b9L h1 h2 h3 h4,if_neg (by decide),if_neg (by omega),if_neg (by omega),Int.toNat_natCast,Int.toNat_natCast];refine a5O fun j hj=>?_
  obtain ⟨p,hj2⟩:=a1T hj;obtain ⟨X,Y,rfl,hX,hY,hi⟩:=hp p (List.mem_of_getElem? hj2);unfold prE;rw [hj2];dsimp only;rw [c6r hX hY hi,hd j _ hj2];rfl
 ·obtain ⟨X,Y,rfl,hX,hY,-⟩:=hp p hm
  exact ⟨hX.len,hY.len⟩
 ·obtain ⟨p,hm,rfl⟩:=List.mem_map.1 hq
  obtain ⟨X,Y,rfl,hX,hY,hi⟩:=hp p hm;rw [b2r];exact b9b hX hY h2 h4 hi
theorem c6K {n w h:Nat}(hn:n=1∨n=2)(h1:1≤w)(h2:w≤100000)(h3:1≤h)(h4:h≤100000):a2J (a3A n w h) (w:Int) (h:Int)=0∧c7D (a3A n w h)∧b1p (a3z (a1p (a3A n w h)) (w:Rat) (h:Rat))=false∧(a3A n w h).length≤4∧a3z (a1p (a3A n w h)) (w:Rat) (h:Rat)=mkRat (w:Int) (2*n)*mkRat (w:Int) (2*n)+mkRat (h:Int) (2*n)*mkRat (h:Int) (2*n):=by
 have dv3:∀ x:Nat,mkRat ((x*3:Nat):Int) 4=3*mkRat (x:Int) 4:=fun x=>by
  rw [b2k,b2k,b8G,Rat.div_def,Rat.div_def,show ((3:Nat):Rat)=3 from rfl];grind
 rcases hn with rfl|rfl
 ·have e:a3A 1 w h=[prb (mkRat (w:Int) 2) (mkRat (h:Int) 2)]:=by
   show [prb (mkRat ((w*1:Nat):Int) 2) (mkRat ((h*1:Nat):Int) 2)]=_;rw [Nat.mul_one,Nat.mul_one]
  have hw:=smq (x:=w) (d:=2) (by omega) (by decide) (by decide);have hh:=smq (x:=h) (d:=2) (by omega) (by decide) (by decide);have hi:=d1m (x:=w) (y:=h) (w:=w) (h:=h) (d:=2) (by decide) (by omega) (by omega);have f:=a9M (l:=a3A 1 w h) h1 h2 h3 h4 (by rw [e];exact (by decide:0<1)) (by rw [e];exact (by decide:1≤64)) (fun p hp=>by
   rw [e,List.mem_singleton] at hp;exact ⟨_,_,hp,hw,hh,hi⟩) (fun j p hj=>by
   rw [e] at hj ⊢
   match j with
   | 0=>rfl
   | j+1=>simp at hj)
  refine ⟨f.1,f.2.1,f.2.2,by rw [e];exact (by decide:1≤4),?_⟩;have e2:a1p (a3A 1 w h)=[(mkRat (w:Int) 2,mkRat (h:Int) 2)]:=by rw [e];unfold a1p;rw [List.map_cons,b2r];rfl
  rw [e2];have m1:=b4L (x:=w) (d:=2) (by decide);have m2:=b4L (x:=h) (d:=2) (by decide);rw [show ((2:Nat):Rat)=2 from rfl] at m1 m2;exact c1v (c1K (by decide)) (c1K (by decide)) (by grind) (by grind)
 ·obtain ⟨a,ha⟩:∃ a,mkRat (w:Int) 4=a:=⟨_,rfl⟩
  obtain ⟨b,hb⟩:∃ b,mkRat (h:Int) 4=b:=⟨_,rfl⟩
  have e:a3A 2 w h=[prb a b,prb a (3*b),prb (3*a) b,prb (3*a) (3*b)]:=by
   show [prb (mkRat ((w*1:Nat):Int) 4) (mkRat ((h*1:Nat):Int) 4),prb (mkRat ((w*1:Nat):Int) 4) (mkRat ((h*3:Nat):Int) 4),prb (mkRat ((w*3:Nat):Int) 4) (mkRat ((h*1:Nat):Int) 4),prb (mkRat ((w*3:Nat):Int) 4) (mkRat ((h*3:Nat):Int) 4)]=_;rw [Nat.mul_one,Nat.mul_one,dv3,dv3,ha,hb]
  have wa:SmQ a:=by rw [← ha];exact smq (by omega) (by decide) (by decide)
  have wb:SmQ b:=by rw [← hb];exact smq (by omega) (by decide) (by decide)
  have wa3:SmQ (3*a):=by rw [← ha,← dv3];exact smq (by omega) (by decide) (by decide)
  have wb3:SmQ (3*b):=by rw [← hb,← dv3];exact smq (by omega) (by decide) (by decide)
  have m1:=b4L (x:=w) (d:=4) (by decide);have m2:=b4L (x:=h) (d:=4) (by decide);rw [show ((4:Nat):Rat)=4 from rfl] at m1 m2;have pw:=a8v (n:=w) (by omega);have ph:=a8v (n:=h) (by omega);rw [ha] at m1;rw [hb] at m2;have a0:0<a:=by grind
  have b0:0<b:=by grind
  have hi:∀ X Y:Rat,(X=a∨X=3*a)→(Y=b∨Y=3*b)→inR (w:Rat) (h:Rat) (X,Y)=true:=fun X Y hX hY=>by
   refine a3Q.2 ⟨?_,?_,?_,?_⟩<;>dsimp only
   ·rcases hX with rfl|rfl<;>grind
   ·rcases hY with rfl|rfl<;>grind
   ·rcases hX with rfl|rfl<;>grind
   ·rcases hY with rfl|rfl<;>grind
  have na:a≠3*a:=by grind
  have nb':b≠3*b:=by grind
  have s10:=a9X (X:=a) (X':=a) (Y:=3*b) (Y':=b) (.inr fun e=>nb' e.symm);have s20:=a9X (X:=3*a) (X':=a) (Y:=b) (Y':=b) (.inl fun e=>na e.symm);have s21:=a9X (X:=3*a) (X':=a) (Y:=b) (Y':=3*b) (.inl fun e=>na e.symm);have s30:=a9X (X:=3*a) (X':=a) (Y:=3*b) (Y':=b) (.inl fun e=>na e.symm);have s31:=a9X (X:=3*a) (X':=a) (Y:=3*b) (Y':=3*b) (.inl fun e=>na e.symm);have s32:=a9X (X:=3*a) (X':=3*a) (Y:=3*b) (Y':=b) (.inr fun e=>nb' e.symm);have f:=a9M (l:=a3A 2 w h) h1 h2 h3 h4 (by rw [e];exact (by decide:0<4)) (by rw [e];exact (by decide:4≤64)) (fun p hp=>by
   rw [e] at hp;simp only [List.mem_cons,List.not_mem_nil,or_false] at hp;rcases hp with rfl|rfl|rfl|rfl
   ·exact ⟨_,_,rfl,wa,wb,hi _ _ (.inl rfl) (.inl rfl)⟩
   ·exact ⟨_,_,rfl,wa,wb3,hi _ _ (.inl rfl) (.inr rfl)⟩
   ·exact ⟨_,_,rfl,wa3,wb,hi _ _ (.inr rfl) (.inl rfl)⟩
   ·exact ⟨_,_,rfl,wa3,wb3,hi _ _ (.inr rfl) (.inr rfl)⟩) (fun j p hj=>by
   rw [e] at hj ⊢
   match j with
   | 0=>rfl
   | 1=>cases hj;simp [s10]
   | 2=>cases hj;simp [s20,s21]
   | 3=>cases hj;simp [s30,s31,s32]
   | j+4=>simp at hj)
  refine ⟨f.1,f.2.1,f.2.2,by rw [e];exact (by decide:4≤4),?_⟩;have e2:a1p (a3A 2 w h)=[(a,b),(a,3*b),(3*a,b),(3*a,3*b)]:=by
   rw [e];unfold a1p;simp only [List.map_cons,List.map_nil,b2r]
  rw [e2];show _=mkRat (w:Int) 4*mkRat (w:Int) 4+mkRat (h:Int) 4*mkRat (h:Int) 4;rw [ha,hb];exact b8j (Rat.le_of_lt a0) (Rat.le_of_lt b0) (by grind) (by grind)
theorem b4N (n:Nat)(hn:n≤100000):rk (n:Rat) 1:=(a8u n hn).rk
theorem c7b (n:Nat)(hn:n<1000000000):a0b C0 84 [i64 (n:Int)] (rZ (n:Int)):=by
 refine a0c.walk w1 d1a rfl fun F=>?_
 have q1:decide ((n:Int)<0)=false:=decide_eq_false (by omega);have q2:((n:Int)).tmod 1000000000=(n:Int):=Int.tmod_eq_of_lt (by omega) (by omega);have q3:((n:Int)).tdiv 1000000000=0:=Int.tdiv_eq_zero_of_lt (by omega) (by omega);have q4:IntKind.i64.wrap 0=0:=rfl;have q5:IntKind.i64.wrap (n:Int)=(n:Int):=wI (by omega) (by omega);have q6:((0:Int) != 0)=false:=rfl;have c0:=a7A false [] (fun a h=>by cases h) (by decide);have e0:rZ (sg false (a0g []))=rZ 0:=rfl;rw [e0] at c0;have cn:n≠0→a0b C0 162 [boo false,rL [n]] (rZ (n:Int)):=fun h=>by
  have:=a7A false [n] (fun a h=>by rw [List.mem_singleton.1 h];exact hn) (by simp)
  have e:a0g [n]=n:=by unfold a0g a0g;omega
  rw [e] at this;exact this
 rcases Nat.decEq n 0 with h0|h0
 rotate_left
 ·subst h0
  have q7:(((0:Nat):Int) != 0)=false:=rfl;refine goI dr0 q1 trivial trivial trivial trivial trivial trivial ?_;refine OkS.loop (α:=Nat) (fun p=>⟨[(0,i64 ((0:Nat):Int)),(2,.optr 0 0 2 0 0),(3,a2d),(4,boo false)],[⟨0,0,157,2,[.agg [boo false,a2d]]⟩],p⟩) (fun _=>0) (fun _=>True) _ trivial wkI ?_;intro m F _;refine goI dr0 q7 trivial trivial trivial trivial trivial trivial ?_;refine a0l.own _ (a0m.give [⟨0,0,157,2,[.agg [boo false,a2d]]⟩] c0 (.keep .nil) ⟨.refl _,.nil 1,trivial⟩ inferInstance) ?_;rintro d H' n' ⟨rfl,rfl,rfl⟩;refine goI dr0 kB trivial trivial trivial trivial trivial trivial ?_;exact a0a rfl IsPure.out
 have cn:=cn h0;have q7:=c5c h0;refine goI dr0 q1 trivial trivial trivial trivial trivial trivial ?_;refine OkS.loop (α:=Bool × Nat × Nat) (fun p=>⟨[(0,if p.1 then i64 0 else i64 (n:Int)),(2,.optr 0 0 2 0 0),(3,if p.1 then .osl 703 p.2.1 1 0 1 else a2d),(4,boo false)],(if p.1 then [⟨703,p.2.1,3,1,[i64 (n:Int)]⟩] else [])++[⟨0,0,157,2,[.agg [boo false,a2d]]⟩],p.2.2⟩) (fun p=>if p.1 then 0 else 1) (fun _=>True) (false,0,_) trivial wkI ?_;rintro ⟨t,g,m⟩ F -;cases t
 ·dsimp only [Bool.false_eq_true,if_false,List.nil_append]
  refine goI dr0 (ff6 q7 q1 q2 q3 q4 q5) trivial trivial trivial trivial trivial trivial ?_;exact ⟨(true,_,_),trivial,Nat.zero_lt_one,wkI⟩
 ·dsimp only [if_true,List.cons_append,List.nil_append]
  refine goI dr0 q6 trivial trivial trivial trivial trivial trivial ?_;refine a0l.own _ (a0m.give [⟨0,0,157,2,[.agg [boo false,a2d]]⟩] cn (.drop (.keep .nil)) ⟨.refl _,b0G rfl,trivial⟩ inferInstance) ?_;rintro d H' n' ⟨rfl,rfl,rfl⟩;refine goI dr0 kB trivial trivial trivial trivial trivial trivial ?_;exact a0a rfl IsPure.out
theorem d1c (n:Nat)(hn:n≤100000):a0b C0 152 [i64 (n:Int)] (rR (n:Rat)):=by
 refine a0c.walk w1 c8F rfl fun F=>?_
 have c1:=c7b n (by omega);have hr:b2Q (n:Int):=by
  unfold b2Q;rw [Int.natAbs_natCast];exact Nat.lt_of_le_of_lt (a0Z (k:=1) (Nat.lt_of_le_of_lt hn (by decide +kernel))) (by decide)
 have c2:=c0e (n:Int) hr;have e:str (sb (Lib.itoa (n:Int)))=rR (n:Rat):=by unfold rR;rw [← Rat.intCast_natCast,c6W]
 rw [e] at c2;unfold rZ at c1 c2;refine goI dr0 kB c1 c2 trivial trivial trivial trivial ?_;exact a0a rfl IsPure.out
def c5R (a:Rat)(n:Nat):Bool:=decide (0≤a)&&decide (a≤(n:Rat))
theorem b9w (a:Rat)(k:Nat)(ha:rk a k)(hk:k≤9000)(n:Nat)(hn:n≤100000):a0b C0 75 [rR a,i64 (n:Int)] (boo (c5R a n)):=by
 refine a0c.walk w1 d3H rfl fun F=>?_
 have c1:=b9N a (a5A ha (by omega));have c2:=d1c n hn;have c3:=d2C a (n:Rat) k 1 ha (b4N n hn) (by omega);have e1:=@a8P a;have e2:=@a5r a (n:Rat);unfold c5R;obtain ⟨p,hp⟩:∃ p,decide (0≤a)=p:=⟨_,rfl⟩
 obtain ⟨q,hq⟩:∃ p,decide (a≤(n:Rat))=p:=⟨_,rfl⟩
 rw [hp] at e1;rw [hq] at e2;rw [hp,hq];unfold rR at *;cases p
 ·refine goI dr0 (ff2 e1 e2) c1 c2 c3 trivial trivial trivial ?_
  exact a0a rfl IsPure.out
 ·refine goI dr0 (ff2 e1 e2) c1 c2 c3 trivial trivial trivial ?_
  exact a0a rfl IsPure.out
theorem c5Q (a b:Nat)(z:Pnt):inR (a:Rat) (b:Rat) z=(c5R z.1 a&&c5R z.2 b):=by
 unfold inR c5R;cases decide (0≤z.1)<;>cases decide (0≤z.2)<;>cases decide (z.1≤(a:Rat))<;>cases decide (z.2≤(b:Rat))<;>rfl
abbrev a1n:Dr:=[(18,[0,1,2,3,4,5,6,7,8,9,10,11,12,13,14,15,16,17,18,19,20,21],[22,23])]
open Go.Proofs Go.RowKit
set_option maxRecDepth 20000
set_option maxHeartbeats 4000000
theorem d5l {α}{l:List α}{i:Nat}{a:α}(f:α→Bool)(h:l[i]? = some a):(l.take (i+1)).any f=((l.take i).any f||f a):=by
 rw [List.take_add_one,h,List.any_append];simp
theorem b5e (bb:Bool)(l:List a0F)(hl:l.length≤100000)(hf:∀ p∈l,p.few)(L W:Int):a0b C0 29 [.sl bb 3 (l.map a0F.D),i64 L,i64 W] (i64 (a2J l L W:Nat)):=by
 refine a0c.walk w1 d3h rfl fun F=>?_
 have el:(((l.map a0F.D).length:Nat):Int)=(l.length:Int):=by rw [List.length_map]
 have cs:=b9y L W;have hC:a2J l L W=if a4A L W then 3 else if l.length=0 then 2 else if 64<l.length then 5 else b6v (prE l L.toNat W.toNat) l.length:=rfl
 have pL:IsPure (.sl bb 3 (l.map a0F.D)):=inferInstance;have e30:((3:Int) != 0)=true:=rfl;have e00:((0:Int) != 0)=false:=rfl;rcases hS:a4A L W with _|_
 rotate_left
 ·rw [hS,if_pos rfl] at hC cs
  rw [hC];refine goI a1n (ff2 el e30) cs trivial trivial trivial trivial trivial ?_;exact a0a rfl IsPure.out
 rw [hS,if_neg (by decide)] at hC cs;rcases Nat.decEq l.length 0 with h0|h0
 rotate_left
 ·rw [if_pos h0] at hC
  rw [hC];have q1:((l.length:Int)==0)=true:=by rw [h0];rfl
  refine goI a1n (ff3 el e00 q1) cs trivial trivial trivial trivial trivial ?_;exact a0a rfl IsPure.out
 rw [if_neg h0] at hC;have q1:((l.length:Int)==0)=false:=beq_eq_false_iff_ne.2 (by omega)
 by_cases h64:64<l.length
 ·rw [if_pos h64] at hC
  rw [hC];have q2:decide ((l.length:Int)>64)=true:=decide_eq_true (by omega);refine goI a1n (ff4 el e00 q1 q2) cs trivial trivial trivial trivial trivial ?_;exact a0a rfl IsPure.out
 rw [if_neg h64] at hC;have q2:decide ((l.length:Int)>64)=false:=decide_eq_false (by omega);obtain ⟨a,b,rfl,rfl,ha,hb,-,-⟩:=b1d hS;rw [Int.toNat_natCast,Int.toNat_natCast] at hC;refine goI a1n (ff4 el e00 q1 q2) cs trivial trivial trivial trivial trivial ?_;refine OkS.loop (α:=Nat × Nat) (fun p=>⟨[(0,.sl bb 3 (l.map a0F.D)),(1,i64 (a:Int)),(2,i64 (b:Int)),(7,i64 (p.1:Int))],[],p.2⟩) (fun p=>l.length - p.1) (fun p=>p.1≤l.length∧∀ j,j<p.1→prE l a b j=0) (0,_) ⟨Nat.zero_le _,fun j hj=>absurd hj (Nat.not_lt_zero j)⟩ wkI ?_;rintro ⟨i,m⟩ F ⟨hi,hz⟩;dsimp only at hi hz ⊢;rcases Nat.lt_or_ge i l.length with h2|h2
 rotate_left
 ·have e1:=ltF h2
  have:i=l.length:=by omega
  subst this;rw [a5O hz] at hC;rw [hC];refine goI a1n (ff2 e1 el) trivial trivial trivial trivial trivial trivial ?_;exact a0a rfl IsPure.out
 have e1:=ltT h2;have wi:=wiI (i:=i) (by omega);obtain ⟨p,hp⟩:=a1T h2;have hm:(l.map a0F.D)[i]? = some (.agg [str (sb p.x),str (sb p.y),i64 p.wt]):=by rw [List.getElem?_map,hp];rfl
 have hpf:=hf p (List.mem_of_getElem? hp);have c1:=b5d p.x hpf.1;have c2:=b5d p.y hpf.2;have hE:prE l a b i=if p.bad a b≠0 then p.bad a b else if (l.take i).any (a4y p) then 9 else 0:=by unfold prE;rw [hp]
 have hB:p.bad a b=if two (chk p.x) (chk p.y)≠0 then two (chk p.x) (chk p.y) else if inR (a:Rat) (b:Rat) p.pt&&wtB p.wt then 0 else 3:=rfl
 have hfst:=fun h=>b8b hz h2 h
 have hab:two (chk p.x) (chk p.y)=0→chk p.x=0∧chk p.y=0:=by unfold two;split<;>omega
 have htw:two (chk p.x) (chk p.y)=if chk p.x≠0 then chk p.x else chk p.y:=rfl
 obtain ⟨K,hK⟩:∃ K,two (chk p.x) (chk p.y)=K:=⟨_,rfl⟩
 obtain ⟨BD,hBD⟩:∃ K,p.bad a b=K:=⟨_,rfl⟩
 obtain ⟨E,hEE⟩:∃ K,prE l a b i=K:=⟨_,rfl⟩
 rw [hK] at htw hB hab;rw [hBD] at hB hE;rw [hEE] at hE hfst;refine goI a1n (ff3 e1 el kN) hm trivial trivial trivial trivial trivial ?_;refine cI c1 ?_
 repeat (first|(refine a0r rfl rfl ?_;refine a2u (fun _ _=>rfl) ?_)|(refine a0w rfl rfl ?_;refine a2t (fun _ _=>rfl) ?_)|refine a1D rfl rfl rfl (by first|(simp only [];done)|fail) (by exact sdI) (a2u (fun _ _=>rfl) ?_)|refine a9g rfl rfl rfl (by first|(simp only [];done)|fail) (by exact sdI) ?_|refine a2y rfl rfl rfl (by first|(simp only [];done)|fail) (by exact sdI) (a2t (fun _ _=>rfl) ?_)|refine a9f rfl rfl rfl (by first|(simp only [];done)|fail) (by exact sdI) ?_|(refine a0r rfl rfl ?_;refine b0q rfl rfl rfl (by (try dsimp only);(try simp only []);exact rfl) ?_)|(refine a0r rfl rfl ?_;refine a6X rfl rfl rfl (by (try dsimp only);(try simp only []);exact rfl) ?_)|(refine a1D rfl rfl rfl (by first|(simp only [];done)|fail) (by exact sdI) ?_;refine b0q rfl rfl rfl (by (try dsimp only);(try simp only []);exact rfl) ?_)|(refine a1D rfl rfl rfl (by first|(simp only [];done)|fail) (by exact sdI) ?_;refine a6X rfl rfl rfl (by (try dsimp only);(try simp only []);exact rfl) ?_)|(refine a0w rfl rfl ?_;refine a9d rfl rfl rfl (by (try dsimp only);(try simp only []);exact rfl) ?_)|(refine a2y rfl rfl rfl (by first|(simp only [];done)|fail) (by exact sdI) ?_;refine a9d rfl rfl rfl (by (try dsimp only);(try simp only []);exact rfl) ?_))
 refine stI ?_;refine OkS.seqX (α:=Nat) (fun m=>⟨[(0,.sl bb 3 (l.map a0F.D)),(1,i64 (a:Int)),(2,i64 (b:Int)),(7,i64 (i:Int)),(8,i64 (K:Int))],[],m⟩) (fun _=>True) ?_ ?_
 ·rcases Nat.decEq (chk p.x) 0 with g|g
  ·have g1:=c7L g
   rw [if_pos g] at htw;subst htw;refine goI a1n g1 trivial trivial trivial trivial trivial trivial ?_;exact ⟨by trivial,_,trivial,wkI⟩
  ·have g1:=d2O g
   rw [if_neg (fun h=>h g)] at htw;rw [← htw] at c2;refine goI a1n (ff2 g1 kN) hm c2 trivial trivial trivial trivial ?_;exact ⟨by trivial,_,trivial,wkI⟩
 rintro m1 -;refine OkS.seqX (α:=Nat) (fun m=>⟨[(0,.sl bb 3 (l.map a0F.D)),(1,i64 (a:Int)),(2,i64 (b:Int)),(7,i64 (i:Int)),(8,i64 (BD:Int))],[],m⟩) (fun _=>True) ?_ ?_
 ·rcases Nat.decEq K 0 with g|g
  ·have g1:=c7L g
   rw [if_pos g] at hB;subst hB;refine goI a1n g1 trivial trivial trivial trivial trivial trivial ?_;exact ⟨by trivial,_,trivial,wkI⟩
  have g1:=d2O g;obtain ⟨k1,k2⟩:=hab g;rw [if_neg (fun h=>h g),c5Q] at hB;have i1:=b9w (a1x p.x) 600 (a7S k1).rk (by decide) a ha;have i2:=b9w (a1x p.y) 600 (a7S k2).rk (by decide) b hb;rw [b0a k1] at i1;rw [b0a k2] at i2;rw [show p.pt.1=a1x p.x from rfl,show p.pt.2=a1x p.y from rfl] at hB;have hW:wtB p.wt=(!decide (p.wt<1) && !decide (p.wt>999999999)):=by
   unfold wtB;rw [← decide_not,← decide_not]
   congr 1
   ·rw [decide_eq_decide];omega
   ·rw [decide_eq_decide];omega
  rw [hW] at hB;obtain ⟨b1,k1⟩:∃ x,c5R (a1x p.x) a=x:=⟨_,rfl⟩
  obtain ⟨b2,k2⟩:∃ x,c5R (a1x p.y) b=x:=⟨_,rfl⟩
  obtain ⟨b5,k5⟩:∃ x,decide (p.wt<1)=x:=⟨_,rfl⟩
  obtain ⟨b6,k6⟩:∃ x,decide (p.wt>999999999)=x:=⟨_,rfl⟩
  rw [k1] at i1 hB;rw [k2] at i2 hB;rw [k5,k6] at hB;have hcase:b1=false∨(b1=true∧b2=false)∨(b1=true∧b2=true∧b5=true)∨(b1=true∧b2=true∧b5=false∧b6=true)∨(b1=true∧b2=true∧b5=false∧b6=false):=by
   cases b1<;>cases b2<;>cases b5<;>cases b6<;>decide
  rcases hcase with rfl|⟨rfl,rfl⟩|⟨rfl,rfl,rfl⟩|⟨rfl,rfl,rfl,rfl⟩|⟨rfl,rfl,rfl,rfl⟩
  ·rw [show (false&&b2&&(!b5 && !b6))=false from rfl,if_neg (by decide)] at hB
   subst hB;refine goI a1n (ff2 g1 kN) hm i1 trivial trivial trivial trivial ?_;exact ⟨by trivial,_,trivial,wkI⟩
  ·rw [show (true&&false&&(!b5 && !b6))=false from rfl,if_neg (by decide)] at hB
   subst hB;refine goI a1n (ff2 g1 kN) hm i1 i2 trivial trivial trivial ?_;exact ⟨by trivial,_,trivial,wkI⟩
  ·rw [show (true&&true&&(!true && !b6))=false from rfl,if_neg (by decide)] at hB
   subst hB;refine goI a1n (ff3 g1 k5 kN) hm i1 i2 trivial trivial trivial ?_;exact ⟨by trivial,_,trivial,wkI⟩
  ·rw [show (true&&true&&(!false && !true))=false from rfl,if_neg (by decide)] at hB
   subst hB;refine goI a1n (ff4 g1 k5 k6 kN) hm i1 i2 trivial trivial trivial ?_;exact ⟨by trivial,_,trivial,wkI⟩
  ·rw [show (true&&true&&(!false && !false))=true from rfl,if_pos rfl] at hB
   subst hB;subst g;refine goI a1n (ff4 g1 k5 k6 kN) hm i1 i2 trivial trivial trivial ?_;exact ⟨by trivial,_,trivial,wkI⟩
 rintro m2 -;refine OkS.seqX (α:=Nat) (fun m=>⟨[(0,.sl bb 3 (l.map a0F.D)),(1,i64 (a:Int)),(2,i64 (b:Int)),(7,i64 (i:Int)),(8,i64 (E:Int))],[],m⟩) (fun _=>True) ?_ ?_
 ·refine sR 1500 ?_
  refine OkS.block ?_;refine OkS.loopF (α:=Nat × Nat × Nat) (fun q=>⟨[(0,.sl bb 3 (l.map a0F.D)),(1,i64 (a:Int)),(2,i64 (b:Int)),(7,i64 (i:Int)),(8,i64 (q.2.1:Int)),(9,i64 (q.1:Int))],[],q.2.2⟩) (fun q=>i - q.1) (fun q F'=>F'=F∧q.1≤i∧((q.2.1=0∧BD=0∧(l.take q.1).any (a4y p)=false)∨(q.2.1≠0∧q.2.1=E))) (0,BD,_) ⟨rfl,Nat.zero_le _,by
   by_cases g:BD=0
   ·exact .inl ⟨g,g,rfl⟩
   ·exact .inr ⟨g,by rw [hE,if_pos g]⟩⟩ wkI ?_
  rintro ⟨k,e,m3⟩ F' ⟨rfl,hk,hJ⟩;dsimp only at hk hJ ⊢;rcases Nat.lt_or_ge k i with h3|h3
  ·have e2:=ltT h3
   rcases hJ with ⟨rfl,j2,j3⟩|⟨j1,rfl⟩
   ·obtain ⟨y,hy⟩:=a1T (l:=l) (i:=k) (by omega)
    have wk:=wiI (i:=k) (by omega);have hmk:(l.map a0F.D)[k]? = some (.agg [str (sb y.x),str (sb y.y),i64 y.wt]):=by rw [List.getElem?_map,hy];rfl
    have j4:=d5l (a4y p) hy;rw [j3,Bool.false_or] at j4;have s1:=a7B y.x p.x;have s2:=a7B y.y p.y;have hs:a4y p y=(decide (y.x=p.x)&&(decide (y.y=p.y)&&true)):=rfl;have z1:(((0:Nat):Int)==0)=true:=rfl;have hfin:a4y p y=true→E=9:=fun h=>by
     rw [hE,if_neg (fun q=>q j2),if_pos];refine List.any_eq_true.2 ⟨y,?_,h⟩;exact List.mem_of_getElem? (by rw [List.getElem?_take,if_pos h3];exact hy)
    obtain ⟨d1,hd1⟩:∃ x,decide (y.x=p.x)=x:=⟨_,rfl⟩
    obtain ⟨d2,hd2⟩:∃ x,decide (y.y=p.y)=x:=⟨_,rfl⟩
    rw [hd1] at s1 hs;rw [hd2] at s2 hs;cases d1
    ·refine goI a1n (ff6 e2 z1 s1 s2 wk kN) hm hmk trivial trivial trivial trivial ?_
     exact ⟨(k+1,0,_),⟨by trivial,h3,.inl ⟨rfl,j2,by rw [j4,hs];rfl⟩⟩,by dsimp only;omega,wkI⟩
    ·cases d2
     ·refine goI a1n (ff6 e2 z1 s1 s2 wk kN) hm hmk trivial trivial trivial trivial ?_
      exact ⟨(k+1,0,_),⟨by trivial,h3,.inl ⟨rfl,j2,by rw [j4,hs];rfl⟩⟩,by dsimp only;omega,wkI⟩
     ·have h9:=hfin (by rw [hs];rfl)
      refine goI a1n (ff6 e2 z1 s1 s2 wk kN) hm hmk trivial trivial trivial trivial ?_;exact ⟨(k+1,9,_),⟨by trivial,h3,.inr ⟨Nat.succ_ne_zero 8,h9.symm⟩⟩,by dsimp only;omega,wkI⟩
   ·have z1:=c7L j1
    refine goI a1n (ff2 e2 z1) trivial trivial trivial trivial trivial trivial ?_;exact ⟨by trivial,_,trivial,wkI⟩
  ·have e2:=ltF h3
   have:k=i:=by omega
   subst this;have hfin:e=E:=by
    rcases hJ with ⟨rfl,j2,j3⟩|⟨j1,j2⟩
    ·rw [hE,if_neg (fun q=>q j2),j3];rfl
    ·exact j2
   subst hfin;refine goI a1n e2 trivial trivial trivial trivial trivial trivial ?_;exact ⟨by trivial,_,trivial,wkI⟩
 rintro m4 -;rcases Nat.decEq E 0 with g|g
 ·have g1:=c5c g
  rw [hC,hfst g];refine goI a1n g1 trivial trivial trivial trivial trivial trivial ?_;exact a0a rfl IsPure.out
 ·have g1:=c7k g
  refine goI a1n (ff2 g1 wi) trivial trivial trivial trivial trivial trivial ?_;exact ⟨(i+1,_),⟨h2,fun j hj=>by
   rcases Nat.lt_or_ge j i with q|q
   ·exact hz j q
   ·have:j=i:=by dsimp only at hj;omega
    subst this;exact hEE.trans g⟩,by dsimp only;omega,wkI⟩
abbrev b0A:Dr:=[(1,[0,1,2,3,4,5,6,7,8,9],[10,11]),(5,[0,1,2,3,4,5,6,7,8,9,10,11],[12,13])]
open Go.Proofs Go.RowKit
set_option maxRecDepth 20000
set_option maxHeartbeats 8000000
theorem c4x:rk 2 1:=(b4N 2 (by decide))
theorem c6g {a:Pnt}{l:List Pnt}{m:Rat}{k:Nat}(hm:rk m k)(h:∀ p∈l,rk (d2 a p) k):rk (a0U a l m) k:=by
 rcases b0P a l m with e|⟨p,hp,e⟩<;>rw [e]
 ·exact hm
 ·exact h p hp
structure b6C (l:List a0F):Prop where
 pos:0<l.length
 most:l.length≤64
 sh:c7D l
 ck:∀ p∈l,chk p.x=0∧chk p.y=0
theorem b6C.rk {l:List a0F}(h:b6C l){p:a0F}(hp:p∈l):rk (a1x p.x) 3∧rk (a1x p.y) 3:=⟨(b5v (h.ck p hp).1 (h.sh p hp).1).rk,(b5v (h.ck p hp).2 (h.sh p hp).2).rk⟩
theorem b9e {l:List a0F}{i:Nat}{p:a0F}(h:l[i]? = some p):pt (a1p l) i=p.pt:=d1M (by unfold a1p;rw [List.getElem?_map,h];rfl)
theorem c7X {x y u v:Rat}{k:Nat}(hx:rk x k)(hy:rk y k)(hu:rk u 3)(hv:rk v 3):rk (d2 (x,y) (u,v)) (4*(k+4)+1):=by
 have a:=a3G hx hu;have b:=a3G hy hv;exact (b2z (a1L a a) (a1L b b)).mono (by omega)
theorem c6C (x y u v:Rat)(k:Nat)(hx:rk x k)(hy:rk y k)(hu:rk u 3)(hv:rk v 3)(hk:k≤500):a0b C0 91 [rR x,rR y,rR u,rR v] (rR (d2 (x,y) (u,v))):=by
 refine a0c.walk w1 d3P rfl fun F=>?_
 have a:=a3G hx hu;have b:=a3G hy hv;have c1:=d4G x u k 3 hx hu (by omega);have c2:=d4G y v k 3 hy hv (by omega);have c3:=d2D _ _ _ _ a a (by omega);have c4:=d2D _ _ _ _ b b (by omega);have c5:=d4z _ _ _ _ (a1L a a) (a1L b b) (by omega);rw [show (x - u)*(x - u)+(y - v)*(y - v)=d2 (x,y) (u,v) from rfl] at c5;unfold rR at *;refine goI dr0 kB c1 c2 c3 c4 c5 trivial ?_;exact a0a rfl IsPure.out
theorem c2f (bb:Bool)(l:List a0F)(hl:b6C l)(x y:Rat)(k:Nat)(hx:rk x k)(hy:rk y k)(hk:k≤500):a0b C0 34 [.sl bb 3 (l.map a0F.D),rR x,rR y] (rR (a6P (a1p l) (x,y))):=by
 refine a0c.walk w1 d3l rfl fun F=>?_
 have el:(((l.map a0F.D).length:Nat):Int)=(l.length:Int):=by rw [List.length_map]
 have pL:IsPure (.sl bb 3 (l.map a0F.D)):=inferInstance;have hPl:(a1p l).length=l.length:=List.length_map ..;have hl0:=hl.pos;have hl64:=hl.most;have csq:=fun (p:a0F) (hp:p∈l)=>c6C x y (a1x p.x) (a1x p.y) k hx hy (hl.rk hp).1 (hl.rk hp).2 hk
 have ksq:=fun (p:a0F) (hp:p∈l)=>c7X hx hy (hl.rk hp).1 (hl.rk hp).2
 have hpts:∀ q∈a1p l,rk (d2 (x,y) q) (4*(k+4)+1):=fun q hq=>by
  obtain ⟨p,hp,rfl⟩:=List.mem_map.1 hq;exact ksq p hp
 obtain ⟨p0,hp0⟩:=a1T (l:=l) (i:=0) (by omega);have hm0:(l.map a0F.D)[0]? = some (.agg [str (sb p0.x),str (sb p0.y),i64 p0.wt]):=by rw [List.getElem?_map,hp0];rfl
 have hmem0:=List.mem_of_getElem? hp0;have c0:=csq p0 hmem0;rw [b0a (hl.ck p0 hmem0).1,b0a (hl.ck p0 hmem0).2] at c0;have e0:pt (a1p l) 0=p0.pt:=b9e hp0;have hst:d2 (x,y) (a1x p0.x,a1x p0.y)=a0U (x,y) ((a1p l).take 1) (d2 (x,y) (pt (a1p l) 0)):=by
  rw [a8x (by omega),e0];show _=if d2 (x,y) p0.pt<d2 (x,y) p0.pt then _ else d2 (x,y) p0.pt
  rw [if_neg (Rat.lt_irrefl)];rfl
 rw [hst] at c0;have hnr:a6P (a1p l) (x,y)=a0U (x,y) (a1p l) (d2 (x,y) (pt (a1p l) 0)):=rfl;rw [hnr];have hm00:rk (d2 (x,y) (pt (a1p l) 0)) (4*(k+4)+1):=by rw [e0];exact ksq p0 hmem0
 generalize hM:d2 (x,y) (pt (a1p l) 0)=M0 at *;refine goI b0A (ff3 el kN Int.toNat_zero) hm0 c0 trivial trivial trivial trivial ?_;refine OkS.loop (α:=Nat × Nat) (fun p=>⟨[(0,.sl bb 3 (l.map a0F.D)),(1,rR x),(2,rR y),(7,rR (a0U (x,y) ((a1p l).take p.1) M0)),(8,i64 (p.1:Int))],[],p.2⟩) (fun p=>l.length - p.1) (fun p=>p.1≤l.length) (1,_) hl0 wkI ?_;rintro ⟨i,m⟩ F hi;dsimp only at hi ⊢;rcases Nat.lt_or_ge i l.length with h2|h2
 ·have e1:=ltT h2
  have wi:=wiI (i:=i) (by omega);obtain ⟨p,hp⟩:=a1T h2;have hm:(l.map a0F.D)[i]? = some (.agg [str (sb p.x),str (sb p.y),i64 p.wt]):=by rw [List.getElem?_map,hp];rfl
  have hmem:=List.mem_of_getElem? hp;have cq:=csq p hmem;rw [b0a (hl.ck p hmem).1,b0a (hl.ck p hmem).2] at cq;have ep:pt (a1p l) i=p.pt:=b9e hp;have hnx:=a8x (a:=(x,y)) (P:=a1p l) (i:=i) (by omega) M0;rw [ep] at hnx;have kr:=c6g (a:=(x,y)) (l:=(a1p l).take i) hm00 fun q hq=>hpts q (List.mem_of_mem_take hq)
  have cc:=d2C _ _ _ _ (ksq p hmem) kr (by omega);rw [show d2 (x,y) (a1x p.x,a1x p.y)=d2 (x,y) p.pt from rfl] at cq cc;have hc:=@c7U (d2 (x,y) p.pt) (a0U (x,y) ((a1p l).take i) M0);generalize a0U (x,y) ((a1p l).take i) M0=V at *;generalize d2 (x,y) p.pt=U at *
  by_cases g:U<V
  ·have e2:decide (a3x U V<0)=true:=decide_eq_true (hc.2 g)
   rw [if_pos g] at hnx;refine goI b0A (ff5 e1 el e2 wi kN) hm cq cc trivial trivial trivial ?_;exact ⟨(i+1,_),h2,by dsimp only;omega,by (dsimp only;rw [hnx];exact wkI)⟩
  ·have e2:decide (a3x U V<0)=false:=decide_eq_false (fun q=>g (hc.1 q))
   rw [if_neg g] at hnx;refine goI b0A (ff5 e1 el e2 wi kN) hm cq cc trivial trivial trivial ?_;exact ⟨(i+1,_),h2,by dsimp only;omega,by (dsimp only;rw [hnx];exact wkI)⟩
 ·have e1:=ltF h2
  have:i=l.length:=by omega
  subst this;have hfin:(a1p l).take l.length=a1p l:=by rw [← hPl,List.take_length]
  rw [hfin];refine goI b0A (ff2 e1 el) trivial trivial trivial trivial trivial trivial ?_;exact a0a rfl IsPure.out
set_option maxHeartbeats 8000000
theorem b9f {l:List a0F}(hl:b6C l){i:Nat}(hi:i<l.length):rk (pt (a1p l) i).1 3∧rk (pt (a1p l) i).2 3:=by
 obtain ⟨p,hp⟩:=a1T hi;rw [b9e hp];exact hl.rk (List.mem_of_getElem? hp)
theorem c6J {l:List a0F}(hl:b6C l){w h:Nat}(hw:w≤100000)(hh:h≤100000){z:Pnt}(hz:z∈a2I (a1p l) (w:Rat) (h:Rat)):rk z.1 104∧rk z.2 104:=by
 have hPl:(a1p l).length=l.length:=List.length_map ..;have A:∀ p q:Pnt,rk p.1 3→rk q.1 3→rk (bA p q) 8:=fun p q a b=>a1L c4x (a3G b a)
 have B:∀ p q:Pnt,rk p.2 3→rk q.2 3→rk (bB p q) 8:=fun p q a b=>a1L c4x (a3G b a)
 have C:∀ p q:Pnt,rk p.1 3∧rk p.2 3→rk q.1 3∧rk q.2 3→rk (bC p q) 27:=fun p q a b=>a3G (b2z (a1L b.1 b.1) (a1L b.2 b.2)) (b2z (a1L a.1 a.1) (a1L a.2 a.2))
 have dv:∀ {a b:Rat} {i j:Nat},rk a i→rk b j→b≠0→rk (a / b) (i+j):=fun {a b i j} ha hb h0=>by
  rw [Rat.div_def];exact a1L ha (c4w hb h0)
 have nt:∀ t:Nat,(t=0∨t=w∨t=h)→rk (t:Rat) 1:=fun t ht=>b4N t (by omega)
 rcases b5s hz with ⟨x,y,hx,hy,rfl⟩|⟨i,k,hi,hk,h1⟩
 ·exact ⟨(nt x (by omega)).mono (by decide),(nt y (by omega)).mono (by decide)⟩
 ·have pi:=b9f hl (i:=i) (by omega)
  have pk:=b9f hl (i:=k) (by omega);rcases h1 with h1|⟨j,hj,h1⟩
  ·rcases b5n h1 with ⟨t,h0,ht,rfl⟩|⟨t,h0,ht,rfl⟩
   ·have kt:=nt t (by omega)
    exact ⟨kt.mono (by decide),(dv (a3G (C _ _ pk pi) (a1L (A _ _ pk.1 pi.1) kt)) (B _ _ pk.2 pi.2) h0).mono (by decide)⟩
   ·have kt:=nt t (by omega)
    exact ⟨(dv (a3G (C _ _ pk pi) (a1L (B _ _ pk.2 pi.2) kt)) (A _ _ pk.1 pi.1) h0).mono (by decide),kt.mono (by decide)⟩
  ·have pj:=b9f hl (i:=j) (by omega)
   obtain ⟨h0,rfl⟩:=b6W h1;have kd:rk (a7b (pt (a1p l) k) (pt (a1p l) i) (pt (a1p l) j)) 33:=a3G (a1L (A _ _ pk.1 pi.1) (B _ _ pj.2 pi.2)) (a1L (B _ _ pk.2 pi.2) (A _ _ pj.1 pi.1));exact ⟨(dv (a3G (a1L (C _ _ pk pi) (B _ _ pj.2 pi.2)) (a1L (B _ _ pk.2 pi.2) (C _ _ pj pi))) kd h0).mono (by decide),(dv (a3G (a1L (A _ _ pk.1 pi.1) (C _ _ pj pi)) (a1L (C _ _ pk pi) (A _ _ pj.1 pi.1))) kd h0).mono (by decide)⟩
theorem b4P {l:List a0F}(hl:b6C l){z:Pnt}{k:Nat}(h1:rk z.1 k)(h2:rk z.2 k):rk (a6P (a1p l) z) (4*(k+4)+1):=by
 have hPl:(a1p l).length=l.length:=List.length_map ..;obtain ⟨⟨p,hp,e⟩,-⟩:=a3S (P:=a1p l) (by rw [hPl];exact hl.pos) z;rw [e];obtain ⟨q,hq,rfl⟩:=List.mem_map.1 hp;exact c7X h1 h2 (hl.rk hq).1 (hl.rk hq).2
theorem c5J {l:List a0F}(hl:b6C l){w h:Rat}{S:List Pnt}{k:Nat}(hS:∀ z∈S,rk z.1 k∧rk z.2 k):rk (c7o (a1p l) w h S) (4*(k+4)+1):=by
 rcases (a6v (a1p l) w h S).2.2 with e|⟨z,hz,-,e⟩<;>rw [e]
 ·exact (b4N 0 (by decide)).mono (by omega)
 ·exact b4P hl (hS z hz).1 (hS z hz).2
abbrev a3d:Dr:=[(10,[0,1,2,3,4,5,6,7,8,9,10,11,12,13,14],[15,16,17]),(21,[0,1,2,3,4,5,6,7,8],[9,10,11])]
open Go.Proofs Go.RowKit
set_option maxRecDepth 20000
set_option maxHeartbeats 8000000
theorem c2M {l:List UInt8}(h:chk l=0)(hl:l.length≤12):(a1x l).den≤E12:=by
 obtain ⟨m1,m2,m3,m4⟩:=a4m h;obtain ⟨p1,p2⟩:=a2W h;have hb:∀ k,k≤12→(10:Nat)^k≤E12:=fun k hk=>Nat.pow_le_pow_right (by decide) hk
 rw [m2];unfold b3M;cases hs:a4e l
 ·exact (by decide:1≤E12)
 ·have hs2:(a1v l).length≤12:=by
   have:(a1v l).length≤l.length:=by unfold a1v;simp
   omega
  exact Nat.le_trans (Nat.le_of_lt (a5c _ (p2 hs))) (hb _ hs2)
def b0i (p:a0F):Bool:=decide (p.x.length≤12)&&decide (p.y.length≤12)
theorem a8R {p:a0F}(h:b0i p=true):p.x.length≤12∧p.y.length≤12:=by
 unfold b0i at h
 rwa [Bool.and_eq_true,decide_eq_true_eq,decide_eq_true_eq] at h
theorem d1L {l:List a0F}{L W:Int}(h:a2J l L W=0)(hs:∀ p∈l,b0i p=true):∃ w h:Nat,L=w∧W=h∧1≤w∧w≤100000∧1≤h∧h≤100000∧b6C l∧(∀ q∈a1p l,Okp q)∧b1p (a3z (a1p l) (w:Rat) (h:Rat))=false:=by
 obtain ⟨w,v,rfl,rfl,hw,hh,hw1,hh1,h0,h64,hb,-⟩:=b9a h;have ho:∀ q∈a1p l,Okp q:=fun q hq=>by
  obtain ⟨p,hp,rfl⟩:=List.mem_map.1 hq;obtain ⟨b1,b2,b3,-⟩:=a4K (hb p hp);obtain ⟨r1,r2,r3,r4⟩:=a3Q.1 b3
  have:=a8R (hs p hp)
  exact ⟨r1,r2,Rat.le_trans r3 (a9U hw),Rat.le_trans r4 (a9U hh),c2M b1 this.1,c2M b2 this.2⟩
 refine ⟨w,v,rfl,rfl,hw1,hw,hh1,hh,⟨h0,h64,fun p hp=>?_,fun p hp=>⟨(a4K (hb p hp)).1,(a4K (hb p hp)).2.1⟩⟩,ho,?_⟩
 ·have:=a8R (hs p hp);omega
 ·exact a8h (by unfold a1p;rw [List.length_map];exact h0) ho hw hh
theorem b8g {l:List a0F}(hl:b6C l){w h:Nat}(hw:w≤100000)(hh:h≤100000):rk (a3z (a1p l) (w:Rat) (h:Rat)) 433:=c5J hl fun _ hz=>c6J hl hw hh hz
theorem b7b {a b:Rat}(h:a≤b):decide (a3x a b>0)=false:=by
 rw [c7T];refine decide_eq_false fun q=>?_
 exact Rat.not_lt.2 h ((c0Q _ _).1 q)
theorem c0h {r:Rat}(h:b1p r=false):(txt r).length≤100000:=by
 have:=c1t r
 unfold a8i at this
 rwa [if_neg (by rw [h];decide)] at this
theorem c5Y {l:List a0F}(hl:b6C l)(h4:l.length≤4)(ho:∀ q∈a1p l,Okp q){w h:Nat}(hw:w≤100000)(hh:h≤100000){X Y:Rat}(hX:SmQ X)(hY:SmQ Y)(hi:inR (w:Rat) (h:Rat) (X,Y)=true):b6C (l++[prb X Y])∧b1p (a3z (a1p (l++[prb X Y])) (w:Rat) (h:Rat))=false∧a3z (a1p (l++[prb X Y])) (w:Rat) (h:Rat)≤a3z (a1p l) (w:Rat) (h:Rat):=by
 have e:a1p (l++[prb X Y])=a1p l++[(X,Y)]:=by unfold a1p;rw [List.map_append,List.map_cons,b2r];rfl
 have h0:=hl.pos;have hP:(a1p l).length=l.length:=by unfold a1p;rw [List.length_map]
 refine ⟨⟨by rw [List.length_append];omega,by rw [List.length_append];simp only [List.length_cons,List.length_nil];omega,fun p hp=>?_,fun p hp=>?_⟩,?_,?_⟩
 ·rcases List.mem_append.1 hp with hp|hp
  ·exact hl.sh p hp
  ·rw [List.mem_singleton.1 hp];exact ⟨hX.len,hY.len⟩
 ·rcases List.mem_append.1 hp with hp|hp
  ·exact hl.ck p hp
  ·rw [List.mem_singleton.1 hp];exact ⟨a6m hX.big,a6m hY.big⟩
 ·rw [e]
  refine a8h (by rw [List.length_append];omega) (fun q hq=>?_) hw hh;rcases List.mem_append.1 hq with hq|hq
  ·exact ho q hq
  ·rw [List.mem_singleton.1 hq];exact b9b hX hY hw hh hi
 ·rw [e];exact c1s (by omega)
theorem d1k (ha:a0b C0 9 [] (boo true))(l:List a0F)(hl:l.length≤9223372036854775807)(L W:Int)(u v:Nat)(hu:u<65536)(hv:v<65536):a0b C0 7 [.sl false 3 (l.map a0F.D),.agg [i64 L,i64 W],.agg [.prim (.int .u16 u),.prim (.int .u16 v)]] (boo true):=by
 refine a0c.walk w1 d5D rfl fun F=>?_
 have el:(((l.map a0F.D).length:Nat):Int)=(l.length:Int):=by rw [List.length_map]
 obtain ⟨d1,k1⟩:∃ b,decide ((l.length:Int)>4)=b:=⟨_,rfl⟩
 refine goI a3d el trivial trivial trivial trivial trivial trivial ?_;refine OkS.loop (α:=Nat × Nat) (fun p=>⟨[(0,.sl false 3 (l.map a0F.D)),(4,.optr 0 0 2 0 0),(5,.optr 1 1 2 0 0),(23,.sl false 3 (l.map a0F.D)),(24,i64 (l.length:Int)),(25,i64 (p.1:Int))],[⟨1,1,75,2,[.agg [.prim (.int .u16 u),.prim (.int .u16 v)]]⟩,⟨0,0,73,2,[.agg [i64 L,i64 W]]⟩],p.2⟩) (fun p=>l.length - p.1) (fun p=>p.1≤l.length∧(0<p.1→d1=false)∧(l.take p.1).all b0i=true) (0,_) ⟨Nat.zero_le _,fun h=>absurd h (Nat.lt_irrefl 0),rfl⟩ wkI ?_;rintro ⟨i,m⟩ F ⟨hi,hb,hk⟩;dsimp only at hi hb hk ⊢;rcases Nat.lt_or_ge i l.length with h2|h2
 ·have e1:=ltT h2
  have wi:=wiI (i:=i) (by omega);obtain ⟨p,hp⟩:=a1T h2;have hm:(l.map a0F.D)[i]? = some (.agg [str (sb p.x),str (sb p.y),i64 p.wt]):=by rw [List.getElem?_map,hp];rfl
  have z1:=a0u p.x;have z2:=a0u p.y;obtain ⟨d2,k2⟩:∃ b,decide ((p.x.length:Int)>12)=b:=⟨_,rfl⟩
  obtain ⟨d3,k3⟩:∃ b,decide ((p.y.length:Int)>12)=b:=⟨_,rfl⟩
  have hcase:d1=true∨(d1=false∧d2=true)∨(d1=false∧d2=false∧d3=true)∨(d1=false∧d2=false∧d3=false):=by cases d1<;>cases d2<;>cases d3<;>decide
  rcases hcase with rfl|⟨rfl,rfl⟩|⟨rfl,rfl,rfl⟩|⟨rfl,rfl,rfl⟩
  ·refine goI a3d (ff4 e1 el k1 kN) hm ha trivial trivial trivial trivial ?_
   exact a0a rfl IsPure.out
  ·refine goI a3d (ff6 e1 el k1 z1 k2 kN) hm ha trivial trivial trivial trivial ?_
   exact a0a rfl IsPure.out
  ·refine goI a3d (ff7 e1 el k1 z1 k2 z2 (ff2 k3 kN)) hm ha trivial trivial trivial trivial ?_
   exact a0a rfl IsPure.out
  ·have hsp:b0i p=true:=by
    unfold b0i
    have:=of_decide_eq_false k2
    have:=of_decide_eq_false k3
    rw [Bool.and_eq_true,decide_eq_true_eq,decide_eq_true_eq];omega
   have hs2:=c0D hp hk hsp;refine goI a3d (ff7 e1 el k1 z1 k2 z2 (ff3 k3 wi kN)) hm trivial trivial trivial trivial trivial ?_;exact ⟨(i+1,_),⟨h2,fun _=>by trivial,hs2⟩,by dsimp only;omega,wkI⟩
 have e1:=ltF h2
 have:i=l.length:=by omega
 subst this;rw [List.take_length] at hk;have hs:=List.all_eq_true.1 hk;have h4:l.length≤4:=by
  rcases Nat.eq_zero_or_pos l.length with q|q
  ·omega
  ·have:=hb q
   subst this
   have:=of_decide_eq_false k1
   omega
 have hf:∀ p∈l,p.few:=fun p hp=>by have:=a8R (hs p hp);unfold a0F.few;omega
 have c1:=b5e false l (by omega) hf L W;have hgood:=fun h=>@d1L l L W h hs
 rcases Nat.decEq (a2J l L W) 0 with g|g
 ·have g1:=c5c g
  refine goI a3d (ff3 e1 el g1) c1 ha trivial trivial trivial trivial ?_;exact a0a rfl IsPure.out
 obtain ⟨w,h,rfl,rfl,hw1,hw,hh1,hh,hok,ho,hbig⟩:=hgood g;have g1:=c7k g;have c3:=d4q false l (by omega) hf (w:Int) (h:Int) fun _=>hok.sh
 have hT:c4f l (w:Int) (h:Int)=txt (a3z (a1p l) (w:Rat) (h:Rat)):=by unfold c4f;rw [if_pos g,Int.toNat_natCast,Int.toNat_natCast];unfold a8i;rw [hbig,if_neg (by decide)]
 have hE:c4e l (w:Int) (h:Int)=0:=by unfold c4e;rw [if_pos g,Int.toNat_natCast,Int.toNat_natCast];unfold b1V;rw [hbig,if_neg (by decide)]
 rw [hT,hE] at c3;have fu:=wI (z:=(u:Int)) (by omega) (by omega);have fv:=wI (z:=(v:Int)) (by omega) (by omega);have tu:(u:Int).tmod 1001=((u%1001:Nat):Int):=rfl;have tv:(v:Int).tmod 1001=((v%1001:Nat):Int):=rfl;obtain ⟨x0,hx0⟩:∃ x0,u%1001*w=x0:=⟨_,rfl⟩
 obtain ⟨y0,hy0⟩:∃ y0,v%1001*h=y0:=⟨_,rfl⟩
 have bx:x0≤w*1000:=by rw [← hx0,Nat.mul_comm];exact Nat.mul_le_mul_left _ (by omega)
 have bY:y0≤h*1000:=by rw [← hy0,Nat.mul_comm];exact Nat.mul_le_mul_left _ (by omega)
 have mx:IntKind.i64.wrap (((u%1001:Nat):Int)*(w:Int))=(x0:Int):=by rw [← Int.natCast_mul,hx0];exact wI (by omega) (by omega)
 have my:IntKind.i64.wrap (((v%1001:Nat):Int)*(h:Int))=(y0:Int):=by rw [← Int.natCast_mul,hy0];exact wI (by omega) (by omega)
 have hX:=smq (x:=x0) (d:=1000) (by omega) (by decide) (by decide);have hY:=smq (x:=y0) (d:=1000) (by omega) (by decide) (by decide);have hi:=d1m (x:=x0) (y:=y0) (w:=w) (h:=h) (d:=1000) (by decide) bx bY;have cX:a0b C0 31 [i64 (x0:Int),i64 1000] (str (sb (txt (mkRat (x0:Int) 1000)))):=b6c (x0:Int) 1000 (by omega) (by decide) (by decide);have cY:a0b C0 31 [i64 (y0:Int),i64 1000] (str (sb (txt (mkRat (y0:Int) 1000)))):=b6c (y0:Int) 1000 (by omega) (by decide) (by decide);have cN:a0b C0 34 [.sl false 3 (l.map a0F.D),str (sb (txt (mkRat (x0:Int) 1000))),str (sb (txt (mkRat (y0:Int) 1000)))] (str (sb (txt (a6P (a1p l) (mkRat (x0:Int) 1000,mkRat (y0:Int) 1000))))):=c2f false l hok _ _ 2 hX.rk hY.rk (by decide);have cK:a0b C0 32 [str (sb (txt (a3z (a1p l) (w:Rat) (h:Rat))))] (i64 ((0:Nat):Int)):=by
  have:=b5d (txt (a3z (a1p l) (w:Rat) (h:Rat))) (c0h hbig)
  rwa [a6m hbig] at this
 have hP:0<(a1p l).length:=by unfold a1p;rw [List.length_map];exact hok.pos
 have cC:a0b C0 33 [str (sb (txt (a6P (a1p l) (mkRat (x0:Int) 1000,mkRat (y0:Int) 1000)))),str (sb (txt (a3z (a1p l) (w:Rat) (h:Rat))))] (i64 (a3x (a6P (a1p l) (mkRat (x0:Int) 1000,mkRat (y0:Int) 1000)) (a3z (a1p l) (w:Rat) (h:Rat)))):=d2C _ _ 25 433 (b4P (z:=(mkRat (x0:Int) 1000,mkRat (y0:Int) 1000)) (k:=2) hok hX.rk hY.rk) (b8g hok hw hh) (by decide);have fC:=b7b (b7F hP hi);have z0:((((0:Nat):Int)) != 0)=false:=rfl;obtain ⟨hokM,bigM,leM⟩:=c5Y hok h4 ho hw hh hX hY hi;have rkM:=b8g hokM hw hh;have rkG:=b8g hok hw hh;generalize a6P (a1p l) (mkRat (x0:Int) 1000,mkRat (y0:Int) 1000)=nr at *;obtain ⟨G,hG⟩:∃ G,a3z (a1p l) (w:Rat) (h:Rat)=G:=⟨_,rfl⟩
 rw [hG] at c3 cK cC fC leM rkG hbig;generalize mkRat (x0:Int) 1000=X at *;generalize mkRat (y0:Int) 1000=Y at *;refine goI a3d (ff7 e1 el g1 fu fv tu (ff3 tv mx my)) c1 c3 cX cY trivial trivial ?_;have la:(l.map a0F.D).length=l.length:=List.length_map _;have tk:List.take l.length (l.map a0F.D)=l.map a0F.D:=List.take_of_length_le (by rw [la];exact Nat.le_refl _);have em:l.map a0F.D++[.agg [str (sb (txt X)),str (sb (txt Y)),i64 1]]=(l++[prb X Y]).map a0F.D:=by rw [List.map_append];rfl
 have tz:List.take 0 ([]:List D)=[]:=rfl;have nl:([]:List D)++l.map a0F.D=l.map a0F.D:=rfl;have lM:(l++[prb X Y]).length=l.length+1:=by rw [List.length_append];rfl
 obtain ⟨M,hM⟩:∃ M,l++[prb X Y]=M:=⟨_,rfl⟩
 rw [hM] at em hokM bigM leM rkM lM;have hfM:∀ p∈M,p.few:=fun p hp=>by have:=hokM.sh p hp;unfold a0F.few;omega
 have c1M:=b5e false M (by omega) hfM (w:Int) (h:Int);have c3M:=d4q false M (by omega) hfM (w:Int) (h:Int) fun _=>hokM.sh
 have hTM:a2J M (w:Int) (h:Int)=0→c4f M (w:Int) (h:Int)=txt (a3z (a1p M) (w:Rat) (h:Rat)):=fun g=>by unfold c4f;rw [if_pos g,Int.toNat_natCast,Int.toNat_natCast];unfold a8i;rw [bigM,if_neg (by decide)]
 have hEM:a2J M (w:Int) (h:Int)=0→c4e M (w:Int) (h:Int)=0:=fun g=>by unfold c4e;rw [if_pos g,Int.toNat_natCast,Int.toNat_natCast];unfold b1V;rw [bigM,if_neg (by decide)]
 have cKM:a0b C0 32 [str (sb (txt (a3z (a1p M) (w:Rat) (h:Rat))))] (i64 ((0:Nat):Int)):=by
  have:=b5d (txt (a3z (a1p M) (w:Rat) (h:Rat))) (c0h bigM)
  rwa [a6m bigM] at this
 have cCM:a0b C0 33 [str (sb (txt (a3z (a1p M) (w:Rat) (h:Rat)))),str (sb (txt G))] (i64 (a3x (a3z (a1p M) (w:Rat) (h:Rat)) G)):=d2C _ _ 433 433 rkM rkG (by decide);have fM:=b7b leM;generalize a3z (a1p M) (w:Rat) (h:Rat)=GM at *;obtain ⟨E2,hE2⟩:∃ E2,a2J M (w:Int) (h:Int)=E2:=⟨_,rfl⟩
 rw [hE2] at c1M hTM hEM;have lD:(M.map a0F.D).length=l.length+1:=by rw [List.length_map];exact lM
 have fzB:∀ (g:Nat) (H Hf:Hp),Hp.get Hf 1307=none→Fz (⟨1307,g,77,3,M.map a0F.D⟩::H) Hf (.osl 1307 g 3 0 (l.length+1)) (.sl false 3 (M.map a0F.D)):=fun g H Hf hHf=>by
  refine .osl (e:=⟨1307,g,77,3,M.map a0F.D⟩) rfl hHf rfl rfl (by dsimp only;omega) lD (fun j d d' h1 h2=>?_) fun j d d' q c c' h1 h2 h3 h4=>?_
  ·rw [Nat.zero_add] at h1;rw [h1] at h2;cases h2;rfl
  ·rw [Nat.zero_add] at h1;rw [h1] at h2;cases h2;rw [h3] at h4;cases h4;exact Fz.refl _
 have flT:a6Z (.tup [str (sb (txt GM)),i64 ((0:Nat):Int)]):=a6Z.tup fun d hd=>by
  rcases List.mem_cons.1 hd with rfl|hd
  ·exact .prim _
  ·rcases List.mem_cons.1 hd with rfl|hd
   ·exact .prim _
   ·cases hd
 have t2u:(u:Int).tmod 2=((u%2:Nat):Int):=rfl;obtain ⟨n0,hn0⟩:∃ n0,1+u%2=n0:=⟨_,rfl⟩
 have hn:n0=1∨n0=2:=by omega
 have w2:IntKind.i64.wrap (1+((u%2:Nat):Int))=(n0:Int):=by rw [wI (by omega) (by omega)];omega
 have w3:IntKind.i64.wrap (2*(n0:Int))=((2*n0:Nat):Int):=by rw [wI (by omega) (by omega)];omega
 obtain ⟨s1,s2,s3,s4,s5⟩:=c6K hn hw1 hw hh1 hh;have hA:=smq (x:=w) (d:=2*n0) (by omega) (by omega) (by omega);have hB:=smq (x:=h) (d:=2*n0) (by omega) (by omega) (by omega);have cA:a0b C0 31 [i64 (w:Int),i64 ((2*n0:Nat):Int)] (str (sb (txt (mkRat (w:Int) (2*n0))))):=b6c (w:Int) (2*n0) (by omega) (by omega) (by omega);have cB:a0b C0 31 [i64 (h:Int),i64 ((2*n0:Nat):Int)] (str (sb (txt (mkRat (h:Int) (2*n0))))):=b6c (h:Int) (2*n0) (by omega) (by omega) (by omega);have fG:∀ p∈a3A n0 w h,p.few:=fun p hp=>by have:=s2 p hp;unfold a0F.few;omega
 have cG2:=d4q false (a3A n0 w h) (by omega) fG (w:Int) (h:Int) fun _=>s2
 have tG:c4f (a3A n0 w h) (w:Int) (h:Int)=txt (a3z (a1p (a3A n0 w h)) (w:Rat) (h:Rat)):=by unfold c4f;rw [if_pos s1,Int.toNat_natCast,Int.toNat_natCast];unfold a8i;rw [s3,if_neg (by decide)]
 have eG:c4e (a3A n0 w h) (w:Int) (h:Int)=0:=by unfold c4e;rw [if_pos s1,Int.toNat_natCast,Int.toNat_natCast];unfold b1V;rw [s3,if_neg (by decide)]
 rw [tG,eG,s5] at cG2;have cPt:a0b C0 12 [str ⟨#[103,114,105,100]⟩,i64 (n0:Int),i64 (w:Int),i64 (h:Int)] (.tup [.sl false 3 ((a3A n0 w h).map a0F.D),i64 0]):=by
  have:=d1G .grid ⟨#[103,114,105,100]⟩ ⟨by kernel_rfl,by kernel_rfl,by kernel_rfl,by kernel_rfl⟩ (n0:Int) (w:Int) (h:Int)
  have hb:c0H Kd.grid.lo Kd.grid.most (n0:Int) (w:Int) (h:Int)=false:=by
   unfold c0H;rw [b9L hw1 hw hh1 hh,decide_eq_false (show ¬ (n0:Int)<Kd.grid.lo from by show ¬ (n0:Int)<1;omega),decide_eq_false (show ¬ (n0:Int)>Kd.grid.most from by show ¬ (n0:Int)>8;omega)];rfl
  rw [hb,if_neg (by decide),Int.toNat_natCast,Int.toNat_natCast,Int.toNat_natCast] at this;rw [← d1l n0 w h (by omega)];exact this
 generalize mkRat (w:Int) (2*n0)=A at *;generalize mkRat (h:Int) (2*n0)=B at *;have cM1:a0b C0 36 [str (sb (txt A)),str (sb (txt A))] (str (sb (txt (A*A)))):=d2D A A 2 2 hA.rk hA.rk (by decide);have cM2:a0b C0 36 [str (sb (txt B)),str (sb (txt B))] (str (sb (txt (B*B)))):=d2D B B 2 2 hB.rk hB.rk (by decide);have cS:a0b C0 35 [str (sb (txt (A*A))),str (sb (txt (B*B)))] (str (sb (txt (A*A+B*B)))):=d4z (A*A) (B*B) 4 4 (a1L hA.rk hA.rk) (a1L hB.rk hB.rk) (by decide);have zs:a1Q (sb (txt (A*A+B*B))) (sb (txt (A*A+B*B)))=true:=by rw [a5f];exact decide_eq_true rfl
 have zi:((0:Int)==0)=true:=rfl;have zn:(((0:Nat):Int)==0)=true:=rfl;generalize a3A n0 w h=GL at *;generalize txt (A*A+B*B)=T3 at *;generalize txt (A*A)=T1 at *;generalize txt (B*B)=T2 at *;generalize txt A=TA at *;generalize txt B=TB at *;refine goI a3d (ff2 z0 fC) cK cN cC trivial trivial trivial ?_;refine goI a3d (ff6 la Nat.zero_add tk tz nl em) trivial trivial trivial trivial trivial trivial ?_;refine a0l.own _ (a0m.lendS c1M rfl (d2H (FzS.of (fzB _ _ [] rfl)) (FzS.of (.refl _)) (FzS.of (.refl _))) inferInstance (.prim _)) ?_;rintro d H2 n2 ⟨rfl,rfl,rfl⟩;rcases Nat.decEq E2 0 with q|q
 ·have f2:=c7L q
  refine goI a3d (ff5 f2 fu t2u w2 w3) cPt cG2 cA cB trivial trivial ?_;refine goI a3d (ff3 zs zi zn) cM1 cM2 cS ha trivial trivial ?_;exact a0a rfl IsPure.out
 ·have f2:=d2O q
  rw [hTM q,hEM q] at c3M;refine goI a3d f2 trivial trivial trivial trivial trivial trivial ?_;refine a0l.own _ (a0m.lendS c3M rfl (d2H (FzS.of (fzB _ _ [] rfl)) (FzS.of (.refl _)) (FzS.of (.refl _))) inferInstance flT) ?_;rintro d H2 n2 ⟨rfl,rfl,rfl⟩;refine goI a3d (ff6 z0 fM fu t2u w2 w3) cKM cCM cPt cG2 cA cB ?_;refine goI a3d (ff3 zs zi zn) cM1 cM2 cS ha trivial trivial ?_;exact a0a rfl IsPure.out
theorem c0i {u:Int}(h:(Lit.int .u16 u).wf=true):∃ n:Nat,n<65536∧u=n:=by
 unfold Lit.wf at h;rw [Bool.and_eq_true,decide_eq_true_eq,decide_eq_true_eq] at h;have h1:(0:Int)≤u:=h.1;have h2:u≤65535:=h.2;exact ⟨u.toNat,by omega,by omega⟩
theorem c5N (ha:a0b C0 9 [] (boo true))(l:List a0F)(hl:l.length≤9223372036854775807)(L W u v:Int)(hu:(Lit.int .u16 u).wf=true)(hv:(Lit.int .u16 v).wf=true):a0b C0 7 [.sl false 3 (l.map a0F.D),.agg [i64 L,i64 W],.agg [.prim (.int .u16 u),.prim (.int .u16 v)]] (boo true):=by
 obtain ⟨m,hm,rfl⟩:=c0i hu;obtain ⟨n,hn,rfl⟩:=c0i hv;exact d1k ha l hl L W m n hm hn
end Go.Ide
