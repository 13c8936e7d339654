/- The layer of own lemmas and contracts, part 10. -/
import Derived.Test.YtpehlicnhjoknacGreatDoorP7
import Derived.Test.YtpehlicnhjoknacGreatDoorP6
import Derived.Test.YtpehlicnhjoknacGreatDoorP3
import Derived.Test.YtpehlicnhjoknacGreatDoorP9
set_option linter.unusedVariables false
set_option linter.unusedSimpArgs false
namespace Go.Ide
open Go.Proofs Go.RowKit
set_option maxRecDepth 20000
def b9h:D:=.agg [.prim (.string ⟨#[109,111,105,115,116,117,114,101]⟩),.prim (.string ⟨#[49,47,53]⟩),.prim (.string ⟨#[104,97,108,102,45,117,112]⟩),.prim (.string ⟨#[49,47,49,48]⟩)]
def c1N:D:=.agg [.prim (.string ⟨#[119,101,105,103,104,116]⟩),.prim (.string ⟨#[49,47,50]⟩),.prim (.string ⟨#[104,97,108,102,45,101,118,101,110]⟩),.prim (.string ⟨#[49,47,50]⟩)]
def plA:D:=.agg [.prim (.string ⟨#[111,110,101]⟩),.sl true 1 [.prim (.string ⟨#[]⟩),.prim (.string ⟨#[55,56]⟩)],.sl true 1 [.prim (.string ⟨#[49,51]⟩),.prim (.string ⟨#[]⟩)]]
def plB:D:=.agg [.prim (.string ⟨#[116,119,111]⟩),.sl true 1 [.prim (.string ⟨#[]⟩),.prim (.string ⟨#[55,53]⟩)],.sl true 1 [.prim (.string ⟨#[49,52]⟩),.prim (.string ⟨#[]⟩)]]
def plC:D:=.agg [.prim (.string ⟨#[116,104,114,101,101]⟩),.sl true 1 [.prim (.string ⟨#[]⟩),.prim (.string ⟨#[]⟩)],.sl true 1 [.prim (.string ⟨#[49,54]⟩),.prim (.string ⟨#[]⟩)]]
theorem c6y:a0b C0 215 [a1Q] (.clo (.func 243) [] [.pptr a1Q]):=by
 refine d9c w1 b9u rfl fun F=>?_
 refine fR 0 ?_;refine fR 100 ?_;refine rtI ?_;exact ⟨_,.clo1 (.ptr rfl rfl rfl rfl),a1a (n:=30) (by kernel_rfl),rfl⟩
theorem d7m:a0b C0 81 [b9h] (i64 0):=d9b b3T 1000 40 (by kernel_rfl)
theorem d7n:a0b C0 81 [c1N] (i64 0):=d9b b3T 1000 40 (by kernel_rfl)
theorem d5C:a0b C0 244 [.sl true 4 [],.clo (.func 245) [] [.pptr b9h]] (boo false):=d9b b3T 1000 40 (by kernel_rfl)
theorem d5D:a0b C0 244 [.sl true 4 [b9h],.clo (.func 245) [] [.pptr c1N]] (boo false):=d9b b3T 1000 40 (by kernel_rfl)
theorem d5E:a0b C0 246 [a1Q,i64 0] (i64 0):=d9b b3T 1000 40 (by kernel_rfl)
theorem d5F:a0b C0 246 [a1Q,i64 1] (i64 0):=d9b b3T 1000 40 (by kernel_rfl)
theorem d5G:a0b C0 246 [a1Q,i64 2] (i64 0):=d9b b3T 1000 40 (by kernel_rfl)
theorem b1t:a0b C0 51 [.sl true 1 [i64 0,i64 0]] (i64 0):=d9b a4C 100 10 (by kernel_rfl)
theorem d3I {H:Hp}{a b c d:D}(h1:FzS H a c)(h2:FzS H b d):∀ (i:Nat) (x y:D),[a,b][i]? = some x->[c,d][i]? = some y->FzS H x y:=fun i x y hx hy=>by
 match i with
 | 0=>simp at hx hy;subst hx;subst hy;exact h1
 | 1=>simp at hx hy;subst hx;subst hy;exact h2
 | n+2=>simp at hx
instance:IsPure a1Q:=⟨a7p⟩
instance:IsPure b9h:=⟨a1a (n:=30) (by kernel_rfl)⟩
instance:IsPure c1N:=⟨a1a (n:=30) (by kernel_rfl)⟩
instance:CellsPure b9h:=by unfold b9h;exact d9k
instance:CellsPure c1N:=by unfold c1N;exact d9k
def YOk (E:a3a)(l:Nat)(R:LR):Prop:=∀ (H:Hp) (n:Nat),b0b C0 E l R [i64 0] H n (fun j H' n'=>j=none/\H'=H)
theorem c7g {E:a3a}{l:Nat}{R:LR}(hE:a3a.ok E)(H0:Hp)(n0:Nat)(hY:YOk E l R):a6f C0 E 243 [.clo (.yield l) [] [],.pptr (.agg [.sl true 4 [b9h,c1N],.sl true 3 [plA,plB,plC]])] l R H0 n0
  (fun j d H' n'=>j=none/\H'=H0):=by
 refine a6f.walk w1 hE b9v rfl fun B F hR=>?_
 refine OkS.seq ?_;refine OkS.seq ?_;refine d8M w1 0 [0,1,2,3,4,5,6,7,8,9,10,11,12] [] 13 [14] (b1i [(14,[13,0,12,11,10,5,4,3,2,1,9,8,7,6]),(13,[0,12,11,10,5,4,3,2,1,9,8,7,6]),(12,[11,10,5,4,3,2,1,9,8,7,6]),(11,[5,10,4,3,2,1,9,8,7,6]),(10,[9,5,8,7,6,4,3,2,1]),(9,[8,7,6]),(8,[7,6]),(7,[6]),(6,[]),(5,[4,3,2,1]),(4,[3,2,1]),(3,[2,1]),(2,[1]),(1,[]),(0,[])] (by kernel_rfl)) hR ?_;refine nxI ?_;refine a0q.same _ (a1O _ 2) d9k ?_;refine nxI ?_;refine a0q.same _ (a1O _ 5) d9k ?_;refine nxI ?_;refine a0q.same _ (b1t) d9k ?_;refine nxI ?_;refine ⟨rfl,_,hY _ _,?_,fun c H n h=>d9n h.1 (by simp)⟩;rintro H' n1 ⟨_,rfl⟩;refine nxI ?_;refine ifI ?_;refine skI ?_;refine OkS.seq ?_;refine fR 100 ?_;refine OkS.block ?_;refine d8H (α:=Nat × Nat) (fun p=>⟨[(0,.clo (.yield l) [] []),(1,.pptr (.agg [.sl true 4 [b9h,c1N],.sl true 3 [plA,plB,plC]])),(23,.sl true 4 [b9h,c1N]),(24,i64 2),(25,i64 p.1)],H',p.2⟩) (fun p=>2 - p.1)
  (fun p F=>a7L C0 E B F l R/\p.1<=2) (0,_) ⟨hR,d9U _⟩ wkI ?_
 clear hR;rintro ⟨i,m⟩ F ⟨hR,h1⟩;dsimp only at h1 hR ⊢;refine fR 200 ?_;refine OkS.seq ?_;refine ifI ?_;have hi:i=0\/i=1\/i=2:=by omega
 have a3:IntKind.i64.wrap ((i:Int)+1)=((i+1:Nat):Int):=wI (by omega) (by omega);rcases hi with rfl|rfl|rfl
 ·refine skI ?_
  refine OkS.seq ?_;refine OkS.block ?_;refine fR 300 ?_;refine ⟨⟨rfl,by omega⟩,_,rfl,?_⟩;refine dsI ?_
  try dsimp only [D.cells,spot]
  refine nxI ?_;refine fR 400 ?_;refine a0j.own _ (d9h d5C rfl (d3I (FzS.refl _ _) (.clo1 (.ptr rfl rfl rfl rfl))) d9k (.prim _)) ?_;rintro d H2 n2 ⟨rfl,rfl,rfl⟩;refine nxI ?_;refine OkS.seq ?_;refine d8T w1 500 [0,1,2,3,4,5,6] 7 [8] rfl (by kernel_rfl) hR ?_;refine nxI ?_;refine a0j.same _ d7m (inferInstanceAs (ArePure [b9h])) ?_;refine nxI ?_;refine dI (a1O _ 9) ?_;refine a0j.same _ b1t d9k ?_;refine And.intro (by exact sdI) ?_;refine dsI ?_;refine ⟨rfl,_,hY _ _,?_,fun c H n h=>d9n h.1 (by simp)⟩;rintro H2 n2 ⟨_,rfl⟩;refine And.intro (by exact sdI) ?_;refine dsI ?_;refine ifI ?_;refine skI ?_;refine d8I w1 600 (by kernel_rfl) ?_;refine mwI a3 ?_;exact ⟨(1,_),⟨hR,(by dsimp only;omega)⟩,(by dsimp only;omega),wkI⟩
 ·refine skI ?_
  refine OkS.seq ?_;refine OkS.block ?_;refine fR 300 ?_;refine ⟨⟨rfl,by omega⟩,_,rfl,?_⟩;refine dsI ?_
  try dsimp only [D.cells,spot]
  refine nxI ?_;refine fR 400 ?_;refine a0j.own _ (d9h d5D rfl (d3I (FzS.refl _ _) (.clo1 (.ptr rfl rfl rfl rfl))) d9k (.prim _)) ?_;rintro d H2 n2 ⟨rfl,rfl,rfl⟩;refine nxI ?_;refine OkS.seq ?_;refine d8T w1 500 [0,1,2,3,4,5,6] 7 [8] rfl (by kernel_rfl) hR ?_;refine nxI ?_;refine a0j.same _ d7n (inferInstanceAs (ArePure [c1N])) ?_;refine nxI ?_;refine dI (a1O _ 9) ?_;refine a0j.same _ b1t d9k ?_;refine And.intro (by exact sdI) ?_;refine dsI ?_;refine ⟨rfl,_,hY _ _,?_,fun c H n h=>d9n h.1 (by simp)⟩;rintro H2 n2 ⟨_,rfl⟩;refine And.intro (by exact sdI) ?_;refine dsI ?_;refine ifI ?_;refine skI ?_;refine d8I w1 600 (by kernel_rfl) ?_;refine mwI a3 ?_;exact ⟨(2,_),⟨hR,(by dsimp only;omega)⟩,(by dsimp only;omega),wkI⟩
 ·refine exI ?_
  refine OkS.seq ?_;refine OkS.seq ?_;refine d8M w1 700 [0,1,2,3,4,5,6,7,8,9,10,11,12] [] 13 [14] (b1i [(14,[13,0,12,11,10,5,4,3,2,1,9,8,7,6]),(13,[0,12,11,10,5,4,3,2,1,9,8,7,6]),(12,[11,10,5,4,3,2,1,9,8,7,6]),(11,[5,10,4,3,2,1,9,8,7,6]),(10,[9,5,8,7,6,4,3,2,1]),(9,[8,7,6]),(8,[7,6]),(7,[6]),(6,[]),(5,[4,3,2,1]),(4,[3,2,1]),(3,[2,1]),(2,[1]),(1,[]),(0,[])] (by kernel_rfl)) hR ?_;refine nxI ?_;refine a0q.same _ (a1O _ 2) d9k ?_;refine nxI ?_;refine a0q.same _ (a1O _ 5) d9k ?_;refine nxI ?_;refine a0q.same _ (b1t) d9k ?_;refine nxI ?_;refine ⟨rfl,_,hY _ _,?_,fun c H n h=>d9n h.1 (by simp)⟩;rintro H2 n2 ⟨_,rfl⟩;refine And.intro (by exact sdI) ?_;refine dsI ?_;refine ifI ?_;refine skI ?_;refine fR 800 ?_;refine OkS.block ?_;refine d8H (α:=Nat × Nat) (fun p=>⟨[(0,.clo (.yield l) [] []),(1,.pptr (.agg [.sl true 4 [b9h,c1N],.sl true 3 [plA,plB,plC]])),(63,i64 3),(64,i64 p.1)],H2,p.2⟩) (fun p=>3 - p.1)
   (fun p F=>a7L C0 E B F l R/\p.1<=3) (0,_) ⟨hR,d9U _⟩ wkI ?_
  clear hR a3 h1;rintro ⟨i,m⟩ F ⟨hR,h1⟩;dsimp only at h1 hR ⊢;refine fR 900 ?_;refine OkS.seq ?_;refine ifI ?_;have hi:i=0\/i=1\/i=2\/i=3:=by omega
  have a3:IntKind.i64.wrap ((i:Int)+1)=((i+1:Nat):Int):=wI (by omega) (by omega);rcases hi with rfl|rfl|rfl|rfl
  ·refine skI ?_
   refine OkS.seq ?_;refine OkS.block ?_;refine fR 1000 ?_;refine OkS.seq ?_;refine d8T w1 1100 [0,1,2,3] 4 [5] rfl (by kernel_rfl) hR ?_;refine nxI ?_;refine a0j.same _ d5E (inferInstanceAs (ArePure [a1Q,i64 0])) ?_;refine And.intro (by exact sdI) ?_;refine dsI ?_;refine ⟨rfl,_,hY _ _,?_,fun c H n h=>d9n h.1 (by simp)⟩;rintro H2 n2 ⟨_,rfl⟩;refine And.intro (by exact sdI) ?_;refine dsI ?_;refine ifI ?_;refine skI ?_;refine d8I w1 1200 (by kernel_rfl) ?_;refine mwI a3 ?_;exact ⟨(1,_),⟨hR,(by dsimp only;omega)⟩,(by dsimp only;omega),wkI⟩
  ·refine skI ?_
   refine OkS.seq ?_;refine OkS.block ?_;refine fR 1000 ?_;refine OkS.seq ?_;refine d8T w1 1100 [0,1,2,3] 4 [5] rfl (by kernel_rfl) hR ?_;refine nxI ?_;refine a0j.same _ d5F (inferInstanceAs (ArePure [a1Q,i64 1])) ?_;refine And.intro (by exact sdI) ?_;refine dsI ?_;refine ⟨rfl,_,hY _ _,?_,fun c H n h=>d9n h.1 (by simp)⟩;rintro H2 n2 ⟨_,rfl⟩;refine And.intro (by exact sdI) ?_;refine dsI ?_;refine ifI ?_;refine skI ?_;refine d8I w1 1200 (by kernel_rfl) ?_;refine mwI a3 ?_;exact ⟨(2,_),⟨hR,(by dsimp only;omega)⟩,(by dsimp only;omega),wkI⟩
  ·refine skI ?_
   refine OkS.seq ?_;refine OkS.block ?_;refine fR 1000 ?_;refine OkS.seq ?_;refine d8T w1 1100 [0,1,2,3] 4 [5] rfl (by kernel_rfl) hR ?_;refine nxI ?_;refine a0j.same _ d5G (inferInstanceAs (ArePure [a1Q,i64 2])) ?_;refine And.intro (by exact sdI) ?_;refine dsI ?_;refine ⟨rfl,_,hY _ _,?_,fun c H n h=>d9n h.1 (by simp)⟩;rintro H2 n2 ⟨_,rfl⟩;refine And.intro (by exact sdI) ?_;refine dsI ?_;refine ifI ?_;refine skI ?_;refine d8I w1 1200 (by kernel_rfl) ?_;refine mwI a3 ?_;exact ⟨(3,_),⟨hR,(by dsimp only;omega)⟩,(by dsimp only;omega),wkI⟩
  ·refine exI ?_
   exact ⟨none,hR.stat,trivial,rfl,rfl⟩
theorem b8p:a0b C0 172 [a1Q] (i64 0):=by
 refine a0c.walk w1 b9p rfl fun F=>?_
 refine fR 0 ?_;refine OkS.seq ?_;refine fR 100 ?_;refine a0j.same _ c6y (inferInstanceAs (ArePure [a1Q])) ?_;refine nxI ?_;refine OkS.block ?_;refine OkS.rangeFunc (fi:=243) (first:=[]) (captured:=[.pptr a1Q]) (Ψ:=fun j d H' n'=>j=none/\H'=_) rfl (fun ds H n Φ=>ds=[i64 0]/\Φ=fun j H' n'=>j=none/\H'=H) ?_ (fun E l R hE hY=>c7g hE _ _ (fun H n=>hY _ _ _ _ ⟨rfl,rfl⟩)) ?_
 ·rintro l ds H n Φ ⟨rfl,rfl⟩
  refine ⟨rfl,fun F=>?_⟩;refine fI 200 ?_;refine ⟨rfl,rfl,fun F'=>?_⟩;refine OkS.block ?_;refine fR 300 ?_;refine ifI ?_;refine skI ?_;exact ⟨rfl,rfl⟩
 ·rintro j d H' n' F' ⟨rfl,rfl⟩
  dsimp only [c9p];refine fR 500 ?_;refine rtI ?_;exact a0a rfl IsPure.out
def c1R (c:D->D->Int):Nat->List D->List D
 | 0,l=>l
 | j+1,l=>match l[j+1]? with
  | some x=>match l[j]? with
   | some y=>if c x y<0 then c1R c j ((l.set (j+1) y).set j x) else l
   | none=>l
  | none=>l
def a9W (c:D->D->Int)(l:List D)(k:Nat):List D:=(List.range k).foldl (fun l i=>c1R c (i+1) l) l
theorem b2V (c:D->D->Int)(l:List D)(k:Nat):a9W c l (k+1)=c1R c (k+1) (a9W c l k):=by simp [a9W,List.range_succ]
def Fr4 (x:D):Prop:=∃ a b c d,x=.agg [a,b,c,d]/\IsPure a/\IsPure b/\IsPure c/\IsPure d
theorem c1x {l m:List D}{j:Nat}{x y:D}(hm:∀ z∈m,z∈l)(hx:m[j+1]? = some x)(hy:m[j]? = some y):(∀ z∈(m.set (j+1) y).set j x,z∈l)/\((m.set (j+1) y).set j x).length=m.length:=by
 refine ⟨fun z hz=>?_,by simp⟩;rcases e2t hz with h|rfl
 ·rcases e2t h with h|rfl
  ·exact hm z h
  ·exact hm _ (d9r hy)
 ·exact hm _ (d9r hx)
theorem b6o (c:D->D->Int){l:List D}:∀ (j:Nat) (m:List D),(∀ z∈m,z∈l)->(∀ z∈c1R c j m,z∈l)/\(c1R c j m).length=m.length
 | 0,m,h=>⟨h,rfl⟩
 | j+1,m,h=>by
  unfold c1R;split
  ·rename_i x hx
   split
   ·rename_i y hy
    split
    ·obtain ⟨h1,h2⟩:=c1x h hx hy
     obtain ⟨h3,h4⟩:=b6o c j _ h1;exact ⟨h3,h4.trans h2⟩
    ·exact ⟨h,rfl⟩
   ·exact ⟨h,rfl⟩
  ·exact ⟨h,rfl⟩
theorem a8b (c:D->D->Int)(l:List D):∀ k:Nat,(∀ z∈a9W c l k,z∈l)/\(a9W c l k).length=l.length
 | 0=>⟨fun _ h=>h,rfl⟩
 | k+1=>by
  obtain ⟨h1,h2⟩:=a8b c l k;obtain ⟨h3,h4⟩:=b6o c (k+1) _ h1;rw [b2V];exact ⟨h3,h4.trans h2⟩
theorem d3X {x y:D}(hx:Fr4 x)(hy:Fr4 y):ArePure [x,y]:=by
 obtain ⟨a,b,c,d,rfl,h1,h2,h3,h4⟩:=hx;obtain ⟨a',b',c',d',rfl,h1',h2',h3',h4'⟩:=hy;exact d9k
abbrev c2d:D:=.clo (.func 117) [] []
theorem c2K (c:D->D->Int)(l:List D)(N:Nat)(hN:l.length=N)(hl:N<=12)(h4:∀ x∈l,Fr4 x)(hc:∀ x∈l,∀ y∈l,a0b C0 117 [x,y] (i64 (c x y)))(g n:Nat) :
  a0z C0 272 [.osl 303 g 4 0 N,i64 0,i64 N,c2d] [⟨303,g,116,4,l⟩] n (fun d H' _=>d=.tup []/\H'=[⟨303,g,116,4,a9W c l (N - 1)⟩]):=by
 refine a0z.walk w1 c5j rfl fun F=>?_
 refine sR 0 ?_;refine OkS.block ?_;refine OkS.loop (α:=Nat × Nat) (fun p=>⟨[(0,.osl 303 g 4 0 N),(1,i64 0),(2,i64 N),(3,c2d),(8,i64 p.1)],[⟨303,g,116,4,a9W c l (p.1 - 1)⟩],p.2⟩) (fun p=>N - p.1)
  (fun p=>1<=p.1/\(p.1<=N\/p.1=1)) (1,_) ⟨d9y _,.inr rfl⟩ wkI ?_
 rintro ⟨i,m⟩ F ⟨h1,h2⟩;dsimp only at h1 h2 ⊢;refine OkS.seq ?_;refine sR 100 ?_;refine ifI ?_
 (refine brI (fun h14=>?_) (fun h14=>?_))<;>(try simp only [d9w,d9x] at h14)<;>(try simp only [h14])
 ·have hi:i<N:=by simpa using h14
  obtain ⟨e1,e2⟩:=a8b c l (i - 1);have ei:a9W c l i=c1R c i (a9W c l (i - 1)):=by
   obtain ⟨k,rfl⟩:∃ k,i=k+1:=⟨i - 1,by omega⟩
   exact b2V c l k
  generalize a9W c l (i - 1)=es at *;have wi:IntKind.i64.wrap ((i:Int)+1)=((i+1:Nat):Int):=wI (by omega) (by omega);refine skI ?_;refine OkS.seq ?_;refine OkS.block ?_;refine sR 300 ?_;refine OkS.block ?_;refine OkS.loop (α:=Nat × List D × Nat) (fun p=>⟨[(0,.osl 303 g 4 0 N),(1,i64 0),(2,i64 N),(3,c2d),(8,i64 i),(9,i64 p.1)],[⟨303,g,116,4,p.2.1⟩],p.2.2⟩) (fun p=>p.1)
   (fun p=>p.1<=i/\(∀ z∈p.2.1,z∈l)/\p.2.1.length=N/\c1R c p.1 p.2.1=a9W c l i) (i,es,_) ⟨d9y _,e1,e2.trans hN,ei.symm⟩ wkI ?_
  rintro ⟨j,em,k⟩ F ⟨g1,g2,g3,g4⟩;dsimp only at g1 g2 g3 g4 ⊢;refine OkS.seq ?_;refine OkS.seq ?_;rcases j with _|j
  ·have z0:decide (((0:Nat):Int)>0)=false:=rfl
   refine d8K w1 400 [0,1,2,3,4,5,6,7,8,9,10,11,12,13] [14,15,16] (by kernel_rfl) ?_;refine gwI z0 ?_;refine gwI z0 ?_;refine ifI ?_;refine exI ?_;obtain rfl:em=a9W c l i:=g4;refine d8I w1 200 (by kernel_rfl) ?_;refine nwI wi ?_;refine ⟨(i+1,_),⟨by dsimp only;omega,by dsimp only;omega⟩,by dsimp only;omega,wkI⟩
  ·obtain ⟨x,hx⟩:∃ x,em[j+1]? = some x:=⟨em[j+1],d9t (by omega)⟩
   obtain ⟨y,hy⟩:∃ y,em[j]? = some y:=⟨em[j],d9t (by omega)⟩
   have mx:=g2 x (d9r hx);have my:=g2 y (d9r hy);have ap:=d3X (h4 x mx) (h4 y my);have hcc:=hc x mx y my;have g4':(if c x y<0 then c1R c j ((em.set (j+1) y).set j x) else em)=a9W c l i:=by
    rw [<- g4,c1R,hx,hy]
   obtain ⟨a1,a2,a3,a4,rfl,-⟩:=h4 x mx;obtain ⟨b1,b2,b3,b4,rfl,-⟩:=h4 y my;have z1:decide (((j+1:Nat):Int)>0)=true:=d9q (by omega);have w2:IntKind.i64.wrap (((j+1:Nat):Int) - 1)=(j:Int):=by rw [wI (by omega) (by omega)];omega
   refine d8K w1 400 [0,1,2,3,4,5,6,7,8,9,10,11,12,13] [14,15,16] (by kernel_rfl) ?_;refine gwI (ff6 z1 w2 kN d9S hx hy) ?_;refine gcI z1 ?_;refine a0j.same _ hcc ap ?_;refine gwI z1 ?_;refine ifI ?_
   (refine brI (fun h34=>?_) (fun h34=>?_))<;>(try simp only [d9w,d9x] at h34)<;>(try simp only [h34])
   ·have hlt:c (.agg [a1,a2,a3,a4]) (.agg [b1,b2,b3,b4])<0:=by simpa using h34
    rw [d9l hlt] at g4';refine skI ?_;refine OkS.seq ?_;refine OkS.block ?_;have hxl:j+1<em.length:=(List.getElem?_eq_some_iff.1 hx).1;have hz:(em.set (j+1) (.agg [b1,b2,b3,b4]))[j]? = some (.agg [b1,b2,b3,b4]):=by
     rw [e0N (by omega)];exact hy
    refine d8R w1 600 [0,1,2,3,4,5,6,7,8,9,10,11,12,13,14,15] [16,17] 15 [10,11,12,13,8,7,6,5,1,0,9,14] (303) (by kernel_rfl) (by kernel_rfl) ?_;refine dsI ?_;refine gvI (ff6 w2 kN d9S hx hy hz) ?_;refine And.intro (Or.inl d9j) ?_;refine gwI (ff6 w2 kN d9S hx hy hz) ?_;refine d8I w1 500 (by kernel_rfl) ?_;refine nwI w2 ?_;obtain ⟨q1,q2⟩:=c1x g2 hx hy;refine ⟨(j,(em.set (j+1) (.agg [b1,b2,b3,b4])).set j (.agg [a1,a2,a3,a4]),_),⟨by dsimp only;omega,q1,q2.trans g3,g4'⟩,by dsimp only;omega,wkI⟩
   ·have hlt:¬ c (.agg [a1,a2,a3,a4]) (.agg [b1,b2,b3,b4])<0:=by simpa using h34
    rw [d9m hlt] at g4';refine exI ?_;subst g4';refine d8I w1 200 (by kernel_rfl) ?_;refine nwI wi ?_;refine ⟨(i+1,_),⟨by dsimp only;omega,by dsimp only;omega⟩,by dsimp only;omega,wkI⟩
 ·have hi:¬ i<N:=by simpa using h14
  refine exI ?_;have he:a9W c l (i - 1)=a9W c l (N - 1):=by
   rcases h2 with h2|h2
   ·rw [show i=N from by omega]
   ·rw [show N - 1=i - 1 from by omega]
  rw [he];exact ⟨trivial,rfl,rfl⟩
theorem d2U (c:D->D->Int)(l:List D)(N:Nat)(hN:l.length=N)(hl:N<=12)(h4:∀ x∈l,Fr4 x)(hc:∀ x∈l,∀ y∈l,a0b C0 117 [x,y] (i64 (c x y)))(lim:Int)(g n:Nat) :
  a0z C0 241 [.osl 303 g 4 0 N,i64 0,i64 N,i64 lim,c2d] [⟨303,g,116,4,l⟩] n (fun d H' _=>d=.tup []/\H'=[⟨303,g,116,4,a9W c l (N - 1)⟩]):=by
 refine a0z.walk w1 c5c rfl fun F=>?_
 refine sR 0 ?_;refine sR 100 ?_;refine OkS.block ?_;refine OkS.loop (α:=Nat) (fun p=>⟨[(0,.osl 303 g 4 0 N),(1,i64 0),(2,i64 N),(3,i64 lim),(4,c2d)],[⟨303,g,116,4,l⟩],p⟩) (fun p=>0)
  (fun p=>True) (_) d9j wkI ?_
 rintro m F -;refine OkS.block ?_;refine OkS.seq ?_;have w1':IntKind.i64.wrap ((N:Int) - 0)=N:=wI (by omega) (by omega);refine d8I w1 200 (by kernel_rfl) ?_;refine nwI w1' ?_;refine OkS.seq ?_;refine OkS.seq ?_;have w2':decide ((N:Int)<=12)=true:=d9q (by omega);refine d8I w1 300 (by kernel_rfl) ?_;refine nwI w2' ?_;refine ifI ?_;refine sR 400 ?_;refine a0j.own _ (c2K c l N hN hl h4 hc g _) ?_;rintro d H2 n2 ⟨rfl,rfl⟩;refine stI ?_;refine rtI ?_;exact ⟨rfl,rfl⟩
theorem c6r (N:Nat)(hl:N<=12):∃ z,a0b C0 242 [.prim (.int .u64 (IntKind.u64.wrap N))] (i64 z):=by
 have h:N=0\/N=1\/N=2\/N=3\/N=4\/N=5\/N=6\/N=7\/N=8\/N=9\/N=10\/N=11\/N=12:=by omega
 rcases h with rfl|rfl|rfl|rfl|rfl|rfl|rfl|rfl|rfl|rfl|rfl|rfl|rfl
 ·exact ⟨0,d9b a4C 1000 40 (by kernel_rfl)⟩
 ·exact ⟨1,d9b a4C 1000 40 (by kernel_rfl)⟩
 ·exact ⟨2,d9b a4C 1000 40 (by kernel_rfl)⟩
 ·exact ⟨2,d9b a4C 1000 40 (by kernel_rfl)⟩
 ·exact ⟨3,d9b a4C 1000 40 (by kernel_rfl)⟩
 ·exact ⟨3,d9b a4C 1000 40 (by kernel_rfl)⟩
 ·exact ⟨3,d9b a4C 1000 40 (by kernel_rfl)⟩
 ·exact ⟨3,d9b a4C 1000 40 (by kernel_rfl)⟩
 ·exact ⟨4,d9b a4C 1000 40 (by kernel_rfl)⟩
 ·exact ⟨4,d9b a4C 1000 40 (by kernel_rfl)⟩
 ·exact ⟨4,d9b a4C 1000 40 (by kernel_rfl)⟩
 ·exact ⟨4,d9b a4C 1000 40 (by kernel_rfl)⟩
 ·exact ⟨4,d9b a4C 1000 40 (by kernel_rfl)⟩
theorem c3w (c:D->D->Int)(l:List D)(N:Nat)(hN:l.length=N)(hl:N<=12)(h4:∀ x∈l,Fr4 x)(hc:∀ x∈l,∀ y∈l,a0b C0 117 [x,y] (i64 (c x y)))(g n:Nat) :
  a0z C0 210 [.osl 303 g 4 0 N,c2d] [⟨303,g,116,4,l⟩] n (fun d H' _=>d=.tup []/\H'=[⟨303,g,116,4,a9W c l (N - 1)⟩]):=by
 refine a0z.walk w1 c4P rfl fun F=>?_
 refine sR 0 ?_;refine rI 100 ?_;obtain ⟨z,hz⟩:=c6r N hl;refine a0j.same _ hz d9k ?_;refine stI ?_;refine a0j.own _ (d2U c l N hN hl h4 hc z g _) ?_;rintro d H2 n2 ⟨rfl,rfl⟩;refine stI ?_;exact ⟨trivial,rfl,rfl⟩
abbrev fV:Nat:=211
theorem c0B {x:D}(h:Fr4 x):a2n x/\∀ d∈x.cells,a2n d:=by
 obtain ⟨a,b,c,d,rfl,⟨h1⟩,⟨h2⟩,⟨h3⟩,⟨h4⟩⟩:=h
 have:∀ y∈[a,b,c,d],a2n y:=fun y hy=>by
  simp only [d9F,e0j,or_false] at hy;rcases hy with rfl|rfl|rfl|rfl<;>assumption
 exact ⟨.agg this,this⟩
theorem b1J (b:Bool){l:List D}(h4:∀ x∈l,Fr4 x):a2n (.sl b 4 l):=.sl fun e he=>(c0B (h4 e he)).2
theorem b3o (b:Bool){l:List D}(h4:∀ x∈l,Fr4 x):a2n (.clo (.func fV) [] [.pptr (.sl b 4 l)]) :=
 .clo (by simp) fun d hd=>by
  simp only [d9F,e0j,or_false] at hd;subst hd;exact .pptr fun d hd=>by
   simp only [D.cells,d9F,e0j,or_false] at hd;subst hd;exact b1J b h4
theorem c8m (b:Bool)(l:List D)(h4:∀ x∈l,Fr4 x):a0b C0 158 [.sl b 4 l] (.clo (.func fV) [] [.pptr (.sl b 4 l)]):=by
 refine d9c w1 c4w rfl fun F=>?_
 refine fR 0 ?_;refine fR 100 ?_;refine rtI ?_;exact ⟨_,.clo1 (.ptr rfl rfl rfl rfl),b3o b h4,rfl⟩
def stV (es:List D)(gb:Nat):Nat->Nat->Hp
 | 0,_=>[⟨0,gb,129,1,[a1w]⟩]
 | k+1,g=>[⟨303,g,116,4,es.take (k+1)⟩,⟨0,gb,129,1,[.osl 303 g 4 0 (k+1)]⟩]
def stE (es:List D)(gb k g2:Nat)(x:D):Option Code->Hp->Nat->Prop:=fun j H' _=>j=none/\∃ g q r,H'=[⟨303,g,116,4,es.take (k+1)⟩,⟨200,q,116,4,[r]⟩,⟨202,g2,116,4,[x]⟩,⟨0,gb,129,1,[.osl 303 g 4 0 (k+1)]⟩]
theorem c3H {E:a3a}{l:Nat}{R:LR}(hE:a3a.ok E)(b:Bool)(es:List D)(N:Nat)(hN:es.length=N)(hl:N<=12)(h4:∀ x∈es,Fr4 x)(gb n0:Nat)
  (hY:∀ k x g g2 n,es[k]? = some x->b0b C0 E l R [x] (⟨202,g2,116,4,[x]⟩::stV es gb k g) n (stE es gb k g2 x)) :
  a6f C0 E fV [.clo (.yield l) [] [],.pptr (.sl b 4 es)] l R (stV es gb 0 0) n0 (fun j _ H' _=>j=none/\∃ g,H'=stV es gb N g):=by
 refine a6f.walk w1 hE c4Q rfl fun B F hR=>?_
 subst hN;refine sR 0 ?_;refine OkS.block ?_;refine d8H (α:=Nat × Nat × Nat) (fun p=>⟨[(0,.clo (.yield l) [] []),(1,.pptr (.sl b 4 es)),(5,.sl b 4 es),(6,i64 es.length),(7,i64 p.1)],stV es gb p.1 p.2.1,p.2.2⟩) (fun p=>es.length - p.1)
  (fun p F=>a7L C0 E B F l R/\p.1<=es.length) (0,0,_) ⟨hR,d9U _⟩ wkI ?_
 clear hR;rintro ⟨i,g,m⟩ F ⟨hR,h1⟩;dsimp only at h1 hR ⊢;refine sR 100 ?_;refine OkS.seq ?_;refine ifI ?_
 (refine brI (fun h8=>?_) (fun h8=>?_))<;>(try simp only [d9w,d9x] at h8)<;>(try simp only [h8])
 ·have hi:i<es.length:=by simpa using h8
  have a3:IntKind.i64.wrap ((i:Int)+1)=((i+1:Nat):Int):=wI (by omega) (by omega);obtain ⟨x,hx⟩:∃ x,es[i]? = some x:=⟨es[i],d9t (by omega)⟩
  obtain ⟨x1,x2,x3,x4,rfl,-⟩:=h4 x (d9r hx);have hY':=fun g2 n=>hY i _ g g2 n hx
  refine skI ?_;refine OkS.seq ?_;refine OkS.block ?_;refine OkS.seq ?_;rcases i with _|i
  ·dsimp only [stV] at hY' ⊢
   refine fI 200 ?_;refine ⟨⟨rfl,by omega⟩,_,hx,?_⟩;refine dsI ?_
   try dsimp only [D.cells,spot]
   refine nxI ?_;refine OkS.seq ?_;refine d8T w1 300 [0,1] 2 [3] rfl (by kernel_rfl) hR ?_;refine nxI ?_;refine ⟨rfl,_,hY' _ _,?_,fun c H n h=>d9n h.1 (by simp)⟩;rintro H2 n2 ⟨_,g',q,r,rfl⟩;refine And.intro (by exact sdI) ?_;refine dsI ?_;refine ifI ?_;refine skI ?_;refine d8I w1 400 (by kernel_rfl) ?_;refine mwI a3 ?_;exact ⟨(1,g',_),⟨hR,(by dsimp only;omega)⟩,(by dsimp only;omega),wkI⟩
  ·dsimp only [stV] at hY' ⊢
   refine fI 200 ?_;refine ⟨⟨rfl,by omega⟩,_,hx,?_⟩;refine dsI ?_
   try dsimp only [D.cells,spot]
   refine nxI ?_;refine OkS.seq ?_;refine d8T w1 300 [0,1] 2 [3] rfl (by kernel_rfl) hR ?_;refine nxI ?_;refine ⟨rfl,_,hY' _ _,?_,fun c H n h=>d9n h.1 (by simp)⟩;rintro H2 n2 ⟨_,g',q,r,rfl⟩;refine And.intro (by exact sdI) ?_;refine dsI ?_;refine ifI ?_;refine skI ?_;refine d8I w1 400 (by kernel_rfl) ?_;refine mwI a3 ?_;exact ⟨(i+2,g',_),⟨hR,(by dsimp only;omega)⟩,(by dsimp only;omega),wkI⟩
 ·have hi:i=es.length:=by
   have:¬ i<es.length:=by simpa using h8
   omega
  subst hi;refine exI ?_;exact ⟨none,hR.stat,trivial,rfl,_,rfl⟩
def d5y (es:List D):D->Hp->Nat->Prop:=fun d H' _=>∃ g q,d=.osl 303 g 4 0 es.length/\H'=[⟨303,g,116,4,es⟩,⟨0,q,129,1,[.osl 303 g 4 0 es.length]⟩]
theorem c8n (b:Bool)(es:List D)(h0:es≠[])(hl:es.length<=12)(h4:∀ x∈es,Fr4 x)(n:Nat) :
  a0z C0 240 [a1w,.clo (.func fV) [] [.pptr (.sl b 4 es)]] [] n (d5y es):=by
 refine a0z.walk w1 c5b rfl fun F=>?_
 refine sR 0 ?_;refine OkS.seq ?_;refine sR 100 ?_;refine OkS.block ?_;refine OkS.rangeFunc (fi:=fV) (first:=[]) (captured:=[.pptr (.sl b 4 es)]) (Ψ:=fun j _ H' _=>j=none/\∃ g,H'=stV es _ es.length g) rfl
  (fun ds H _ Φ=>∃ k x g g2,es[k]? = some x/\ds=[x]/\H=⟨202,g2,116,4,[x]⟩::stV es _ k g/\Φ=stE es _ k g2 x) ?_ (fun E l R hE hY=>c3H hE b es _ rfl hl h4 _ _ (fun k x g g2 n hx=>hY _ _ _ _ ⟨k,x,g,g2,hx,rfl,rfl,rfl⟩)) ?_
 ·rintro l ds H m Φ ⟨k,x,g,g2,hx,rfl,rfl,rfl⟩
  have hk:k<es.length:=(List.getElem?_eq_some_iff.1 hx).1;obtain ⟨x1,x2,x3,x4,rfl,-⟩:=h4 x (d9r hx);refine ⟨rfl,fun F=>?_⟩;rcases k with _|k
  ·dsimp only [stV,a9Y]
   refine fI 200 ?_;refine ⟨rfl,rfl,fun F'=>?_⟩;refine OkS.block ?_;refine fI 300 ?_;have t1:es.take (0+1)=[.agg [x1,x2,x3,x4]]:=by rw [e0Z,hx];rfl
   unfold stE;rw [t1];exact ⟨rfl,_,_,_,rfl⟩
  ·have t2:es.take (k+1+1)=es.take (k+1)++[.agg [x1,x2,x3,x4]]:=by rw [e0Z,hx];rfl
   have tl:(es.take (k+1)).length=k+1:=by rw [d9J];omega
   dsimp only [stV,a9Y];generalize es.take (k+1)=t at *;refine fI 200 ?_;refine ⟨rfl,rfl,fun F'=>?_⟩;refine OkS.block ?_;refine fI 300 ?_;unfold stE;rw [t2,d9G (show t.length<=k+1 by omega)];exact ⟨rfl,_,_,_,rfl⟩
 ·rintro j d H' n' F' ⟨rfl,g,rfl⟩
  dsimp only [c9p];obtain ⟨N,hN⟩:∃ N,es.length=N+1:=⟨es.length - 1,by have:=List.length_pos_iff.2 h0;omega⟩
  have ht:es.take (N+1)=es:=by rw [<- hN];exact e0S
  unfold d5y;rw [hN];dsimp only [stV];rw [ht];refine fR 400 ?_;refine rtI ?_;exact ⟨_,_,rfl,rfl⟩
theorem c6x (b:Bool)(es:List D)(h0:es≠[])(hl:es.length<=12)(h4:∀ x∈es,Fr4 x)(n:Nat) :
  a0z C0 209 [.clo (.func fV) [] [.pptr (.sl b 4 es)]] [] n (d5y es):=by
 refine a0z.walk w1 c4O rfl fun F=>?_
 refine fR 0 ?_;refine fR 100 ?_;refine a0j.own _ (c8n b es h0 hl h4 _) ?_;rintro d H2 n2 ⟨g,q,rfl,rfl⟩;refine nxI ?_;refine rtI ?_;exact ⟨_,_,rfl,rfl⟩
theorem c1m (c:D->D->Int)(b:Bool)(es:List D)(h0:es≠[])(hl:es.length<=12)(h4:∀ x∈es,Fr4 x)(hc:∀ x∈es,∀ y∈es,a0b C0 117 [x,y] (i64 (c x y))) :
  a0b C0 157 [.clo (.func fV) [] [.pptr (.sl b 4 es)],c2d] (.sl false 4 (a9W c es (es.length - 1))):=by
 refine a0c.walk w1 c4v rfl fun F=>?_
 refine fR 0 ?_;refine fR 100 ?_;refine a0j.own _ (c6x b es h0 hl h4 _) ?_;rintro d H2 n2 ⟨g,q,rfl,rfl⟩;refine nxI ?_;refine OkS.weak ⟨[(5,.osl 303 g 4 0 es.length),(1,c2d)],[⟨303,g,116,4,es⟩],_⟩ wkI ?_;refine fR 200 ?_;refine a0j.own _ (c3w c es _ rfl hl h4 hc g _) ?_;rintro d H2 n3 ⟨rfl,rfl⟩;refine nxI ?_;refine fR 300 ?_;refine rtI ?_;obtain ⟨i1,i2⟩:=a8b c es (es.length - 1);generalize a9W c es (es.length - 1)=m at *;rw [<- i2];exact ⟨_,b0y _ _ _ _ _,b1J false fun x hx=>h4 x (i1 x hx),rfl⟩
theorem b9X (c:D->D->Int)(b:Bool)(es:List D)(hl:es.length=3)(h4:∀ x∈es,Fr4 x)(hc:∀ x∈es,∀ y∈es,a0b C0 117 [x,y] (i64 (c x y)))(x:D)(hx:(a9W c es 2)[1]? = some x) :
  a0b C0 89 [.sl b 4 es] x:=by
 refine a0c.walk w1 d2k rfl fun F=>?_
 have h0:es≠[]:=fun h=>by rw [h] at hl;cases hl
 obtain ⟨i1,i2⟩:=a8b c es 2;have q1:=c8m b es h4;have q2:=c1m c b es h0 (by omega) h4 hc;rw [hl] at q2;have hp:ArePure [.sl b 4 es]:=⟨fun d hd=>by simp at hd;subst hd;exact b1J b h4⟩
 have hp2:ArePure [.clo (.func fV) [] [.pptr (.sl b 4 es)],c2d]:=⟨fun d hd=>by
  simp at hd;rcases hd with rfl|rfl
  ·exact b3o b h4
  ·exact .clo (by simp) (by simp)⟩
 have hxf:=h4 x (i1 x (d9r hx));obtain ⟨x1,x2,x3,x4,rfl,-⟩:=id hxf;refine fR 0 ?_;refine fR 100 ?_;refine a0j.same _ q1 hp ?_;refine nxI ?_;refine a0j.same _ q2 hp2 ?_;refine nxI ?_;refine OkS.seq ?_;rw [hl] at i2;refine d8I w1 200 (by kernel_rfl) ?_;have w3:((a9W c es 2).length:Int)=3:=by rw [i2];rfl
 have w4:IntKind.i64.wrap ((3:Int).tdiv 2)=1:=wI (by decide) (by decide);refine gwI (ff2 w3 @w4) ?_;refine ixI kT hx ?_;refine stI ?_;refine rtI ?_;exact a0a rfl (c0B hxf).1
def d3P:List (Nat × List D × D):=[(30,[a1Q,.sl true 1 [.prim (.string ⟨#[54,55,47,53]⟩),.prim (.string ⟨#[55,57]⟩)]],.tup [.prim (.int .i64 1),.prim (.int .i64 0)]),(32,[a1Q,.sl true 1 [.prim (.string ⟨#[54,55,47,53]⟩),.prim (.string ⟨#[55,57]⟩)]],.tup [.sl false 1 [.prim (.int .i64 0)],.prim (.int .i64 0)]),(33,[a1Q,.prim (.int .i64 0),.sl true 1 [.prim (.string ⟨#[54,55,47,53]⟩),.prim (.string ⟨#[55,57]⟩)],.sl true 3 [.agg [.prim (.int .i64 0),.prim (.string ⟨#[49,47,50]⟩),.prim (.string ⟨#[51]⟩)]]],.tup [.prim (.string ⟨#[51]⟩),.prim (.int .i64 0)]),(10,[a1Q,.sl true 2 [.agg [.prim (.string ⟨#[49,53]⟩),.prim (.string ⟨#[49,55]⟩)],.agg [.prim (.string ⟨#[55,55]⟩),.prim (.string ⟨#[56,48]⟩)]]],.tup [.sl false 1 [.prim (.int .i64 2),.prim (.int .i64 3)],.prim (.int .i64 0)]),(34,[b2E,.prim (.string ⟨#[49,51,52,52,57,47,49,48,48,48]⟩)],.tup [.prim (.string ⟨#[54,55,47,53]⟩),.agg [.prim (.string ⟨#[54,54,47,53]⟩),.prim (.string ⟨#[54,56,47,53]⟩)],.prim (.int .i64 0)]),(36,[b2E,.sl true 1 [.prim (.string ⟨#[54,55,47,53]⟩),.prim (.string ⟨#[54,57,47,53]⟩),.prim (.string ⟨#[54,56,47,53]⟩)]],.tup [.prim (.string ⟨#[54,56,47,53]⟩),.prim (.int .i64 0)]),(40,[.sl true 1 [.sl true 2 [.agg [.prim (.string ⟨#[49,50]⟩),.prim (.string ⟨#[49,51]⟩)]],.sl true 2 [.agg [.prim (.string ⟨#[49,52]⟩),.prim (.string ⟨#[49,53]⟩)]]],.sl true 1 [.prim (.int .i64 1),.prim (.int .i64 3)]],.tup [.sl false 2 [.agg [.prim (.string ⟨#[50,55,47,50]⟩),.prim (.string ⟨#[50,57,47,50]⟩)]],.prim (.int .i64 0)]),(37,[.prim (.string ⟨#[113,117,105,110,99,117,110,120]⟩),.prim (.int .i64 5),.prim (.int .i64 400),.prim (.int .i64 200)],.tup [a9i,.prim (.int .i64 0)]),(38,[a9i,.prim (.int .i64 400),.prim (.int .i64 200)],.tup [.prim (.string ⟨#[49,50,53,48,48]⟩),.prim (.int .i64 0)])]
instance d6p:IsPure a1Q:=⟨a7p⟩
instance d5z:IsPure b2E:=⟨a1a (n:=30) (by kernel_rfl)⟩
instance d5A:IsPure a9i:=⟨a1a (n:=30) (by kernel_rfl)⟩
theorem c8f (K:Kn):∀ e∈d3P,a0b C0 e.1 e.2.1 e.2.2/\ArePure e.2.1:=by
 intro e he;simp only [d3P,d9F,e0j,or_false] at he;rcases he with rfl|rfl|rfl|rfl|rfl|rfl|rfl|rfl|rfl
 ·exact ⟨d6K K,d9k⟩
 ·exact ⟨d6L K,d9k⟩
 ·exact ⟨d6M K,d9k⟩
 ·exact ⟨d6N K,d9k⟩
 ·exact ⟨d6H K,d9k⟩
 ·exact ⟨d6I K,d9k⟩
 ·exact ⟨d6G K,d9k⟩
 ·exact ⟨d6F K,d9k⟩
 ·exact ⟨d6J K,d9k⟩
noncomputable def X3:EV:=⟨tt2,xbt.get,fbt.get,fun _=>false,b4p d3P,mtA,b7R⟩
theorem d6B (K:Kn):a9R C0 X3:=⟨d3r,b4V,ftab,a7Y d3P (c8f K),by kernel_rfl,b3i,a5V⟩
theorem c2a (K:Kn):a0b C0 9 [] (boo true):=d9b (d6B K) 1000 40 (by kernel_rfl)
def d6R (x y:D):Int:=match asQ x with
 | some p=>match asQ y with
  | some q=>a6M (p.n*q.d) (q.n*p.d)
  | none=>0
 | none=>0
theorem d7c (p:Q2):Fr4 p.D:=⟨_,_,_,_,rfl,d9k,d9k,d9k,d9k⟩
theorem b4E {x:D}(h:x∈c8F):∃ p:Q2,x=p.D/\Sm p.n/\p.d=5/\Sm (p.n*5):=by
 simp only [c8F,d9F,e0j,or_false] at h;rcases h with rfl|rfl|rfl
 ·exact ⟨⟨67,5⟩,rfl,a0K rfl,rfl,a0K rfl⟩
 ·exact ⟨⟨69,5⟩,rfl,a0K rfl,rfl,a0K rfl⟩
 ·exact ⟨⟨68,5⟩,rfl,a0K rfl,rfl,a0K rfl⟩
theorem d5m:Kn:=by
 refine ⟨b8p,fun b=>b9X d6R b c8F rfl (fun x hx=>?_) (fun x hx y hy=>?_) d5o rfl⟩
 ·obtain ⟨p,rfl,_⟩:=b4E hx
  exact d7c p
 ·obtain ⟨p,rfl,h1,h2,h3⟩:=b4E hx
  obtain ⟨q,rfl,g1,g2,g3⟩:=b4E hy
  have:=b9b p q h1 g1 (by rw [h2];exact a0K rfl) (by rw [g2];exact a0K rfl) (by rw [g2];exact h3) (by rw [h2];exact g3)
  exact this
abbrev BB:Nat:=18446744073709551616
def a0h (n:Nat):List Nat:=if _h:n=0 then [] else (n%BB)::a0h (n / BB)
termination_by n
decreasing_by exact e1F (e0r _h) (by decide)
def a0m:List Nat->Nat
 | []=>0
 | a::l=>a+BB*a0m l
def Wd (l:List Nat):Prop:=∀ a∈l,a<BB
theorem a0W:a0h 0=[]:=by unfold a0h;rfl
theorem a1E {n:Nat}(h:n≠0):a0h n=(n%BB)::a0h (n / BB):=by rw [a0h,dif_neg h]
theorem a1K (n:Nat):Wd (a0h n):=by
 induction n using Nat.strongRecOn with
 | ind n ih =>
  by_cases h:n=0
  ·subst h;rw [a0W];intro a ha;cases ha
  ·rw [a1E h]
   intro a ha;rcases d9F.1 ha with rfl|ha
   ·exact e0k _ (by decide)
   ·exact ih _ (e1F (e0r h) (by decide)) a ha
theorem a0V (n:Nat):a0m (a0h n)=n:=by
 induction n using Nat.strongRecOn with
 | ind n ih =>
  by_cases h:n=0
  ·subst h;rw [a0W];rfl
  ·rw [a1E h,a0m,ih _ (e1F (e0r h) (by decide))]
   exact e0V n BB
theorem a1X (l m:List Nat):a0m (l++m)=a0m l+BB^l.length*a0m m:=by
 induction l with
 | nil=>simp [a0m]
 | cons a l ih =>
  simp only [e0M,a0m,ih,d9u,e0h,d9M];rw [d9O (BB^l.length) BB,d9Y,e1d]
theorem Wd.tail {a:Nat}{l:List Nat}(h:Wd (a::l)):Wd l:=fun b hb=>h b (e0t _ hb)
theorem Wd.head {a:Nat}{l:List Nat}(h:Wd (a::l)):a<BB:=h a e0T
theorem Wd.append {l m:List Nat}(h:Wd l)(k:Wd m):Wd (l++m):=fun a ha=>(List.mem_append.1 ha).elim (h a) (k a)
theorem Wd.take {l:List Nat}(h:Wd l)(n:Nat):Wd (l.take n):=fun a ha=>h a (e1R ha)
theorem a3z:∀ {l:List Nat},Wd l->a0m l<BB^l.length
 | [],_=>by simp [a0m]
 | a::l,h=>by
  have h1:=a3z h.tail;have h2:=h.head;rw [a0m,d9u,e0h]
  calc a+BB*a0m l<BB+BB*a0m l:=by omega
   _=BB*(a0m l+1):=by rw [d9M,e1z,e2K]
   _<=BB*BB^l.length:=d9X _ h1
   _=_:=d9O _ _
theorem b3b:∀ {l:List Nat},Wd l->(∀ a∈l.getLast?,a≠0)->a0h (a0m l)=l
 | [],_,_=>a0W
 | [a],h,hl=>by
  have ha:a≠0:=hl a (by simp);have hb:=h.head;rw [show a0m [a]=a from by simp [a0m],a1E ha,e0u hb,e1A hb,a0W]
 | a::b::l,h,hl=>by
  have ih:=b3b h.tail (fun x hx=>hl x (by simpa using hx));have hb:=h.head;have hv:a0m (b::l)≠0:=by
   intro h0;rw [h0,a0W] at ih;cases ih
  have e1:a0m (a::b::l)%BB=a:=by rw [a0m,e2u,e0u hb]
  have e2:a0m (a::b::l) / BB=a0m (b::l):=by
   rw [a0m,e2R _ _ (by decide),e1A hb,d9S]
  have hne:a0m (a::b::l)≠0:=by
   intro h0;rw [h0] at e2;exact hv (by rw [<- e2];rfl)
  rw [a1E hne,e1,e2,ih]
theorem a5u:∀ (k:Nat),a0m (List.replicate k 0)=0
 | 0=>rfl
 | k+1=>by rw [List.replicate_succ,a0m,a5u k,e1g]
theorem b0G {l:List Nat}(h:Wd l)(n:Nat)(hz:∀ j,n<=j->∀ a,l[j]? = some a->a=0)(hn:n<=l.length)(hl:∀ m,n=m+1->∀ a,l[m]? = some a->a≠0):l.take n=a0h (a0m l):=by
 have hd:l.drop n=List.replicate (l.length - n) 0:=by
  refine e2w fun i=>?_
  rw [e1m,List.getElem?_replicate];split
  ·rename_i hi
   rw [d9t (by omega)]
   congr 1
   exact hz _ (Nat.le_add_right _ _) _ (d9t (by omega))
  ·exact e0c (by omega)
 have hv:a0m l=a0m (l.take n):=by
  conv=>lhs;rw [<- e0H n l]
  rw [a1X,hd,a5u,e1g,e0W]
 rw [hv];refine (b3b (h.take n) fun a ha=>?_).symm
 match n,hl,hn with
 | 0,_,_=>simp at ha
 | m+1,hl,hn =>
  refine hl m rfl a ?_;rw [List.getLast?_eq_getElem?,d9J,e1n hn,e0K,d9l (by omega)] at ha;simpa using ha
abbrev a0k (n:Nat):D:=u64 (n:Int)
def wL (l:List Nat):D:=.sl false 1 (l.map a0k)
def wD (n:Nat):D:=wL (a0h n)
theorem a4X (l:List Nat):a2n (wL l):=.sl fun e he d hd=>by
 obtain ⟨a,_,rfl⟩:=List.mem_map.1 he;simp only [D.cells,d9F,e0j,or_false] at hd;subst hd;exact .prim _
instance  (l:List Nat):IsPure (wL l):=⟨a4X l⟩
instance  (n:Nat):IsPure (wD n):=⟨a4X _⟩
theorem a1o {l:List Nat}{i a:Nat}(h:l[i]? = some a):(l.map a0k)[i]? = some (a0k a):=by rw [d9E,h];rfl
theorem trim_ok (l:List Nat)(h:Wd l)(hlen:l.length<4000000000):a0b C0 219 [wL l] (wD (a0m l)):=by
 refine a0c.walk w1 c4V rfl fun F=>?_
 unfold wL;refine sR 0 ?_;refine sR 100 ?_;refine OkS.seq ?_;refine OkS.block ?_;have hml:((l.map a0k).length:Int)=(l.length:Int):=by rw [d9s]
 rw [hml];refine OkS.loop (α:=Nat × Nat) (fun p=>⟨[(0,.sl false 1 (l.map a0k)),(3,i64 p.1)],[],p.2⟩) (fun p=>p.1)
  (fun p=>p.1<=l.length/\∀ j,p.1<=j->∀ a,l[j]? = some a->a=0) (l.length,_) ⟨d9y _,fun j hj a ha=>by rw [e0c hj] at ha;cases ha⟩ wkI ?_
 rintro ⟨n,m⟩ F ⟨h1,h2⟩;dsimp only at h1 h2 ⊢;refine OkS.seq ?_;refine OkS.seq ?_;rcases n with _|n
 ·have z0:decide (((0:Nat):Int)>0)=false:=rfl
  refine d8I w1 200 (by kernel_rfl) ?_;refine gwI z0 ?_;refine ifI ?_;refine exI ?_;have ht:=b0G h 0 h2 (d9U _) (by simp);refine sR 400 ?_;refine rtI ?_;refine a0a (d0:=wL (l.take 0)) ?_ IsPure.out;rw [ht];rfl
 ·obtain ⟨a,ha⟩:∃ a,l[n]? = some a:=⟨l[n],d9t (by omega)⟩
  have hx:=a1o ha;have z1:decide (((n+1:Nat):Int)>0)=true:=d9q (by omega);have w2:IntKind.i64.wrap (((n+1:Nat):Int) - 1)=(n:Int):=by rw [wI (by omega) (by omega)];omega
  refine d8I w1 200 (by kernel_rfl) ?_;refine gwI (ff2 z1 w2) ?_;refine ixI z1 hx ?_;refine gwI (ff2 z1 w2) ?_;refine ifI ?_
  (refine brI (fun h15=>?_) (fun h15=>?_))<;>(try simp only [d9w,d9x] at h15)<;>(try simp only [h15])
  ·have ha0:a=0:=by
    have:(a:Int)=0:=by simpa using h15
    omega
   subst ha0;refine skI ?_;refine OkS.block ?_;refine d8I w1 300 (by kernel_rfl) ?_;refine nwI w2 ?_;refine ⟨(n,_),⟨by dsimp only;omega,fun j hj b hb=>?_⟩,by dsimp only;omega,wkI⟩;rcases Nat.eq_or_lt_of_le hj with rfl|hlt
   ·exact e1K (hb.symm.trans ha)
   ·exact h2 j hlt b hb
  ·have ha0:a≠0:=by
    intro h0;subst h0;simp at h15
   refine exI ?_;have ht:=b0G h (n+1) h2 h1 (fun m hm b hb=>by
    obtain rfl:n=m:=by omega
    rw [ha] at hb;cases hb;exact ha0)
   refine sR 400 ?_;refine rtI ?_;have e4:List.take ((((n+1:Nat):Int)).toNat - 0) (List.drop 0 (l.map a0k))=(l.take (n+1)).map a0k:=by
    rw [e2C];simp
   rw [e4];refine a0a (d0:=wL (l.take (n+1))) ?_ IsPure.out;rw [ht];rfl
theorem a0G (b:Nat):∀ a,b<=a->(a0h b).length<=(a0h a).length:=by
 induction b using Nat.strongRecOn with
 | ind b ih =>
  intro a h
  by_cases hb:b=0
  ·subst hb;rw [a0W];exact d9U _
  ·rw [a1E hb,a1E (n:=a) (by omega),d9u,d9u]
   exact Nat.succ_le_succ (ih _ (e1F (e0r hb) (by decide)) _ (Nat.div_le_div_right h))
theorem a7A {a b:Nat}(h:(a0h a).length<(a0h b).length):a<b:=by
 rcases d9H a b with h1|h1
 ·exact h1
 ·have:=a0G b a h1;omega
theorem a6c {l:List Nat}{k a:Nat}(h:l[k]? = some a):a0m l=a0m (l.take k)+BB^k*(a+BB*a0m (l.drop (k+1))):=by
 have hk:k<l.length:=(List.getElem?_eq_some_iff.1 h).1
 conv=>lhs;rw [<- e0H k l]
 rw [a1X,d9J,e1n (by omega)]
 have:l.drop k=a::l.drop (k+1):=by
  rw [e0n hk]
  congr 1
  exact (List.getElem?_eq_some_iff.1 h).2
 rw [this,a0m]
theorem b0Z {l m:List Nat}{k a b:Nat}(hl:Wd l)(ha:l[k]? = some a)(hb:m[k]? = some b)(hd:l.drop (k+1)=m.drop (k+1))(hab:a<b):a0m l<a0m m:=by
 have hk:k<l.length:=(List.getElem?_eq_some_iff.1 ha).1;rw [a6c ha,a6c hb,hd];have h1:=a3z (hl.take k);rw [d9J,e1n (by omega)] at h1;generalize a0m (m.drop (k+1))=r;have h2:BB^k*(a+BB*r)+BB^k<=BB^k*(b+BB*r):=by
  rw [<- Nat.mul_succ];exact d9X _ (by omega)
 omega
theorem b1l (a b:Nat)(ha:(a0h a).length<4000000000)(hb:(a0h b).length<4000000000):a0b C0 197 [wD a,wD b] (i64 (a6M a b)):=by
 refine a0c.walk w1 c4H rfl fun F=>?_
 have hwa:=a1K a;have hwb:=a1K b;have va:=a0V a;have vb:=a0V b;have hlt:=@a7A a b;have hgt:=@a7A b a;unfold wD wL a6M;generalize a0h a=la at *;generalize a0h b=lb at *;have ea:(((la.map a0k).length:Nat):Int)=(la.length:Int):=by rw [d9s]
 have eb:(((lb.map a0k).length:Nat):Int)=(lb.length:Int):=by rw [d9s]
 refine sR 0 ?_;refine OkS.seq ?_;refine sZ 100 ?_;refine nwI (ff2 ea eb) ?_;refine ifI ?_
 (refine brI (fun h10=>?_) (fun h10=>?_))<;>(try simp only [d9w,d9x] at h10)<;>(try simp only [h10])
 ·have hne:la.length≠lb.length:=by
   have:(la.length:Int)≠lb.length:=by simpa using h10
   omega
  refine OkS.seq ?_;refine sZ 200 ?_;refine nwI (ff2 ea eb) ?_;refine ifI ?_
  (refine brI (fun h15=>?_) (fun h15=>?_))<;>(try simp only [d9w,d9x] at h15)<;>(try simp only [h15])
  ·have h1:la.length<lb.length:=by
    have:(la.length:Int)<lb.length:=by simpa using h15
    omega
   rw [d9l (by have:=hlt h1;omega)];refine sR 300 ?_;refine rtI ?_;exact a0a rfl IsPure.out
  ·have h1:lb.length<la.length:=by
    have:¬ (la.length:Int)<lb.length:=by simpa using h15
    omega
   have h2:=hgt h1;rw [d9m (by omega),d9l (by omega)];refine skI ?_;refine sR 400 ?_;refine rtI ?_;exact a0a rfl IsPure.out
 ·have hl:la.length=lb.length:=by
   have:(la.length:Int)=lb.length:=by simpa using h10
   omega
  clear hlt hgt;refine skI ?_;refine OkS.seq ?_;refine sZ 500 ?_;refine nwI ea ?_;refine OkS.block ?_;have w0:IntKind.i64.wrap ((la.length:Int) - 1)=(la.length:Int) - 1:=wI (by omega) (by omega);rw [w0];refine OkS.loop (α:=Nat × Nat) (fun p=>⟨[(0,.sl false 1 (la.map a0k)),(1,.sl false 1 (lb.map a0k)),(5,i64 ((p.1:Int) - 1))],[],p.2⟩) (fun p=>p.1)
   (fun p=>p.1<=la.length/\la.drop p.1=lb.drop p.1) (la.length,_) ⟨d9y _,by rw [e2n,hl,e2n]⟩ wkI ?_
  rintro ⟨k,m⟩ F ⟨h1,h2⟩;dsimp only at h1 h2 ⊢;refine OkS.seq ?_;refine sR 600 ?_;refine ifI ?_
  (refine brI (fun h20=>?_) (fun h20=>?_))<;>(try simp only [d9w,d9x] at h20)<;>(try simp only [h20])
  ·obtain ⟨j,rfl⟩:∃ j,k=j+1:=⟨k - 1,by
    have:(k:Int) - 1>=0:=by simpa using h20
    omega⟩
   have wj:((j+1:Nat):Int) - 1=(j:Int):=by omega
   obtain ⟨x,hx⟩:∃ x,la[j]? = some x:=⟨la[j],d9t (by omega)⟩
   obtain ⟨y,hy⟩:∃ y,lb[j]? = some y:=⟨lb[j],d9t (by omega)⟩
   have hx':=a1o hx;have hy':=a1o hy;rw [wj];refine skI ?_;refine OkS.seq ?_;refine OkS.block ?_;refine OkS.seq ?_;refine d8K w1 800 [0,1,2,3,4,5,6,7] [8] (by kernel_rfl) ?_;refine gwI kN ?_;refine ixI kT hx' ?_;refine gwI kN ?_;refine ixI kT hy' ?_;refine gwI kN ?_;refine gwI kN ?_;refine ifI ?_
   (refine brI (fun h31=>?_) (fun h31=>?_))<;>(try simp only [d9w,d9x] at h31)<;>(try simp only [h31])
   ·have hne:x≠y:=by
     intro h0;subst h0;simp at h31
    refine OkS.seq ?_;refine OkS.seq ?_;refine d8K w1 900 [0,1,2,3,4,5,6,7] [8] (by kernel_rfl) ?_;refine gwI kN ?_;refine ixI kT hx' ?_;refine gwI kN ?_;refine ixI kT hy' ?_;refine gwI kN ?_;refine gwI kN ?_;refine ifI ?_
    (refine brI (fun h40=>?_) (fun h40=>?_))<;>(try simp only [d9w,d9x] at h40)<;>(try simp only [h40])
    ·have hxy:x<y:=by
      have:(x:Int)<y:=by simpa using h40
      omega
     have:=b0Z hwa hx hy h2 hxy
     rw [d9l (by omega)];refine sR 1000 ?_;refine rtI ?_;exact a0a rfl IsPure.out
    ·have hxy:y<x:=by
      have:¬ (x:Int)<y:=by simpa using h40
      omega
     have:=b0Z hwb hy hx h2.symm hxy
     rw [d9m (by omega),d9l (by omega)];refine skI ?_;refine sR 1100 ?_;refine rtI ?_;exact a0a rfl IsPure.out
   ·have hxy:x=y:=by
     have:(x:Int)=y:=by simpa using h31
     omega
    subst hxy;have w5:IntKind.i64.wrap ((j:Int) - 1)=(j:Int) - 1:=wI (by omega) (by omega);refine skI ?_;refine d8I w1 700 (by kernel_rfl) ?_;refine nwI w5 ?_;have hj:=(List.getElem?_eq_some_iff.1 hx)
    have hj':=(List.getElem?_eq_some_iff.1 hy)
    refine ⟨(j,_),⟨by dsimp only;omega,?_⟩,by dsimp only;omega,wkI⟩;dsimp only;rw [e0n hj.1,e0n hj'.1,hj.2,hj'.2,h2]
  ·have hk:k=0:=by
    have:¬ ((k:Int) - 1>=0):=by simpa using h20
    omega
   subst hk;have hab:a=b:=by
    rw [<- va,<- vb]
    have:la=lb:=by simpa using h2
    rw [this]
   subst hab;rw [d9m (by omega),d9m (by omega)];refine exI ?_;refine sR 1200 ?_;refine rtI ?_;exact a0a rfl IsPure.out
theorem b5d {a b c:Nat}(hc:c<=1):b7R 232 [a0k a,a0k b,a0k c]=some (.tup [a0k ((a+b+c)%BB),a0k ((a+b+c) / BB)]):=by
 show (match Nat.ble c 1 with
  | true=>some (D.tup [.prim (.int .u64 (((a+b+c)%18446744073709551616:Nat):Int)),.prim (.int .u64 (((a+b+c) / 18446744073709551616:Nat):Int))])
  | false=>none)=_
 have h1:Nat.ble c 1=true:=by rw [Nat.ble_eq];exact hc
 rw [h1]
theorem a0U {l:List Nat}{i a:Nat}(h:l[i]? = some a):l.take (i+1)=l.take i++[a]:=by rw [e0Z,h];rfl
theorem a8i {l:List Nat}{i a:Nat}(h:i<l.length):(l.set i a).take (i+1)=l.take i++[a]:=by
 rw [a0U (l:=l.set i a) (i:=i) (a:=a) (by simp [h]),List.take_set_of_le (d9y _)]
theorem a1t {l:List Nat}{i a:Nat}(hi:l.length=i):a0m (l++[a])=a0m l+BB^i*a:=by rw [a1X,hi];simp [a0m]
theorem map_set {l:List Nat}{i a:Nat}:(l.map a0k).set i (a0k a)=(l.set i a).map a0k:=List.map_set.symm
theorem Wd.set {l:List Nat}(h:Wd l){i a:Nat}(ha:a<BB):Wd (l.set i a):=fun b hb=>by
 rcases e2t hb with h1|rfl
 ·exact h b h1
 ·exact ha
theorem a5v (n:Nat):Wd (List.replicate n 0):=fun a ha=>by rw [e2c ha];decide
theorem c1G {env:Env}{t K g n N:Nat}{z:List Nat}{T:Nat}(hl:z.length=N)(he:env.get t=.osl K g 1 0 N:=by exact rfl):Wk ⟨env,[⟨K,g,T,1,z.map a0k⟩],n⟩ ⟨[(t,.sl false 1 (z.map a0k))],[],n⟩:=by
 subst hl;refine ⟨.drop .nil,⟨?_,trivial⟩,d9y _⟩;dsimp only;rw [he]
 have:=b0y K g T 1 (z.map a0k)
 rwa [d9s] at this
theorem c6p (la lb:List Nat)(ha:Wd la)(hb:Wd lb)(hla:la.length<4000000)(hlb:lb.length<4000000):a0b C0 196 [wL la,wL lb] (wD (a0m la+a0m lb)):=by
 refine a0c.walk w1 c4G rfl fun F=>?_
 unfold wL;have ea:(((la.map a0k).length:Nat):Int)=(la.length:Int):=by rw [d9s]
 have eb:(((lb.map a0k).length:Nat):Int)=(lb.length:Int):=by rw [d9s]
 obtain ⟨x,y,hsw,hle,hx,hy,hlx,hv⟩:∃ x y:List Nat,(la.length<lb.length/\x=lb/\y=la\/¬ la.length<lb.length/\x=la/\y=lb)/\y.length<=x.length/\Wd x/\Wd y/\x.length<4000000/\a0m la+a0m lb=a0m x+a0m y:=by
  by_cases h:la.length<lb.length
  ·exact ⟨lb,la,.inl ⟨h,rfl,rfl⟩,by omega,hb,ha,hlb,by omega⟩
  ·exact ⟨la,lb,.inr ⟨h,rfl,rfl⟩,by omega,ha,hb,hla,rfl⟩
 rw [hv];refine sR 0 ?_;refine d8V ⟨[(0,.sl false 1 (x.map a0k)),(1,.sl false 1 (y.map a0k)),(4,a1w)],[],20⟩ ?_ ?_
 ·refine sZ 100 ?_
  refine nwI (ff2 ea eb) ?_;refine ifI ?_;rcases hsw with ⟨h,rfl,rfl⟩|⟨h,rfl,rfl⟩
  ·have e1:decide ((y.length:Int)<(x.length:Int))=true:=d9q (by omega)
   rw [e1];refine rI 200 ?_;exact And.intro (by trivial) (wkI)
  ·have e1:decide ((x.length:Int)<(y.length:Int))=false:=d9p (by omega)
   rw [e1];refine skI ?_;exact And.intro (by trivial) (wkI)
 clear hsw ea eb;have ex:(((x.map a0k).length:Nat):Int)=(x.length:Int):=by rw [d9s]
 have ey:(((y.map a0k).length:Nat):Int)=(y.length:Int):=by rw [d9s]
 have w3:IntKind.i64.wrap ((x.length:Int)+1)=((x.length+1:Nat):Int):=by rw [wI (by omega) (by omega)];omega
 have r3:List.replicate (x.length+1) (ofV (.int .u64 0))=(List.replicate (x.length+1) 0).map a0k:=by rw [e1J];rfl
 refine sZ 300 ?_;refine nwI (ff3 ex w3 kN) ?_;refine sR 400 ?_;refine OkS.seq ?_;refine sZ 500 ?_;refine nwI ex ?_;refine OkS.block ?_;refine OkS.loop (α:=Nat × Nat × List Nat × Nat) (fun p=>⟨[(0,.sl false 1 (x.map a0k)),(1,.sl false 1 (y.map a0k)),(4,a1w),(5,.osl 303 23 1 0 (x.length+1)),(6,a0k p.2.1),(21,i64 x.length),(22,i64 p.1)],[⟨303,23,261,1,p.2.2.1.map a0k⟩],p.2.2.2⟩) (fun p=>x.length - p.1)
  (fun p=>p.1<=x.length/\p.2.1<=1/\p.2.2.1.length=x.length+1/\Wd p.2.2.1/\a0m (p.2.2.1.take p.1)+BB^p.1*p.2.1=a0m (x.take p.1)+a0m (y.take p.1)) (0,0,List.replicate (x.length+1) 0,_)
  ⟨d9U _,d9U _,by simp,a5v _,by simp [a0m]⟩ (by rw [<- r3];exact wkI) ?_
 rintro ⟨i,c,o,m⟩ F ⟨h1,h2,h3,h4,h5⟩;dsimp only at h1 h2 h3 h4 h5 ⊢;refine sR 600 ?_;refine OkS.seq ?_;refine ifI ?_
 (refine brI (fun h23=>?_) (fun h23=>?_))<;>(try simp only [d9w,d9x] at h23)<;>(try simp only [h23])
 ·have hi:i<x.length:=by simpa using h23
  obtain ⟨a,hxa⟩:∃ a,x[i]? = some a:=⟨x[i],d9t hi⟩
  have ha:=a1o hxa;obtain ⟨v,hvl,hvv⟩:∃ v,v<BB/\(i<y.length/\y[i]? = some v\/y.length<=i/\v=0):=by
   by_cases h:i<y.length
   ·exact ⟨y[i],hy _ (List.getElem_mem h),.inl ⟨h,d9t h⟩⟩
   ·exact ⟨0,by decide,.inr ⟨by omega,rfl⟩⟩
  have hal:a<BB:=hx a (d9r hxa);have hyv:a0m (y.take (i+1))=a0m (y.take i)+BB^i*v:=by
   rcases hvv with ⟨h,hh⟩|⟨h,rfl⟩
   ·rw [a0U hh,a1t (i:=i) (by rw [d9J];omega)]
   ·rw [d9G (by omega),d9G h];simp
  have hoi:i<o.length:=by omega
  obtain ⟨oi,hoa⟩:∃ a,o[i]? = some a:=⟨o[i],d9t hoi⟩
  have hob:=a1o hoa;have hadd:=b5d (a:=a) (b:=v) h2;have wi:IntKind.i64.wrap ((i:Int)+1)=((i+1:Nat):Int):=wI (by omega) (by omega);refine skI ?_;refine OkS.seq ?_;refine OkS.block ?_;refine sR 700 ?_;refine sR 800 ?_;refine d8V ⟨[(0,.sl false 1 (x.map a0k)),(1,.sl false 1 (y.map a0k)),(4,a1w),(5,.osl 303 23 1 0 (x.length+1)),(6,a0k c),(7,i64 i),(8,a0k v),(21,i64 x.length),(22,i64 i)],[⟨303,23,261,1,o.map a0k⟩],m+30⟩ ?_ ?_
  ·refine sZ 900 ?_
   refine nwI ey ?_;refine ifI ?_;rcases hvv with ⟨h,hh⟩|⟨h,rfl⟩
   ·have hy':=a1o hh
    have e1:decide ((i:Int)<(y.length:Int))=true:=d9q (by omega);rw [e1];refine rI 1000 ?_;refine gwI kN ?_;refine ixI kT hy' ?_;refine stI ?_;exact And.intro (by trivial) (wkI)
   ·have e1:decide ((i:Int)<(y.length:Int))=false:=d9p (by omega)
    rw [e1];refine skI ?_;exact And.intro (by trivial) (wkI)
  refine rI 1100 ?_;refine gwI kN ?_;refine ixI kT ha ?_;refine gwI kN ?_
  first|(refine a0v rfl rfl ?_;refine b1Z rfl rfl (hadd) ?_)|(refine a0B rfl rfl ?_;refine a9L rfl rfl (hadd) ?_)
  refine gwI (ff3 kN d9S hob) ?_;have hs:(a+v+c)%BB<BB:=e0k _ (by decide);have hc':(a+v+c) / BB<=1:=by
   have:a+v+c<2*BB:=by omega
   exact e2y (e0E (by rw [d9O];exact this))
  rw [map_set];refine d8I w1 1200 (by kernel_rfl) ?_;refine nwI wi ?_;refine ⟨(i+1,(a+v+c) / BB,o.set i ((a+v+c)%BB),_),⟨hi,hc',by dsimp only;rw [e0i];exact h3,h4.set hs,?_⟩,by dsimp only;omega,wkI⟩;dsimp only;rw [a8i hoi,a1t (i:=i) (by rw [d9J];omega),a0U hxa,a1t (i:=i) (by rw [d9J];omega),hyv];have hm:=e0V (a+v+c) BB;rw [e0h,d9Y,e1d,<- d9M,hm,d9M,d9M];omega
 ·have hi:i=x.length:=by
   have:¬ i<x.length:=by simpa using h23
   omega
  subst hi;obtain ⟨oi,hoa⟩:∃ a,o[x.length]? = some a:=⟨o[x.length],d9t (by omega)⟩
  have hob:=a1o hoa;refine exI ?_;refine sZ 1300 ?_;refine gwI (ff4 ex kN d9S hob) ?_;rw [map_set];have ho:o.set x.length c=o.take x.length++[c]:=by
   have:=a8i (l:=o) (i:=x.length) (a:=c) (by omega)
   rwa [d9G (by rw [e0i];omega)] at this
  have hov:a0m (o.set x.length c)=a0m x+a0m y:=by
   rw [ho,a1t (i:=x.length) (by rw [d9J];omega),h5,d9G (d9y _),d9G hle]
  have how:Wd (o.set x.length c):=h4.set (e0f h2 (by decide));have hol:(o.set x.length c).length=x.length+1:=by rw [e0i];exact h3
  generalize o.set x.length c=z at *;refine OkS.weak ⟨[(5,.sl false 1 (z.map a0k))],[],_⟩ (c1G hol) ?_;refine sR 1400 ?_;refine a0j.same _ (trim_ok z how (by omega)) d9k ?_;refine stI ?_;refine rtI ?_;exact a0a (by rw [hov]) IsPure.out
theorem b1R {a b c:Nat}(hc:c<=1):b7R 233 [a0k a,a0k b,a0k c]=some (.tup [a0k ((a+BB - b - c)%BB),a0k (if a<b+c then 1 else 0)]):=by
 show (match Nat.ble c 1 with
  | true=>some (D.tup [.prim (.int .u64 (((a+18446744073709551616 - b - c)%18446744073709551616:Nat):Int)),.prim (.int .u64 ((if a<b+c then 1 else 0:Nat):Int))])
  | false=>none)=_
 have h1:Nat.ble c 1=true:=by rw [Nat.ble_eq];exact hc
 rw [h1]
theorem a9D {a v c:Nat}(ha:a<BB)(hv:v<BB)(hc:c<=1):(a+BB - v - c)%BB+v+c=a+BB*(if a<v+c then 1 else 0):=by
 by_cases h:a<v+c
 ·rw [d9l h,e0u (by omega)];omega
 ·rw [d9m h]
  have:a+BB - v - c=(a - v - c)+BB:=by omega
  rw [this,Nat.add_mod_right,e0u (by omega)];omega
theorem c8d (x y:List Nat)(hx:Wd x)(hy:Wd y)(hlx:x.length<4000000)(hle:y.length<=x.length)(hv:a0m y<=a0m x):a0b C0 198 [wL x,wL y] (wD (a0m x - a0m y)):=by
 refine a0c.walk w1 c4I rfl fun F=>?_
 unfold wL;have ex:(((x.map a0k).length:Nat):Int)=(x.length:Int):=by rw [d9s]
 have ey:(((y.map a0k).length:Nat):Int)=(y.length:Int):=by rw [d9s]
 have r3:List.replicate x.length (ofV (.int .u64 0))=(List.replicate x.length 0).map a0k:=by rw [e1J];rfl
 refine sR 0 ?_;refine sZ 100 ?_;refine nwI (ff2 ex kN) ?_;refine sR 200 ?_;refine OkS.seq ?_;refine sZ 300 ?_;refine nwI ex ?_;refine OkS.block ?_;refine OkS.loop (α:=Nat × Nat × List Nat × Nat) (fun p=>⟨[(0,.sl false 1 (x.map a0k)),(1,.sl false 1 (y.map a0k)),(4,a1w),(5,.osl 102 3 1 0 x.length),(6,a0k p.2.1),(13,i64 x.length),(14,i64 p.1)],[⟨102,3,261,1,p.2.2.1.map a0k⟩],p.2.2.2⟩) (fun p=>x.length - p.1)
  (fun p=>p.1<=x.length/\p.2.1<=1/\p.2.2.1.length=x.length/\Wd p.2.2.1/\a0m (p.2.2.1.take p.1)+a0m (y.take p.1)=a0m (x.take p.1)+BB^p.1*p.2.1) (0,0,List.replicate x.length 0,_)
  ⟨d9U _,d9U _,by simp,a5v _,by simp [a0m]⟩ (by rw [<- r3];exact wkI) ?_
 rintro ⟨i,c,o,m⟩ F ⟨h1,h2,h3,h4,h5⟩;dsimp only at h1 h2 h3 h4 h5 ⊢;refine sR 400 ?_;refine OkS.seq ?_;refine ifI ?_
 (refine brI (fun h23=>?_) (fun h23=>?_))<;>(try simp only [d9w,d9x] at h23)<;>(try simp only [h23])
 ·have hi:i<x.length:=by simpa using h23
  obtain ⟨a,hxa⟩:∃ a,x[i]? = some a:=⟨x[i],d9t hi⟩
  have ha:=a1o hxa;obtain ⟨v,hvl,hvv⟩:∃ v,v<BB/\(i<y.length/\y[i]? = some v\/y.length<=i/\v=0):=by
   by_cases h:i<y.length
   ·exact ⟨y[i],hy _ (List.getElem_mem h),.inl ⟨h,d9t h⟩⟩
   ·exact ⟨0,by decide,.inr ⟨by omega,rfl⟩⟩
  have hal:a<BB:=hx a (d9r hxa);have hyv:a0m (y.take (i+1))=a0m (y.take i)+BB^i*v:=by
   rcases hvv with ⟨h,hh⟩|⟨h,rfl⟩
   ·rw [a0U hh,a1t (i:=i) (by rw [d9J];omega)]
   ·rw [d9G (by omega),d9G h];simp
  have hoi:i<o.length:=by omega
  obtain ⟨oi,hoa⟩:∃ a,o[i]? = some a:=⟨o[i],d9t hoi⟩
  have hob:=a1o hoa;have hsub:=b1R (a:=a) (b:=v) h2;have hdig:=a9D hal hvl h2;have hc':(if a<v+c then 1 else 0)<=1:=by split<;>decide
  have hs:(a+BB - v - c)%BB<BB:=e0k _ (by decide);generalize (if a<v+c then 1 else 0)=c' at *;generalize (a+BB - v - c)%BB=d at *;have wi:IntKind.i64.wrap ((i:Int)+1)=((i+1:Nat):Int):=wI (by omega) (by omega);refine skI ?_;refine OkS.seq ?_;refine OkS.block ?_;refine sR 500 ?_;refine sR 600 ?_;refine d8V ⟨[(0,.sl false 1 (x.map a0k)),(1,.sl false 1 (y.map a0k)),(4,a1w),(5,.osl 102 3 1 0 x.length),(6,a0k c),(7,i64 i),(8,a0k v),(13,i64 x.length),(14,i64 i)],[⟨102,3,261,1,o.map a0k⟩],m+30⟩ ?_ ?_
  ·refine sZ 700 ?_
   refine nwI ey ?_;refine ifI ?_;rcases hvv with ⟨h,hh⟩|⟨h,rfl⟩
   ·have hy':=a1o hh
    have e1:decide ((i:Int)<(y.length:Int))=true:=d9q (by omega);rw [e1];refine rI 800 ?_;refine gwI kN ?_;refine ixI kT hy' ?_;refine stI ?_;exact And.intro (by trivial) (wkI)
   ·have e1:decide ((i:Int)<(y.length:Int))=false:=d9p (by omega)
    rw [e1];refine skI ?_;exact And.intro (by trivial) (wkI)
  refine rI 900 ?_;refine gwI kN ?_;refine ixI kT ha ?_;refine gwI kN ?_
  first|(refine a0v rfl rfl ?_;refine b1Z rfl rfl (hsub) ?_)|(refine a0B rfl rfl ?_;refine a9L rfl rfl (hsub) ?_)
  refine gwI (ff3 kN d9S hob) ?_;rw [map_set];refine d8I w1 1000 (by kernel_rfl) ?_;refine nwI wi ?_;refine ⟨(i+1,c',o.set i d,_),⟨hi,hc',by dsimp only;rw [e0i];exact h3,h4.set hs,?_⟩,by dsimp only;omega,wkI⟩;dsimp only;rw [a8i hoi,a1t (i:=i) (by rw [d9J];omega),a0U hxa,a1t (i:=i) (by rw [d9J];omega),hyv];have h6:BB^i*d+BB^i*v+BB^i*c=BB^i*a+BB^(i+1)*c':=by
   rw [e0h,d9Y,<- d9M,<- d9M,<- d9M,hdig]
  omega
 ·have hi:i=x.length:=by
   have:¬ i<x.length:=by simpa using h23
   omega
  subst hi;rw [d9G (Nat.le_of_eq h3),d9G (d9y _),d9G hle] at h5;have hlt:=a3z h4;rw [h3] at hlt;have hc0:c=0:=by
   rcases e0m c with h|h
   ·exact h
   ·have:c=1:=by omega
    subst this;rw [e1z] at h5;omega
  subst hc0;have hov:a0m o=a0m x - a0m y:=by
   rw [e1g] at h5;omega
  refine exI ?_;refine OkS.weak ⟨[(5,.sl false 1 (o.map a0k))],[],_⟩ (c1G h3) ?_;refine sR 1100 ?_;refine a0j.same _ (trim_ok o h4 (by omega)) d9k ?_;refine stI ?_;refine rtI ?_;exact a0a (by rw [hov]) IsPure.out
theorem a3j:∀ {l:List Nat} {k o d:Nat},l[k]? = some o->a0m (l.set k d)+BB^k*o=a0m l+BB^k*d
 | a::l,0,o,d,h=>by
  simp only [e2B,d9z] at h;subst h;simp only [List.set_cons_zero,a0m,e2V,e2E];omega
 | a::l,k+1,o,d,h=>by
  simp only [e1l] at h;have ih:=a3j (d:=d) h;simp only [List.set_cons_succ,a0m];have h1:BB^(k+1)*o=BB*(BB^k*o):=by rw [e0h,d9O (BB^k) BB,d9Y]
  have h2:BB^(k+1)*d=BB*(BB^k*d):=by rw [e0h,d9O (BB^k) BB,d9Y]
  have h3:BB*a0m (l.set k d)+BB*(BB^k*o)=BB*a0m l+BB*(BB^k*d):=by rw [<- d9M,<- d9M,ih]
  omega
theorem c0b {x y o c:Nat}(hx:x<BB)(hy:y<BB)(ho:o<BB)(hc:c<BB) :
  ∃ hi lo c1 lo1 hi1 c2 lo2 c',hi=x*y / BB/\lo=x*y%BB/\lo1=(lo+o+0)%BB/\c1=(lo+o+0) / BB/\hi1=hi+c1/\hi1<BB/\lo2=(lo1+c+0)%BB/\c2=(lo1+c+0) / BB/\c'=hi1+c2/\c'<BB/\lo2<BB /\
   lo2+BB*c'=x*y+o+c:=by
 refine ⟨_,_,_,_,_,_,_,_,rfl,rfl,rfl,rfl,rfl,?_,rfl,rfl,rfl,?_,e0k _ (by decide),?_⟩
 all_goals
  unfold BB at *;have e1:=e0V (x*y) 18446744073709551616;have e2:=e0V (x*y%18446744073709551616+o+0) 18446744073709551616;have e3:=e0V ((x*y%18446744073709551616+o+0)%18446744073709551616+c+0) 18446744073709551616;have hxy:x*y<=(18446744073709551616 - 1)*(18446744073709551616 - 1):=e1p (by omega) (by omega);have hk:(18446744073709551616 - 1)*(18446744073709551616 - 1)=340282366920938463426481119284349108225:=by decide
  rw [hk] at hxy;have l1:=e0k (x*y) (show 18446744073709551616>0 by decide);have l2:=e0k (x*y%18446744073709551616+o+0) (show 18446744073709551616>0 by decide);have l3:=e0k ((x*y%18446744073709551616+o+0)%18446744073709551616+c+0) (show 18446744073709551616>0 by decide);generalize x*y=p at *;generalize hA:p / 18446744073709551616=A at *;generalize hB:p%18446744073709551616=B at *;generalize hC:(B+o+0) / 18446744073709551616=C at *;generalize hD:(B+o+0)%18446744073709551616=D at *;generalize hE:(D+c+0) / 18446744073709551616=E at *;generalize hF:(D+c+0)%18446744073709551616=F at *;omega
theorem wU' {n:Nat}(h:n<BB):IntKind.u64.wrap (n:Int)=(n:Int):=wU (by omega) (by unfold BB at h;omega)
theorem c7q (a b:List Nat)(ha:Wd a)(hb:Wd b)(hla:a.length<1000000)(hlb:b.length<1000000):a0b C0 202 [wL a,wL b] (wD (a0m a*a0m b)):=by
 refine a0c.walk w1 c4K rfl fun F=>?_
 unfold wL;have ea:(((a.map a0k).length:Nat):Int)=(a.length:Int):=by rw [d9s]
 have eb:(((b.map a0k).length:Nat):Int)=(b.length:Int):=by rw [d9s]
 have wl:IntKind.i64.wrap ((a.length:Int)+(b.length:Int))=((a.length+b.length:Nat):Int):=by rw [wI (by omega) (by omega)];omega
 have r3:List.replicate (a.length+b.length) (ofV (.int .u64 0))=(List.replicate (a.length+b.length) 0).map a0k:=by rw [e1J];rfl
 refine sR 0 ?_;refine sZ 100 ?_;refine nwI (ff4 ea eb wl kN) ?_;refine OkS.seq ?_;refine sZ 200 ?_;refine nwI ea ?_;refine OkS.block ?_;refine OkS.loop (α:=Nat × List Nat × Nat) (fun p=>⟨[(0,.sl false 1 (a.map a0k)),(1,.sl false 1 (b.map a0k)),(4,a1w),(5,.osl 105 6 1 0 (a.length+b.length)),(20,.sl false 1 (a.map a0k)),(21,i64 a.length),(22,i64 p.1)],[⟨105,6,261,1,p.2.1.map a0k⟩],p.2.2⟩) (fun p=>a.length - p.1)
  (fun p=>p.1<=a.length/\p.2.1.length=a.length+b.length/\Wd p.2.1/\a0m p.2.1=a0m (a.take p.1)*a0m b/\∀ k,p.1+b.length<=k->∀ d,p.2.1[k]? = some d->d=0) (0,List.replicate (a.length+b.length) 0,_)
  ⟨d9U _,by simp,a5v _,by simp [a0m,a5u],fun k _ d hd=>e2c (d9r hd)⟩ (by rw [<- r3];exact wkI) ?_
 rintro ⟨i,o,m⟩ F ⟨h1,h2,h3,h4,h5⟩;dsimp only at h1 h2 h3 h4 h5 ⊢;refine sR 300 ?_;refine OkS.seq ?_;refine ifI ?_
 (refine brI (fun h23=>?_) (fun h23=>?_))<;>(try simp only [d9w,d9x] at h23)<;>(try simp only [h23])
 ·have hi:i<a.length:=by simpa using h23
  obtain ⟨x,hx⟩:∃ x,a[i]? = some x:=⟨a[i],d9t hi⟩
  have hx':=a1o hx;have hxl:x<BB:=ha x (d9r hx);have wi:IntKind.i64.wrap ((i:Int)+1)=((i+1:Nat):Int):=wI (by omega) (by omega);have hax:a0m (a.take (i+1))=a0m (a.take i)+BB^i*x:=by rw [a0U hx,a1t (i:=i) (by rw [d9J];omega)]
  refine skI ?_;refine OkS.seq ?_;refine OkS.block ?_;refine sR 400 ?_;refine ixI kT hx' ?_;refine stI ?_;refine sR 500 ?_;refine OkS.seq ?_;refine sZ 600 ?_;refine nwI eb ?_;refine OkS.block ?_;refine OkS.loop (α:=Nat × Nat × List Nat × Nat) (fun p=>⟨[(0,.sl false 1 (a.map a0k)),(1,.sl false 1 (b.map a0k)),(4,a1w),(5,.osl 105 6 1 0 (a.length+b.length)),(6,i64 i),(7,a0k x),(8,a0k p.2.1),(20,.sl false 1 (a.map a0k)),(21,i64 a.length),(22,i64 i),(27,.sl false 1 (b.map a0k)),(28,i64 b.length),(29,i64 p.1)],[⟨105,6,261,1,p.2.2.1.map a0k⟩],p.2.2.2⟩) (fun p=>b.length - p.1)
   (fun p=>p.1<=b.length/\p.2.1<BB/\p.2.2.1.length=a.length+b.length/\Wd p.2.2.1/\a0m p.2.2.1+BB^(i+p.1)*p.2.1=a0m (a.take i)*a0m b+BB^i*x*a0m (b.take p.1)/\∀ k,i+b.length<=k->∀ d,p.2.2.1[k]? = some d->d=0) (0,0,o,_)
   ⟨d9U _,show 0<BB by decide,h2,h3,by simp [a0m,h4],h5⟩ wkI ?_
  rintro ⟨j,c,q,m2⟩ F ⟨g1,g2,g3,g4,g5,g6⟩;dsimp only at g1 g2 g3 g4 g5 g6 ⊢;clear h2 h3 h4 h5 r3 wl;refine sR 700 ?_;refine OkS.seq ?_;refine ifI ?_
  (refine brI (fun h30=>?_) (fun h30=>?_))<;>(try simp only [d9w,d9x] at h30)<;>(try simp only [h30])
  ·have hj:j<b.length:=by simpa using h30
   obtain ⟨y,hy⟩:∃ y,b[j]? = some y:=⟨b[j],d9t hj⟩
   have hy':=a1o hy;have hyl:y<BB:=hb y (d9r hy);obtain ⟨z,hz⟩:∃ z,q[i+j]? = some z:=⟨q[i+j],d9t (by omega)⟩
   have hz':=a1o hz;have hzl:z<BB:=g4 z (d9r hz);have wj:IntKind.i64.wrap ((j:Int)+1)=((j+1:Nat):Int):=wI (by omega) (by omega);have wij:IntKind.i64.wrap ((i:Int)+(j:Int))=((i+j:Nat):Int):=by rw [wI (by omega) (by omega)];omega
   have hbx:a0m (b.take (j+1))=a0m (b.take j)+BB^j*y:=by rw [a0U hy,a1t (i:=j) (by rw [d9J];omega)]
   have cm:=a5p x y hxl hyl;obtain ⟨hi',lo,c1,lo1,hi1,c2,lo2,c',e1,e2,e3,e4,e5,e6,e7,e8,e9,e10,e11,e12⟩:=c0b hxl hyl hzl g2;rw [show x*y / 18446744073709551616=hi' from e1.symm,show x*y%18446744073709551616=lo from e2.symm] at cm;have e3':(lo+z+0)%18446744073709551616=lo1:=e3.symm;have e4':(lo+z+0) / 18446744073709551616=c1:=e4.symm;have e7':(lo1+c+0)%18446744073709551616=lo2:=e7.symm;have e8':(lo1+c+0) / 18446744073709551616=c2:=e8.symm;have w6:IntKind.u64.wrap ((hi':Int)+(c1:Int))=(hi1:Int):=by rw [<- Int.natCast_add,<- e5];exact wU' e6
   have w7:IntKind.u64.wrap ((hi1:Int)+(c2:Int))=(c':Int):=by rw [<- Int.natCast_add,<- e9];exact wU' e10
   refine skI ?_;refine OkS.seq ?_;refine OkS.block ?_;refine sR 800 ?_;refine ixI kT hy' ?_;refine stI ?_;refine sR 900 ?_;refine a0j.same _ cm d9k ?_;refine stI ?_;refine sR 1000 ?_;refine sZ 1100 ?_;refine gwI (ff6 wij kN d9S hz' e3' e4') ?_;refine sZ 1200 ?_;refine nwI w6 ?_;refine sZ 1300 ?_;refine nwI (ff2 e7' e8') ?_;refine d8I w1 1400 (by kernel_rfl) ?_;refine gwI (ff5 wij w7 kN d9S hz') ?_;rw [show (D.prim (Value.int IntKind.u64 (lo2:Int)))=a0k lo2 from rfl,map_set];refine d8I w1 1500 (by kernel_rfl) ?_;refine nwI wj ?_;refine ⟨(j+1,c',q.set (i+j) lo2,_),⟨hj,e10,by dsimp only;rw [e0i];exact g3,g4.set e11,?_,fun k hk d hd=>?_⟩,by dsimp only;omega,wkI⟩
   ·dsimp only
    have hs:=a3j (d:=lo2) hz;rw [hbx,d9M,<- e1d (a0m (a.take i)*a0m b),<- g5];have h6:BB^(i+j)*lo2+BB^(i+(j+1))*c'=BB^i*x*(BB^j*y)+BB^(i+j)*z+BB^(i+j)*c:=by
     have:BB^i*x*(BB^j*y)=BB^(i+j)*(x*y):=by
      rw [e1Q,d9Y,d9Y,e1B x]
     rw [this,<- e1d i j 1,e0h,d9Y,<- d9M,<- d9M,<- d9M,e12]
    omega
   ·dsimp only at hk hd
    rw [e0N (by omega)] at hd;exact g6 k hk d hd
  ·have hj:j=b.length:=by
    have:¬ j<b.length:=by simpa using h30
    omega
   subst hj;obtain ⟨z,hz⟩:∃ z,q[i+b.length]? = some z:=⟨q[i+b.length],d9t (by omega)⟩
   have hz0:z=0:=g6 _ (d9y _) _ hz;subst hz0;have hz':=a1o hz;have wij:IntKind.i64.wrap ((i:Int)+(b.length:Int))=((i+b.length:Nat):Int):=by rw [wI (by omega) (by omega)];omega
   have wij0:IntKind.i64.wrap ((i:Int)+(((b.map a0k).length:Nat):Int))=((i+b.length:Nat):Int):=by rw [eb];exact wij
   refine exI ?_;refine d8I w1 1600 (by kernel_rfl) ?_;refine gwI (ff5 eb wij kN d9S hz') ?_;rw [map_set];refine d8I w1 1700 (by kernel_rfl) ?_;refine nwI wi ?_;refine ⟨(i+1,q.set (i+b.length) c,_),⟨hi,by dsimp only;rw [e0i];exact g3,g4.set g2,?_,fun k hk d hd=>?_⟩,by dsimp only;omega,wkI⟩
   ·dsimp only
    have hs:=a3j (d:=c) hz;rw [d9G (d9y _)] at g5;rw [hax,e0e];omega
   ·dsimp only at hk hd
    rw [e0N (by omega)] at hd;exact g6 k (by omega) d hd
 ·have hi:i=a.length:=by
   have:¬ i<a.length:=by simpa using h23
   omega
  subst hi;rw [d9G (d9y _)] at h4;refine exI ?_;refine OkS.weak ⟨[(5,.sl false 1 (o.map a0k))],[],_⟩ (c1G h2) ?_;refine sR 1800 ?_;refine a0j.same _ (trim_ok o h3 (by omega)) d9k ?_;refine stI ?_;refine rtI ?_;exact a0a (by rw [h4]) IsPure.out
structure GI where
 z:Int
 sm:Bool
def GI.wf (x:GI):Prop:=(x.sm=true→-9223372036854775808<=x.z/\x.z<9223372036854775808)/\(x.sm=false->¬ Sm x.z)
def GI.s (x:GI):Int:=match x.sm with
 | true=>x.z
 | false=>if x.z<0 then -1 else 1
def GI.w (x:GI):D:=match x.sm with
 | true=>a1w
 | false=>wD x.z.natAbs
abbrev GI.D (x:GI):D:=.agg [i64 x.s,x.w]
theorem d3a (x:GI):a2n x.w:=by
 unfold GI.w;split
 ·exact .prim _
 ·exact a4X _
instance  (x:GI):IsPure x.w:=⟨d3a x⟩
instance  (z:Int):Decidable (Sm z):=inferInstanceAs (Decidable (_/\_))
def mkG (z:Int):GI:=⟨z,decide (Sm z)⟩
theorem a1d (z:Int):(mkG z).wf:=by
 refine ⟨fun h=>?_,fun h=>?_⟩
 ·have h:Sm z:=d9N h
  exact ⟨Int.le_of_lt h.1,h.2⟩
 ·exact d9I h
theorem a7B {z:Int}(h:Sm z):mkG z=⟨z,true⟩:=by unfold mkG;rw [d9q h]
theorem b9Z {z:Int}(h:¬ Sm z):mkG z=⟨z,false⟩:=by unfold mkG;rw [d9p h]
theorem a4b {n:Nat}(h0:n≠0)(h:n<BB):a0h n=[n]:=by
 rw [a1E h0,e0u h,e1A h,a0W]
theorem a2l {n:Nat}(h:n≠0):(a0h n).map a0k≠[]:=by rw [a1E h];simp
theorem c5Q (x:GI)(h:x.wf):(x.s<0)=(x.z<0):=by
 obtain ⟨z,sm⟩:=x;cases sm with
 | true=>rfl
 | false =>
  unfold GI.s;dsimp only;split<;>simp<;>omega
theorem d5g {H Hf:Hp}(n:Nat)(h0:n≠0)(h:n<BB):Fz H Hf (.sl true 1 [a0k n]) (wD n):=by
 unfold wD wL;rw [a4b h0 h];exact .nn true 1 _
theorem c6b {H Hf:Hp}{a b c d:D}(h:Fz H Hf a c)(k:Fz H Hf b d):Fz H Hf (.tup [a,b]) (.tup [c,d]):=.tup rfl fun i x y hx hy=>by
 match i with
 | 0=>simp at hx hy;subst hx;subst hy;exact h
 | 1=>simp at hx hy;subst hx;subst hy;exact k
 | i+2=>simp at hx
instance  (a b:Nat):IsPure (.tup [wD a,wD b]):=d9k
theorem c3v:a0b C0 201 [i64 (-9223372036854775808)] (a0k 9223372036854775808):=d9b a4C 1000 40 (by kernel_rfl)
theorem b3A {z:Int}(h1 : -9223372036854775808<=z)(h2:z<9223372036854775808):a0b C0 201 [i64 z] (a0k z.natAbs):=by
 by_cases h:z = -9223372036854775808
 ·subst h;exact c3v
 ·exact b4Q z ⟨by omega,h2⟩
theorem a3L (x:GI)(h:x.wf):a0b C0 180 [x.D] (.tup [boo (decide (x.z<0)),wD x.z.natAbs]):=by
 refine a0c.walk w1 c4A rfl fun F=>?_
 obtain ⟨z,sm⟩:=x;obtain ⟨h1,h2⟩:=h;unfold GI.D GI.s GI.w;cases sm with
 | true =>
  obtain ⟨h3,h4⟩:=h1 rfl;dsimp only at h3 h4 ⊢;have cs:=b3A h3 h4;refine sR 0 ?_;refine OkS.seq ?_;refine OkS.block ?_;refine sR 100 ?_;refine ifI ?_;refine sR 300 ?_;refine ifI ?_
  (refine brI (fun h13=>?_) (fun h13=>?_))<;>(try simp only [d9w,d9x] at h13)<;>(try simp only [h13])
  ·have hz:z=0:=by simpa using h13
   subst hz;refine sR 400 ?_;refine rtI ?_;refine ⟨_,c6b (.refl _) (c:=boo (decide ((0:Int)<0))) (d:=wD (Int.natAbs 0)) ?_,IsPure.out,rfl⟩;show Fz _ _ a1w (wD 0);unfold wD wL;rw [a0W];exact .nil 1
  ·have hz:z≠0:=by simpa using h13
   refine skI ?_;refine OkS.seq ?_;refine d8K w1 500 [0,1,2,3,4,5,6,7] [8] (by kernel_rfl) ?_;refine gwI kN ?_;refine a0q.same _ cs d9k ?_;refine stI ?_;refine rtI ?_;refine ⟨_,c6b (.refl _) (c:=boo (decide (z<0))) (d5g z.natAbs (by omega) (by unfold BB;omega)),IsPure.out,rfl⟩
 | false =>
  have hb:=h2 rfl;have hs:=c5Q ⟨z,false⟩ ⟨h1,h2⟩;unfold GI.s at hs;dsimp only at hb hs ⊢;have hne:=a2l (n:=z.natAbs) (by intro h0;apply hb;exact ⟨by omega,by omega⟩);have hp:a2n (.sl false 1 ((a0h z.natAbs).map a0k)):=a4X _;unfold wD wL;generalize (a0h z.natAbs).map a0k=l at *;generalize (if z<0 then (-1:Int) else 1)=sg at *;refine sR 0 ?_;refine OkS.seq ?_;refine OkS.block ?_;refine sZ 100 ?_;refine nwI (ff3 (@ne_eq (List D)) hne e0A) ?_;refine ifI ?_;refine OkS.seq ?_;refine d8K w1 200 [0,1,2,3,4,5] [6] (by kernel_rfl) ?_;refine stI ?_;refine rtI ?_;refine a0a ?_ (.tup fun d hd=>?_)
  ·simp only [hs]
  ·simp only [d9F,e0j,or_false] at hd
   rcases hd with rfl|rfl
   ·exact .prim _
   ·exact hp
def a7S (neg:Bool)(n:Nat):Int:=match neg with
 | true=>-(n:Int)
 | false=>n
theorem a5T (neg:Bool)(n:Nat)(hlen:(a0h n).length<4000000):a0b C0 195 [boo neg,wD n] (mkG (a7S neg n)).D:=by
 refine a0c.walk w1 c4F rfl fun F=>?_
 by_cases h0:n=0
 ·subst h0
  have e:mkG (a7S neg 0)=⟨0,true⟩:=by cases neg<;>exact a7B ⟨by decide,by decide⟩
  rw [e];unfold wD wL GI.D GI.s GI.w;rw [a0W];dsimp only [List.map];refine sR 0 ?_;refine OkS.seq ?_;refine OkS.block ?_;refine sR 100 ?_;refine ifI ?_;refine sR 200 ?_;refine rtI ?_;exact a0a rfl IsPure.out
 ·by_cases h1:n<BB
  ·have hl:=a4b h0 h1
   have b1:(((1:Nat):Int)==0)=false:=rfl;have b2:(((1:Nat):Int)==1)=true:=rfl;have hx:[a0k n][(0:Int).toNat]? = some (a0k n):=rfl
   by_cases h2:n<=9223372036854775807
   ·have b3:decide ((n:Int)<=9223372036854775807)=true:=d9q (by omega)
    have hsm:Sm (a7S neg n):=by unfold a7S;split<;>exact ⟨by omega,by omega⟩
    rw [a7B hsm];unfold wD wL GI.D GI.s GI.w;rw [hl];dsimp only [List.map];have w1':IntKind.i64.wrap (n:Int)=(n:Int):=wN h2;have w2':IntKind.i64.wrap (0 - (n:Int)) = -(n:Int):=by rw [wI (by omega) (by omega)];omega
    cases neg with
    | true =>
     unfold a7S;dsimp only;refine sR 0 ?_;refine OkS.seq ?_;refine OkS.block ?_;refine sZ 100 ?_;refine nwI b1 ?_;refine ifI ?_;refine sZ 300 ?_;refine gwI (ff2 b2 b3) ?_;refine gwI (ff2 b2 b3) ?_;refine ixI b2 hx ?_;refine gwI (ff2 b2 b3) ?_;refine gwI (ff2 b2 b3) ?_;refine ifI ?_;refine sZ 400 ?_;refine gwI b2 ?_;refine ixI b2 hx ?_;refine gwI (ff2 w1' w2') ?_;refine rtI ?_;exact a0a rfl IsPure.out
    | false =>
     unfold a7S;dsimp only;refine sR 0 ?_;refine OkS.seq ?_;refine OkS.block ?_;refine sZ 100 ?_;refine nwI b1 ?_;refine ifI ?_;refine sZ 300 ?_;refine gwI (ff2 b2 b3) ?_;refine gwI (ff2 b2 b3) ?_;refine ixI b2 hx ?_;refine gwI (ff2 b2 b3) ?_;refine gwI (ff2 b2 b3) ?_;refine ifI ?_;refine sZ 500 ?_;refine gwI (ff2 b2 b3) ?_;refine gwI (ff2 b2 b3) ?_;refine ixI b2 hx ?_;refine gwI (ff2 b2 b3) ?_;refine gwI (ff2 b2 b3) ?_;refine ifI ?_;refine sZ 600 ?_;refine gwI b2 ?_;refine ixI b2 hx ?_;refine gwI (ff2 w1' w2') ?_;refine rtI ?_;exact a0a rfl IsPure.out
   ·have b3:decide ((n:Int)<=9223372036854775807)=false:=d9p (by omega)
    have hsm:¬ Sm (a7S neg n):=by
     intro hs;have h3:=hs.1;have h4:=hs.2
     revert h3 h4
     unfold a7S;split<;>intro h3 h4<;>omega
    rw [b9Z hsm];have ha:(a7S neg n).natAbs=n:=by unfold a7S;split<;>omega
    unfold GI.D GI.s GI.w;dsimp only;rw [ha];unfold wD wL;rw [hl];dsimp only [List.map];cases neg with
    | true =>
     have hs:(if a7S true n<0 then (-1:Int) else 1) = -1:=d9l (by show -(n:Int)<0;omega);rw [hs];refine sR 0 ?_;refine OkS.seq ?_;refine OkS.block ?_;refine sZ 100 ?_;refine nwI b1 ?_;refine ifI ?_;refine sZ 300 ?_;refine gwI (ff2 b2 b3) ?_;refine gwI (ff2 b2 b3) ?_;refine ixI b2 hx ?_;refine gwI (ff2 b2 b3) ?_;refine gwI (ff2 b2 b3) ?_;refine ifI ?_;refine sZ 500 ?_;refine gwI (ff2 b2 b3) ?_;refine gwI (ff2 b2 b3) ?_;refine ixI b2 hx ?_;refine gwI (ff2 b2 b3) ?_;refine gwI (ff2 b2 b3) ?_;refine ifI ?_;refine sR 700 ?_;refine ifI ?_;refine sR 800 ?_;refine rtI ?_;exact a0a rfl IsPure.out
    | false =>
     have hs:(if a7S false n<0 then (-1:Int) else 1)=1:=d9m (by show ¬ (n:Int)<0;omega);rw [hs];refine sR 0 ?_;refine OkS.seq ?_;refine OkS.block ?_;refine sZ 100 ?_;refine nwI b1 ?_;refine ifI ?_;refine sZ 300 ?_;refine gwI (ff2 b2 b3) ?_;refine gwI (ff2 b2 b3) ?_;refine ixI b2 hx ?_;refine gwI (ff2 b2 b3) ?_;refine gwI (ff2 b2 b3) ?_;refine ifI ?_;refine sZ 500 ?_;refine gwI (ff2 b2 b3) ?_;refine gwI (ff2 b2 b3) ?_;refine ixI b2 hx ?_;refine gwI (ff2 b2 b3) ?_;refine gwI (ff2 b2 b3) ?_;refine ifI ?_;refine sR 700 ?_;refine ifI ?_;refine skI ?_;refine sR 900 ?_;refine rtI ?_;exact a0a rfl IsPure.out
  ·have hl2:2<=(a0h n).length:=by
    rw [a1E h0,a1E (n:=n / BB) (by
     intro h
     have:=e0X n BB
     have:=e0k n (show BB>0 by decide)
     rw [h] at *;omega)]
    simp
   have hsm:¬ Sm (a7S neg n):=by
    intro hs;have h3:=hs.1;have h4:=hs.2;have h5:BB<=n:=by omega
    unfold BB at h5
    revert h3 h4
    unfold a7S;split<;>intro h3 h4<;>omega
   rw [b9Z hsm];have ha:(a7S neg n).natAbs=n:=by unfold a7S;split<;>omega
   have hp:IsPure (.sl false 1 ((a0h n).map a0k)):=⟨a4X _⟩
   unfold GI.D GI.s GI.w;dsimp only;rw [ha];unfold wD wL;have hel:((((a0h n).map a0k).length:Nat):Int)=((a0h n).length:Int):=by rw [d9s]
   generalize (a0h n).map a0k=l at *;generalize hL:(a0h n).length=L at *;have b1:((L:Int)==0)=false:=d9D.2 (by omega);have b2:((L:Int)==1)=false:=d9D.2 (by omega);cases neg with
   | true =>
    have hs:(if a7S true n<0 then (-1:Int) else 1) = -1:=d9l (by show -(n:Int)<0;omega);rw [hs];refine sR 0 ?_;refine OkS.seq ?_;refine OkS.block ?_;refine sZ 100 ?_;refine nwI (ff2 hel b1) ?_;refine ifI ?_;refine sZ 300 ?_;refine nwI (ff2 hel b2) ?_;refine gwI (ff2 hel b2) ?_;refine gwI (ff2 hel b2) ?_;refine ifI ?_;refine sZ 500 ?_;refine nwI (ff2 hel b2) ?_;refine gwI (ff2 hel b2) ?_;refine ifI ?_;refine sR 700 ?_;refine ifI ?_;refine sR 800 ?_;refine rtI ?_;exact a0a rfl IsPure.out
   | false =>
    have hs:(if a7S false n<0 then (-1:Int) else 1)=1:=d9m (by show ¬ (n:Int)<0;omega);rw [hs];refine sR 0 ?_;refine OkS.seq ?_;refine OkS.block ?_;refine sZ 100 ?_;refine nwI (ff2 hel b1) ?_;refine ifI ?_;refine sZ 300 ?_;refine nwI (ff2 hel b2) ?_;refine gwI (ff2 hel b2) ?_;refine gwI (ff2 hel b2) ?_;refine ifI ?_;refine sZ 500 ?_;refine nwI (ff2 hel b2) ?_;refine gwI (ff2 hel b2) ?_;refine ifI ?_;refine sR 700 ?_;refine ifI ?_;refine skI ?_;refine sR 900 ?_;refine rtI ?_;exact a0a rfl IsPure.out
theorem b0V (x:GI)(h:x.wf):a0b C0 189 [x.D] (i64 (max (-1) (min 1 x.z))):=by
 refine a0c.walk w1 b9r rfl fun F=>?_
 have e:max (-1) (min 1 x.s)=max (-1) (min 1 x.z):=by
  obtain ⟨z,sm⟩:=x;cases sm with
  | true=>rfl
  | false =>
   have hb:=h.2 rfl;unfold GI.s;dsimp only at hb ⊢;unfold Sm at hb;split<;>omega
 refine fR 0 ?_;refine fR 100 ?_;rw [e];refine rtI ?_;exact a0a rfl IsPure.out
theorem c3u (z:Int):a7S (!decide (z<0)) z.natAbs = -z:=by
 by_cases h:z<0
 ·rw [d9q h];show ((z.natAbs:Nat):Int) = -z;omega
 ·rw [d9p h];show -((z.natAbs:Nat):Int) = -z;omega
def GI.few (x:GI):Prop:=(a0h x.z.natAbs).length<1000000
theorem c0e (x:GI)(h:x.wf)(hf:x.few):a0b C0 143 [x.D] (mkG (-x.z)).D:=by
 by_cases hs:x.sm=true/\x.z ≠ -9223372036854775808
 ·obtain ⟨z,sm⟩:=x
  obtain ⟨rfl,hz⟩:=hs;have h1:=h.1 rfl;dsimp only at h1 hz ⊢;have hsm:Sm z:=⟨by omega,h1.2⟩
  have:=b3j z hsm
  rw [a7B ⟨by have:=hsm.2;omega,by have:=hsm.1;omega⟩];exact this
 ·refine a0c.walk w1 b9n rfl fun F=>?_
  have cp:=a3L x h;have cm:=a5T (!decide (x.z<0)) x.z.natAbs (e1G hf (by decide));rw [c3u] at cm;have hpr:IsPure (mkG (-x.z)).w:=d9k;dsimp only [GI.D] at cp cm ⊢;generalize (mkG (-x.z)).s=rs at *;generalize (mkG (-x.z)).w=rw at *;obtain ⟨z,sm⟩:=x;unfold GI.s GI.w at *;cases sm with
  | true =>
   have hz:z = -9223372036854775808:=d9L fun h0=>hs ⟨rfl,h0⟩
   subst hz;dsimp only at cp cm ⊢;refine fR 0 ?_;refine OkS.seq ?_;refine sZ 100 ?_
   repeat' (first|(refine And.intro (by exact sdI) ?_;refine dsI ?_)|((refine brI (fun hb=>?_) (fun hb=>?_))<;>(try simp only [d9w,d9x] at hb)<;>(try simp only [hb])<;>(refine dsI ?_)))
   refine ifI ?_;refine skI ?_;refine fR 300 ?_;refine dI cp ?_;refine fR 400 ?_;refine dI cm ?_;refine rtI ?_;exact a0a rfl IsPure.out
  | false =>
   have hne:=a2l (n:=z.natAbs) (by
    intro h0
    have:=h.2 rfl
    apply this;exact ⟨by dsimp only;omega,by dsimp only;omega⟩)
   dsimp only at cp cm ⊢;unfold wD wL at *;have hp:IsPure (.sl false 1 ((a0h z.natAbs).map a0k)):=⟨a4X _⟩
   generalize (a0h z.natAbs).map a0k=l at *;generalize (if z<0 then (-1:Int) else 1)=sg at *;generalize decide (z<0)=nb at *;refine fR 0 ?_;refine OkS.seq ?_;refine OkS.seq ?_;refine d8I w1 100 (by kernel_rfl) ?_;refine nwI (ff3 (@ne_eq (List D)) hne e0A) ?_;refine gwI kT ?_;refine gwI kT ?_;refine ifI ?_;refine skI ?_;refine fR 300 ?_;refine dI cp ?_;refine fR 400 ?_;refine dI cm ?_;refine rtI ?_;exact a0a rfl IsPure.out
theorem d6E (a b:Nat)(ha:(a0h a).length<1000000)(hb:(a0h b).length<1000000):a0b C0 196 [wD a,wD b] (wD (a+b)):=by
 have:=c6p (a0h a) (a0h b) (a1K a) (a1K b) (e1G ha (by decide)) (e1G hb (by decide))
 rwa [a0V,a0V] at this
theorem d6t (a b:Nat)(h:b<=a)(ha:(a0h a).length<1000000):a0b C0 198 [wD a,wD b] (wD (a - b)):=by
 have:=c8d (a0h a) (a0h b) (a1K a) (a1K b) (e1G ha (by decide)) (a0G b a h) (by rw [a0V,a0V];exact h)
 rwa [a0V,a0V] at this
theorem d7k (a b:Nat)(ha:(a0h a).length<1000000)(hb:(a0h b).length<1000000):a0b C0 202 [wD a,wD b] (wD (a*b)):=by
 have:=c7q (a0h a) (a0h b) (a1K a) (a1K b) ha hb
 rwa [a0V,a0V] at this
theorem a1b {n k:Nat}(h:n<BB^k):(a0h n).length<=k:=by
 induction k generalizing n with
 | zero =>
  have:n=0:=by simpa using h
  subst this;rw [a0W];exact d9y _
 | succ k ih =>
  by_cases h0:n=0
  ·subst h0;rw [a0W];exact d9U _
  ·rw [a1E h0,d9u]
   exact Nat.succ_le_succ (ih (e0E (by rw [d9O,<- e0h];exact h)))
theorem a3g (n:Nat):n<BB^(a0h n).length:=by
 have:=a3z (a1K n)
 rwa [a0V] at this
theorem b2Z (a b:Nat):(a0h (a+b)).length<=max (a0h a).length (a0h b).length+1:=by
 refine a1b ?_;have h1:=a3g a;have h2:=a3g b;have m1:BB^(a0h a).length<=BB^max (a0h a).length (a0h b).length:=e0w (by decide) (Nat.le_max_left _ _);have m2:BB^(a0h b).length<=BB^max (a0h a).length (a0h b).length:=e0w (by decide) (Nat.le_max_right _ _);rw [e0h];generalize BB^max (a0h a).length (a0h b).length=q at *;unfold BB;omega
theorem b3a (a b:Nat):(a0h (a - b)).length<=(a0h a).length:=a0G _ _ (Nat.sub_le _ _)
def b5e (x y:GI):GI:=if x.sm=true/\y.sm=true/\x.z+y.z = -9223372036854775808 then ⟨x.z+y.z,true⟩ else mkG (x.z+y.z)
theorem b7W (x y:GI):(b5e x y).z=x.z+y.z:=by unfold b5e;split<;>rfl
theorem b3U (x y:GI):(b5e x y).wf:=by
 unfold b5e;split
 ·rename_i h
  refine ⟨fun _=>?_,fun h=>by cases h⟩;dsimp only;rw [h.2.2];decide
 ·exact a1d _
theorem b7Y (x y:GI)(hx:x.sm=true)(hy:y.sm=true)(h1 : -9223372036854775808<=x.z+y.z)(h2:x.z+y.z<9223372036854775808):a0b C0 144 [x.D,y.D] (b5e x y).D:=by
 obtain ⟨a,sa⟩:=x;obtain ⟨b,sb⟩:=y;dsimp only at hx hy h1 h2;subst hx;subst hy;have e:(b5e ⟨a,true⟩ ⟨b,true⟩).D=smI (a+b):=by
  unfold b5e;dsimp only;split
  ·rfl
  ·rename_i h
   have h3:¬ a+b = -9223372036854775808:=fun h0=>h ⟨rfl,rfl,h0⟩
   rw [a7B ⟨by omega,h2⟩];rfl
 rw [e];show a0b C0 _ [smI a,smI b] _;refine a0c.walk w1 b5C rfl fun F=>?_
 refine fR 0 ?_;refine OkS.seq ?_;refine sZ 100 ?_
 repeat' (first|(refine And.intro (by exact sdI) ?_;refine dsI ?_)|((refine brI (fun hb=>?_) (fun hb=>?_))<;>(try simp only [d9w,d9x] at hb)<;>(try simp only [hb])<;>(refine dsI ?_)))
 refine ifI ?_;have e1:IntKind.i64.wrap (a+b)=a+b:=wI (by omega) (by omega);have e2:(decide (a+b>a)==decide (b>0))=true:=by
  rw [e1i,e0C];omega
 refine sZ 200 ?_;refine mwI e1 ?_;refine fR 300 ?_;rw [e2];refine ifI ?_;refine fR 400 ?_;refine rtI ?_;exact a0a rfl IsPure.out
theorem c6n (x y:GI)(hx:x.wf)(hy:y.wf)(fx:x.few)(fy:y.few)(hn:¬ (x.sm=true/\y.sm=true∧-9223372036854775808<=x.z+y.z/\x.z+y.z<9223372036854775808)):a0b C0 144 [x.D,y.D] (mkG (x.z+y.z)).D:=by
 refine a0c.walk w1 b5C rfl fun F=>?_
 have cx:=a3L x hx;have cy:=a3L y hy;have hpr:IsPure (mkG (x.z+y.z)).w:=d9k;have hpx:IsPure x.w:=d9k;have hpy:IsPure y.w:=d9k;have la:=b2Z x.z.natAbs y.z.natAbs;have ls:=b3a x.z.natAbs y.z.natAbs;have ls':=b3a y.z.natAbs x.z.natAbs;unfold GI.few at fx fy;dsimp only [GI.D] at *;refine fR 0 ?_;refine d8V ⟨[(2,.optr 0 0 2 0 0),(3,.optr 1 1 2 0 0),(4,.optr 2 2 2 0 0)],[⟨2,2,114,2,[smI 0]⟩,⟨1,1,114,2,[.agg [i64 y.s,y.w]]⟩,⟨0,0,114,2,[.agg [i64 x.s,x.w]]⟩],60⟩ ?_ ?_
 ·obtain ⟨a,sa⟩:=x
  obtain ⟨b,sb⟩:=y;clear cx cy la ls ls' hpr;have nx:sa=false->(a0h a.natAbs).map a0k≠[]:=fun h=>a2l (by
   intro h0;subst h;exact hx.2 rfl ⟨by dsimp only;omega,by dsimp only;omega⟩)
  have ny:sb=false->(a0h b.natAbs).map a0k≠[]:=fun h=>a2l (by
   intro h0;subst h;exact hy.2 rfl ⟨by dsimp only;omega,by dsimp only;omega⟩)
  unfold GI.s GI.w wD wL at *;dsimp only at *;generalize (a0h a.natAbs).map a0k=ka at *;generalize (a0h b.natAbs).map a0k=kb at *;cases sa with
  | false =>
   have nx:=nx rfl;dsimp only at *;generalize (if a<0 then (-1:Int) else 1)=sg at *;generalize (match sb with|true=>b|false=>if b<0 then (-1:Int) else 1)=sh at *;generalize (match sb with|true=>a1w|false=>D.sl false 1 kb)=wy at *;refine OkS.seq ?_;refine d8I w1 100 (by kernel_rfl) ?_;refine nwI (ff3 (@ne_eq (List D)) nx e0A) ?_;refine gwI kT ?_;refine gwI kT ?_;refine ifI ?_;refine skI ?_;exact And.intro (by trivial) (wkI)
  | true =>
   dsimp only at *;cases sb with
   | false =>
    have ny:=ny rfl;dsimp only at *;generalize (if b<0 then (-1:Int) else 1)=sh at *;refine OkS.seq ?_;refine d8I w1 100 (by kernel_rfl) ?_;refine nwI (ff3 (@ne_eq (List D)) ny e0A) ?_;refine gwI (ff4 kT (@ne_eq (List D)) ny e0A) ?_;refine gwI (ff4 kT (@ne_eq (List D)) ny e0A) ?_;refine ifI ?_;refine skI ?_;exact And.intro (by trivial) (wkI)
   | true =>
    have ra:=hx.1 rfl;have rb:=hy.1 rfl;dsimp only at *;have e2:(decide (IntKind.i64.wrap (a+b)>a)==decide (b>0))=false:=by
     have hov:¬ (-9223372036854775808<=a+b/\a+b<9223372036854775808):=fun h=>hn ⟨rfl,rfl,h.1,h.2⟩
     have ew:IntKind.i64.wrap (a+b)=a+b - 18446744073709551616/\9223372036854775808<=a+b\/IntKind.i64.wrap (a+b)=a+b+18446744073709551616/\a+b < -9223372036854775808:=by
      have e1:(2:Int)^IntKind.i64.bits=18446744073709551616:=rfl;have e2:(2:Int)^(IntKind.i64.bits - 1)=9223372036854775808:=rfl;have e3:IntKind.i64.signed=true:=rfl;unfold IntKind.wrap;simp only [e1,e2,e3,e1b,e0l];split<;>omega
     rw [d9D,ne_eq,e0C];omega
    refine sZ 100 ?_
    repeat' (first|(refine And.intro (by exact sdI) ?_;refine dsI ?_)|((refine brI (fun hb=>?_) (fun hb=>?_))<;>(try simp only [d9w,d9x] at hb)<;>(try simp only [hb])<;>(refine dsI ?_)))
    refine ifI ?_;refine fR 200 ?_;refine fR 300 ?_;rw [e2];refine ifI ?_;refine skI ?_;exact And.intro (by trivial) (wkI)
 ·refine fR 500 ?_
  refine dI cx ?_;refine fR 600 ?_;refine dI cy ?_;refine OkS.seq ?_;refine OkS.block ?_;refine fR 700 ?_
  by_cases hs:(decide (x.z<0))=(decide (y.z<0))
  ·have e1:(decide (x.z<0)==decide (y.z<0))=true:=e1i.2 hs
   rw [e1];have ca:=d6E x.z.natAbs y.z.natAbs fx fy;have cm:=a5T (decide (x.z<0)) (x.z.natAbs+y.z.natAbs) (by omega);have ez:a7S (decide (x.z<0)) (x.z.natAbs+y.z.natAbs)=x.z+y.z:=by
    rw [e0C] at hs
    by_cases h:x.z<0
    ·rw [d9q h];have:=hs.1 h;show -(((x.z.natAbs+y.z.natAbs:Nat)):Int)=_;omega
    ·rw [d9p h];have:¬ y.z<0:=fun h0=>h (hs.2 h0);show (((x.z.natAbs+y.z.natAbs:Nat)):Int)=_;omega
   rw [ez] at cm;dsimp only [GI.D] at cm;refine ifI ?_;refine fR 800 ?_;refine dI ca ?_;refine dI cm ?_;refine rtI ?_;exact a0a rfl IsPure.out
  ·have e1:(decide (x.z<0)==decide (y.z<0))=false:=d9D.2 hs
   rw [e1];have cc:=b1l x.z.natAbs y.z.natAbs (by omega) (by omega);refine ifI ?_;refine fR 900 ?_;refine dI cc ?_
   by_cases hc:y.z.natAbs<=x.z.natAbs
   ·have e2:decide (a6M (x.z.natAbs:Nat) (y.z.natAbs:Nat)>=0)=true:=d9q (by unfold a6M;split<;>(try split)<;>omega)
    rw [e2];have ca:=d6t x.z.natAbs y.z.natAbs hc fx;have cm:=a5T (decide (x.z<0)) (x.z.natAbs - y.z.natAbs) (by omega);have ez:a7S (decide (x.z<0)) (x.z.natAbs - y.z.natAbs)=x.z+y.z:=by
     rw [e0C] at hs
     by_cases h:x.z<0
     ·rw [d9q h];have:¬ y.z<0:=fun h0=>hs ⟨fun _=>h0,fun _=>h⟩;show -(((x.z.natAbs - y.z.natAbs:Nat)):Int)=_;omega
     ·rw [d9p h];have:y.z<0:=d9L fun h0=>hs ⟨fun h1=>d9n h1 h,fun h1=>d9n h1 h0⟩;show (((x.z.natAbs - y.z.natAbs:Nat)):Int)=_;omega
    rw [ez] at cm;dsimp only [GI.D] at cm;refine ifI ?_;refine fR 1000 ?_;refine dI ca ?_;refine dI cm ?_;refine rtI ?_;exact a0a rfl IsPure.out
   ·have e2:decide (a6M (x.z.natAbs:Nat) (y.z.natAbs:Nat)>=0)=false:=d9p (by unfold a6M;split<;>(try split)<;>omega)
    rw [e2];have ca:=d6t y.z.natAbs x.z.natAbs (by omega) fy;have cm:=a5T (decide (y.z<0)) (y.z.natAbs - x.z.natAbs) (by omega);have ez:a7S (decide (y.z<0)) (y.z.natAbs - x.z.natAbs)=x.z+y.z:=by
     rw [e0C] at hs
     by_cases h:y.z<0
     ·rw [d9q h];have:¬ x.z<0:=fun h0=>hs ⟨fun _=>h,fun _=>h0⟩;show -(((y.z.natAbs - x.z.natAbs:Nat)):Int)=_;omega
     ·rw [d9p h];have:x.z<0:=d9L fun h0=>hs ⟨fun h1=>d9n h1 h0,fun h1=>d9n h1 h⟩;show (((y.z.natAbs - x.z.natAbs:Nat)):Int)=_;omega
    rw [ez] at cm;dsimp only [GI.D] at cm;refine ifI ?_;refine skI ?_;refine fR 1100 ?_;refine dI ca ?_;refine dI cm ?_;refine rtI ?_;exact a0a rfl IsPure.out
theorem c6o (x y:GI)(hx:x.wf)(hy:y.wf)(fx:x.few)(fy:y.few):a0b C0 144 [x.D,y.D] (b5e x y).D:=by
 by_cases h:x.sm=true/\y.sm=true∧-9223372036854775808<=x.z+y.z/\x.z+y.z<9223372036854775808
 ·exact b7Y x y h.1 h.2.1 h.2.2.1 h.2.2.2
 ·have:=c6n x y hx hy fx fy h
  have e:b5e x y=mkG (x.z+y.z):=by
   unfold b5e;rw [d9m];rintro ⟨h1,h2,h3⟩;exact h ⟨h1,h2,by omega,by omega⟩
  rw [e];exact this
theorem b9d {z:Int}(h:(a0h z.natAbs).length<1000000):(mkG (-z)).few:=by
 show (a0h (-z).natAbs).length<1000000;rw [e2G];exact h
def c1u (x y:GI):GI:=b5e x (mkG (-y.z))
theorem c5U (x y:GI):(c1u x y).z=x.z - y.z:=by unfold c1u;rw [b7W];show x.z + -y.z=_;omega
theorem c1v (x y:GI):(c1u x y).wf:=b3U _ _
theorem d3o (x y:GI)(hx:x.wf)(hy:y.wf)(fx:x.few)(fy:y.few):a0b C0 216 [x.D,y.D] (c1u x y).D:=by
 refine a0c.walk w1 c4T rfl fun F=>?_
 have c1:=c0e y hy fy;have c2:=c6o x (mkG (-y.z)) hx (a1d _) fx (b9d fy);unfold c1u;refine fR 0 ?_;refine OkS.seq ?_;refine d8K w1 100 [0,1,2] [3,4] (by kernel_rfl) ?_;refine nxI ?_;refine a0q.same _ (c1) d9k ?_;refine nxI ?_;refine dI c2 ?_;refine rtI ?_;exact a0a rfl IsPure.out
theorem d4b (x y:GI)(hx:x.wf)(hy:y.wf)(fx:x.few)(fy:y.few):a0b C0 178 [x.D,y.D] (i64 (a6M x.z y.z)):=by
 by_cases h:x.sm=true/\y.sm=true
 ·obtain ⟨a,sa⟩:=x
  obtain ⟨b,sb⟩:=y;obtain ⟨h1,h2⟩:=h;dsimp only at h1 h2;subst h1;subst h2;exact b9G a b
 ·have cs:=d3o x y hx hy fx fy
  have cg:=b0V (c1u x y) (c1v x y);rw [c5U] at cg;have e:max (-1) (min 1 (x.z - y.z))=a6M x.z y.z:=by unfold a6M;split<;>(try split)<;>omega
  rw [e] at cg;have hpr:IsPure (c1u x y).w:=d9k;have hpx:IsPure x.w:=d9k;have hpy:IsPure y.w:=d9k;dsimp only [GI.D] at *;generalize (c1u x y).s=rs at *;generalize (c1u x y).w=rw at *;generalize a6M x.z y.z=r at *;refine a0c.walk w1 b9q rfl fun F=>?_
  obtain ⟨a,sa⟩:=x;obtain ⟨b,sb⟩:=y;have nx:sa=false->(a0h a.natAbs).map a0k≠[]:=fun h=>a2l (by
   intro h0;subst h;exact hx.2 rfl ⟨by dsimp only;omega,by dsimp only;omega⟩)
  have ny:sb=false->(a0h b.natAbs).map a0k≠[]:=fun h=>a2l (by
   intro h0;subst h;exact hy.2 rfl ⟨by dsimp only;omega,by dsimp only;omega⟩)
  unfold GI.s GI.w wD wL at *;dsimp only at *;generalize (a0h a.natAbs).map a0k=ka at *;generalize (a0h b.natAbs).map a0k=kb at *;cases sa with
  | false =>
   have nx:=nx rfl;dsimp only at *;generalize (if a<0 then (-1:Int) else 1)=sg at *;generalize (match sb with|true=>b|false=>if b<0 then (-1:Int) else 1)=sh at *;generalize (match sb with|true=>a1w|false=>D.sl false 1 kb)=wy at *;refine fR 0 ?_;refine OkS.seq ?_;refine OkS.seq ?_;refine d8I w1 100 (by kernel_rfl) ?_;refine nwI (ff3 (@ne_eq (List D)) nx e0A) ?_;refine gwI kT ?_;refine gwI kT ?_;refine ifI ?_;refine skI ?_;refine fR 700 ?_;refine dI cs ?_;refine dI cg ?_;refine rtI ?_;exact a0a rfl IsPure.out
  | true =>
   dsimp only at *;cases sb with
   | false =>
    have ny:=ny rfl;dsimp only at *;generalize (if b<0 then (-1:Int) else 1)=sh at *;refine fR 0 ?_;refine OkS.seq ?_;refine OkS.seq ?_;refine d8I w1 100 (by kernel_rfl) ?_;refine nwI (ff3 (@ne_eq (List D)) ny e0A) ?_;refine gwI (ff4 kT (@ne_eq (List D)) ny e0A) ?_;refine gwI (ff4 kT (@ne_eq (List D)) ny e0A) ?_;refine ifI ?_;refine skI ?_;refine fR 700 ?_;refine dI cs ?_;refine dI cg ?_;refine rtI ?_;exact a0a rfl IsPure.out
   | true=>exact d9n ⟨rfl,rfl⟩ h
theorem a4T (a b:Nat):(a0h (a*b)).length<=(a0h a).length+(a0h b).length:=by
 refine a1b ?_;rw [e1Q];exact Nat.mul_lt_mul'' (a3g a) (a3g b)
theorem c3t (a b:Int):a7S (decide (a<0) != decide (b<0)) (a.natAbs*b.natAbs)=a*b:=by
 rw [<- e1Z]
 by_cases h1:a<0<;>by_cases h2:b<0
 ·rw [d9q h1,d9q h2]
  have:0<=a*b:=e2k (by omega) (by omega)
  show (((a*b).natAbs:Nat):Int)=a*b;omega
 ·rw [d9q h1,d9p h2]
  have:a*b<=0:=e2m (by omega) (by omega)
  show -(((a*b).natAbs:Nat):Int)=a*b;omega
 ·rw [d9p h1,d9q h2]
  have:a*b<=0:=e2l (by omega) (by omega)
  show -(((a*b).natAbs:Nat):Int)=a*b;omega
 ·rw [d9p h1,d9p h2]
  have:0<=a*b:=Int.mul_nonneg (by omega) (by omega)
  show (((a*b).natAbs:Nat):Int)=a*b;omega
theorem c7o (x y:GI)(hx:x.wf)(hy:y.wf)(fx:(a0h x.z.natAbs).length<400000)(fy:(a0h y.z.natAbs).length<400000)(hn:¬ (x.sm=true/\y.sm=true/\(x.z*y.z).natAbs<=9223372036854775807)):a0b C0 146 [x.D,y.D] (mkG (x.z*y.z)).D:=by
 refine a0c.walk w1 b5E rfl fun F=>?_
 have cx:=a3L x hx;have cy:=a3L y hy;have hpr:IsPure (mkG (x.z*y.z)).w:=d9k;have hpx:IsPure x.w:=d9k;have hpy:IsPure y.w:=d9k;have lm:=a4T x.z.natAbs y.z.natAbs;have ca:=d7k x.z.natAbs y.z.natAbs (by omega) (by omega);have cm:=a5T (decide (x.z<0) != decide (y.z<0)) (x.z.natAbs*y.z.natAbs) (by omega);rw [c3t] at cm;dsimp only [GI.D] at *;refine fR 0 ?_;refine d8V ⟨[(2,.optr 0 0 2 0 0),(3,.optr 1 1 2 0 0),(4,.optr 2 2 2 0 0)],[⟨2,2,114,2,[smI 0]⟩,⟨1,1,114,2,[.agg [i64 y.s,y.w]]⟩,⟨0,0,114,2,[.agg [i64 x.s,x.w]]⟩],90⟩ ?_ ?_
 ·obtain ⟨a,sa⟩:=x
  obtain ⟨b,sb⟩:=y;clear cx cy lm ca cm hpr;have nx:sa=false->(a0h a.natAbs).map a0k≠[]:=fun h=>a2l (by
   intro h0;subst h;exact hx.2 rfl ⟨by dsimp only;omega,by dsimp only;omega⟩)
  have ny:sb=false->(a0h b.natAbs).map a0k≠[]:=fun h=>a2l (by
   intro h0;subst h;exact hy.2 rfl ⟨by dsimp only;omega,by dsimp only;omega⟩)
  unfold GI.s GI.w wD wL at *;dsimp only at *;generalize (a0h a.natAbs).map a0k=ka at *;generalize (a0h b.natAbs).map a0k=kb at *;cases sa with
  | false =>
   have nx:=nx rfl;dsimp only at *;generalize (if a<0 then (-1:Int) else 1)=sg at *;generalize (match sb with|true=>b|false=>if b<0 then (-1:Int) else 1)=sh at *;generalize (match sb with|true=>a1w|false=>D.sl false 1 kb)=wy at *;refine OkS.seq ?_;refine d8I w1 100 (by kernel_rfl) ?_;refine nwI (ff3 (@ne_eq (List D)) nx e0A) ?_;refine gwI kT ?_;refine gwI kT ?_;refine ifI ?_;refine skI ?_;exact And.intro (by trivial) (wkI)
  | true =>
   dsimp only at *;cases sb with
   | false =>
    have ny:=ny rfl;dsimp only at *;generalize (if b<0 then (-1:Int) else 1)=sh at *;refine OkS.seq ?_;refine d8I w1 100 (by kernel_rfl) ?_;refine nwI (ff3 (@ne_eq (List D)) ny e0A) ?_;refine gwI (ff4 kT (@ne_eq (List D)) ny e0A) ?_;refine gwI (ff4 kT (@ne_eq (List D)) ny e0A) ?_;refine ifI ?_;refine skI ?_;exact And.intro (by trivial) (wkI)
   | true =>
    have ra:=hx.1 rfl;have rb:=hy.1 rfl;dsimp only at *;have sa:=b3A ra.1 ra.2;have sb:=b3A rb.1 rb.2;have la:a.natAbs<BB:=by unfold BB;omega
    have lb:b.natAbs<BB:=by unfold BB;omega
    have c0:=a5p a.natAbs b.natAbs la lb;have hab:a.natAbs*b.natAbs=(a*b).natAbs:=(e1Z a b).symm;have hbig:9223372036854775807<(a*b).natAbs:=d9L fun h=>hn ⟨rfl,rfl,by omega⟩
    rw [hab] at c0;generalize (a*b).natAbs=p at *;refine sZ 100 ?_
    repeat' (first|(refine And.intro (by exact sdI) ?_;refine dsI ?_)|((refine brI (fun hb=>?_) (fun hb=>?_))<;>(try simp only [d9w,d9x] at hb)<;>(try simp only [hb])<;>(refine dsI ?_)))
    refine ifI ?_;refine OkS.seq ?_;refine d8K w1 200 [0,1,2,3,4,5,6,7,8,9,10] [11] (by kernel_rfl) ?_;refine nxI ?_;refine a0q.same _ (sa) d9k ?_;refine nxI ?_;refine a0q.same _ (sb) d9k ?_;refine nxI ?_;refine a0q.same _ (c0) d9k ?_;refine nxI ?_;refine OkS.seq ?_
    by_cases h0:p / 18446744073709551616=0
    ·rw [h0]
     have h1:p%18446744073709551616=p:=by omega
     rw [h1];have e3:decide ((p:Int)<=9223372036854775807)=false:=d9p (by omega);refine d8I w1 300 (by kernel_rfl) ?_
     repeat' (first|(refine And.intro (by exact sdI) ?_;refine dsI ?_)|((refine brI (fun hb=>?_) (fun hb=>?_))<;>(try simp only [d9w,d9x] at hb)<;>(try simp only [hb])<;>(refine dsI ?_)))
     rw [e3];refine ifI ?_;refine skI ?_;exact And.intro (by trivial) (wkI)
    ·have e3:(((p / 18446744073709551616:Nat):Int)==0)=false:=d9D.2 (by omega)
     refine d8I w1 300 (by kernel_rfl) ?_;refine nwI e3 ?_;refine gwI e3 ?_;refine gwI e3 ?_;refine ifI ?_;refine skI ?_;exact And.intro (by trivial) (wkI)
 ·refine fR 700 ?_
  refine dI cx ?_;refine fR 800 ?_;refine dI cy ?_;refine fR 900 ?_;refine dI ca ?_;refine dI cm ?_;refine rtI ?_;exact a0a rfl IsPure.out
theorem c0c (a b:Int)(hc:Sm (a*b))(ha : -9223372036854775808<=a/\a<9223372036854775808)(hb : -9223372036854775808<=b/\b<9223372036854775808):a0b C0 146 [smI a,smI b] (smI (a*b)):=by
 refine a0c.walk w1 b5E rfl fun F=>?_
 have hab:a.natAbs*b.natAbs=(a*b).natAbs:=(e1Z a b).symm;have h1:a.natAbs*b.natAbs / 18446744073709551616=0:=by rw [hab];have:=hc.1;have:=hc.2;omega
 have h2:a.natAbs*b.natAbs%18446744073709551616=(a*b).natAbs:=by rw [hab];have:=hc.1;have:=hc.2;omega
 have c0:=a5p a.natAbs b.natAbs (by omega) (by omega);rw [h1,h2] at c0;refine fR 0 ?_;refine OkS.seq ?_;refine sZ 100 ?_
 repeat' (first|(refine And.intro (by exact sdI) ?_;refine dsI ?_)|((refine brI (fun hb=>?_) (fun hb=>?_))<;>(try simp only [d9w,d9x] at hb)<;>(try simp only [hb])<;>(refine dsI ?_)))
 refine ifI ?_;refine OkS.seq ?_;refine d8K w1 200 [0,1,2,3,4,5,6,7,8,9,10] [11] (by kernel_rfl) ?_;refine nxI ?_;refine a0q.same _ (b3A ha.1 ha.2) d9k ?_;refine nxI ?_;refine a0q.same _ (b3A hb.1 hb.2) d9k ?_;refine nxI ?_;refine a0q.same _ (c0) d9k ?_;refine nxI ?_;refine sZ 300 ?_
 repeat' (first|(refine And.intro (by exact sdI) ?_;refine dsI ?_)|((refine brI (fun hb=>?_) (fun hb=>?_))<;>(try simp only [d9w,d9x] at hb)<;>(try simp only [hb])<;>(refine dsI ?_)))
 have e3:decide ((((a*b).natAbs:Nat):Int)<=9223372036854775807)=true:=d9q (by have:=hc.1;have:=hc.2;omega);rw [e3];refine ifI ?_;refine OkS.seq ?_;refine fR 400 ?_;refine ifI ?_;have e4:IntKind.i64.wrap (((a*b).natAbs:Nat):Int)=((a*b).natAbs:Nat):=wN (by have:=hc.1;have:=hc.2;omega)
 (refine brI (fun h41=>?_) (fun h41=>?_))<;>(try simp only [d9w,d9x] at h41)<;>(try simp only [h41])
 ·have e5:IntKind.i64.wrap (0 - (((a*b).natAbs:Nat):Int)) = -((a*b).natAbs:Nat):=by
   rw [wI (by have:=hc.1;have:=hc.2;omega) (by have:=hc.1;have:=hc.2;omega)];omega
  have e6 : -(((a*b).natAbs:Nat):Int)=a*b:=by
   have hs:(a<0)≠(b<0):=by simpa using h41
   have:a*b<=0:=by
    by_cases h1:a<0
    ·have h2:¬ b<0:=fun h2=>hs (by simp [h1,h2])
     exact e2m (by omega) (by omega)
    ·have h2:b<0:=d9L fun h2=>hs (by simp [h1,h2])
     exact e2l (by omega) (by omega)
   omega
  refine sZ 500 ?_;refine mwI (ff3 e4 e5 e6) ?_;refine rtI ?_;exact a0a rfl IsPure.out
 ·have e6:(((a*b).natAbs:Nat):Int)=a*b:=by
   have hs:¬ ((a<0)≠(b<0)):=by simpa using h41
   have:0<=a*b:=by
    by_cases h1:a<0
    ·have h2:b<0:=d9L fun h2=>hs (by simp [h1,h2])
     exact e2k (by omega) (by omega)
    ·have h2:¬ b<0:=fun h2=>hs (by simp [h1,h2])
     exact Int.mul_nonneg (by omega) (by omega)
   omega
  rw [e6] at e4;refine skI ?_;refine sZ 600 ?_;refine mwI (ff2 e6 e4) ?_;refine rtI ?_;exact a0a rfl IsPure.out
theorem d2E (x y:GI)(hx:x.wf)(hy:y.wf)(fx:(a0h x.z.natAbs).length<400000)(fy:(a0h y.z.natAbs).length<400000):a0b C0 146 [x.D,y.D] (mkG (x.z*y.z)).D:=by
 by_cases h:x.sm=true/\y.sm=true/\(x.z*y.z).natAbs<=9223372036854775807
 ·obtain ⟨a,sa⟩:=x
  obtain ⟨b,sb⟩:=y;obtain ⟨h1,h2,h3⟩:=h;dsimp only at h1 h2 h3;subst h1;subst h2;have hs:Sm (a*b):=⟨by omega,by omega⟩
  dsimp only;rw [a7B hs];exact c0c a b hs (hx.1 rfl) (hy.1 rfl)
 ·exact c7o x y hx hy fx fy h
def c6l (x:GI):GI:=if x.z<0 then mkG (-x.z) else x
theorem c8S (x:GI):(c6l x).z=(x.z.natAbs:Nat):=by
 unfold c6l;split
 ·show -x.z=_;omega
 ·omega
theorem c6m (x:GI)(h:x.wf):(c6l x).wf:=by
 unfold c6l;split
 ·exact a1d _
 ·exact h
theorem c8T (x:GI)(h:x.wf)(hf:x.few):a0b C0 207 [x.D] (c6l x).D:=by
 refine a0c.walk w1 b9t rfl fun F=>?_
 have hs:=c5Q x h;have cn:=c0e x h hf;have hpx:IsPure x.w:=d9k;have hpr:IsPure (mkG (-x.z)).w:=d9k;unfold c6l
 by_cases hz:x.z<0
 ·have e:decide (x.s<0)=true:=d9q (by rw [hs];exact hz)
  rw [d9l hz];dsimp only [GI.D] at *;refine fR 0 ?_;refine OkS.seq ?_;refine fR 100 ?_;rw [e];refine ifI ?_;refine fR 200 ?_;refine dI cn ?_;refine rtI ?_;exact a0a rfl IsPure.out
 ·have e:decide (x.s<0)=false:=d9p (by rw [hs];exact hz)
  rw [d9m hz];dsimp only [GI.D] at *;refine fR 0 ?_;refine OkS.seq ?_;refine fR 100 ?_;rw [e];refine ifI ?_;refine skI ?_;refine fR 300 ?_;refine rtI ?_;exact a0a rfl IsPure.out
structure a4i (B Y u1 u0:Nat)(q r:Nat):Prop where
 eq:q*(Y / B)+r=u1
 up:u1*B+u0<(q+1)*Y
 q2:q<=B+1
theorem a9t {B Y u1 u0:Nat}(hB:0<B)(hY:B*B<=2*Y)(hY2:Y<B*B)(hev:B%2=0)(hu:u1<Y)(h0:u0<B) :
  a4i B Y u1 u0 (u1 / (Y / B)) (u1 - u1 / (Y / B)*(Y / B))/\u1 - u1 / (Y / B)*(Y / B)<B:=by
 have e:=e0X Y B;have m:=e0k Y hB;generalize hg:Y / B=y1 at *;generalize Y%B=y0 at *;have hy1:y1<B:=by
  rcases d9H y1 B with h|h
  ·exact h
  ·have:=d9X B h
   omega
 have hy2:B<=2*y1:=by
  rcases d9H (2*y1) B with h|h
  ·exfalso
   have h1:2*y1+2<=B:=by omega
   have h2:=d9X B h1;have h3:B*(2*y1+2)=2*(B*y1)+2*B:=by
    rw [d9M,e1B,d9O B 2]
   omega
  ·exact h
 have e1:=e0X u1 y1;have m1:=e0k u1 (show 0<y1 by omega);have c1:y1*(u1 / y1)=u1 / y1*y1:=d9O _ _;refine ⟨⟨by rw [hg];omega,?_,?_⟩,by omega⟩
 ·generalize hq:u1 / y1=q at *
  have h1:u1+1<=(q+1)*y1:=by rw [e0e];omega
  have h2:=d9K B h1;have h3:(q+1)*Y=(q+1)*y1*B+(q+1)*y0:=by
   rw [<- e,d9M,d9O B y1,d9Y]
  rw [e0e] at h2;omega
 ·rcases d9H (B+1) (u1 / y1) with h|h
  ·exfalso
   have h1:=d9X y1 (show B+2<=u1 / y1 by omega);have h2:y1*(B+2)=B*y1+2*y1:=by rw [d9M,d9O y1 B,d9O y1 2]
   omega
  ·exact h
theorem b0R {B Y u1 u0 q r:Nat}(hB:0<B)(hu:u1<Y)(h0:u0<B)(I:a4i B Y u1 u0 q r)
  (c:B<=q\/B*r+u0<q*(Y%B)):0<q/\a4i B Y u1 u0 (q - 1) (r+Y / B):=by
 have e:=e0X Y B;obtain ⟨i1,i2,i3⟩:=I;generalize hg:Y / B=y1 at *;generalize Y%B=y0 at *;have hq:0<q:=by
  rcases c with c|c
  ·omega
  ·rcases e0m q with h|h
   ·subst h;omega
   ·exact h
 obtain ⟨p,rfl⟩:∃ p,q=p+1:=⟨q - 1,by omega⟩
 refine ⟨hq,⟨?_,?_,?_⟩⟩
 ·rw [e1P,hg,d9O p];rw [e0e,d9O p] at i1;omega
 ·rw [e1P]
  rcases c with c|c
  ·have h1:=d9K Y c
   have h2:(u1+1)*B<=Y*B:=d9K B hu;rw [e0e] at h2;rw [d9O Y B] at h2;omega
  ·have h3:(p+1)*Y=(p+1)*y1*B+(p+1)*y0:=by
    rw [<- e,d9M,d9O B y1,d9Y]
   have h4:u1*B=(p+1)*y1*B+r*B:=by rw [<- i1,e0e]
   rw [d9O r B] at h4;omega
 ·omega
theorem a9s {B Y u1 u0 q r:Nat}(I:a4i B Y u1 u0 q r)
  (c:q*(Y%B)<=B*r+u0):q=(u1*B+u0) / Y:=by
 have e:=e0X Y B;obtain ⟨i1,i2,i3⟩:=I;have h3:q*Y=q*(Y / B)*B+q*(Y%B):=by
  conv=>lhs;rw [<- e]
  rw [d9M,d9O B (Y / B),d9Y]
 have h4:u1*B=q*(Y / B)*B+r*B:=by rw [<- i1,e0e]
 rw [d9O r B] at h4;have h5:0<Y:=by
  rcases e0m Y with h|h
  ·subst h;omega
  ·exact h
 symm
 apply Nat.div_eq_of_lt_le
 ·omega
 ·exact i2
theorem a9r {B Y u1 u0 q r:Nat}(hB:0<B)(I:a4i B Y u1 u0 q r)(hq:q<=B)(hr:B<=r) :
  q=(u1*B+u0) / Y:=by
 refine a9s I ?_;have m:=e0k Y hB;have h1:q*(Y%B)<=B*B:=e1p hq (by omega);have h2:=d9X B hr;omega
theorem b7E {B N S y u32 u1 u0 v:Nat}(hS:0<S)(hy:0<y)(hN:N*S=u32*(B*B)+(u1*B+u0))(hv:v=(u32*B+u1)%(y*S)) :
  (u32*B+u1) / (y*S)*B+(v*B+u0) / (y*S)=N / y/\(v*B+u0)%(y*S) / S=N%y:=by
 have hY0:0<y*S:=e2h hy hS;have e1:=e0X (u32*B+u1) (y*S);have e2:=e0X (v*B+u0) (y*S);have m2:=e0k (v*B+u0) hY0;rw [<- hv] at e1;have dY:N*S / (y*S)=N / y:=e2q _ _ hS;have mY:N*S%(y*S)=N%y*S:=e2r _ _ _;generalize (u32*B+u1) / (y*S)=q1 at *;generalize (v*B+u0) / (y*S)=q0 at *;generalize (v*B+u0)%(y*S)=r at *;generalize y*S=Y at *;have hT:N*S=r+Y*(q1*B+q0):=by
  have c1:u32*(B*B)+u1*B=Y*q1*B+v*B:=by
   rw [<- d9Y,<- e0e,<- e1,e0e]
  rw [hN,d9M,<- d9Y Y q1 B];omega
 refine ⟨?_,?_⟩
 ·rw [<- dY,hT,e2R _ _ hY0,e1A m2,d9S]
 ·rw [hT,e2u,e0u m2] at mY
  rw [mY,Nat.mul_div_cancel _ hS]
theorem c2W {hi lo y s:Nat}(hs:s<=63)(h1:hi<y)(hlo:lo<18446744073709551616) :
  lo / 2^(64 - s)<2^s/\hi*2^s+lo / 2^(64 - s)<y*2^s /\
   (hi*18446744073709551616+lo)*2^s=(hi*2^s+lo / 2^(64 - s))*18446744073709551616+lo*2^s%18446744073709551616:=by
 have hp:0<2^s:=e1s s;have hpp:2^(64 - s)*2^s=18446744073709551616:=by
  rw [<- e1Q,show 64 - s+s=64 by omega]
 have hl:lo*2^s / 18446744073709551616=lo / 2^(64 - s):=by
  rw [<- hpp,e2q _ _ hp]
 have hl2:lo / 2^(64 - s)<2^s:=e0E (by rw [hpp];exact hlo);refine ⟨hl2,?_,?_⟩
 ·have:(hi+1)*2^s<=y*2^s:=d9K _ h1
  rw [e0e] at this;omega
 ·have e:=e0X (lo*2^s) 18446744073709551616
  rw [hl] at e;rw [e0e,e0e,Nat.mul_right_comm];omega
theorem c0p {a b s:Nat}(h:b<2^s):(a*2^s) ||| b=a*2^s+b:=by
 rw [d9O,Nat.two_pow_add_eq_or_of_lt h]
theorem d2z (x:Nat)(hx:x<BB):a0b C0 220 [a0k x] (i64 (64 - (Lib.bitLen x:Int))):=by
 refine ⟨⟨_,_,Tryz.func220,rfl,by kernel_rfl⟩,fun Y w vs hG hnG hX hvs hr=>?_⟩
 have:=b1N hvs hr
 subst this;refine (Tryz.bits_LeadingZeros64 x w (by omega) (by unfold BB at hx;omega)).mono ?_;rintro e w' ⟨rfl,rfl⟩;exact ⟨_,_,rfl,.refl _ _,rfl,.prim _⟩
theorem b0g {x:Nat}(h0:x≠0)(hx:x<BB):∃ s,s<=63/\(64 - (Lib.bitLen x:Int))=(s:Nat)/\9223372036854775808<=x*2^s/\x*2^s<18446744073709551616:=by
 obtain ⟨h1,h2,h3⟩:=Lib.bitLenAux_bounds 64 x hx h0;have h4:=Lib.bitLen_le x 64 (d9y _) hx;have h5:Lib.bitLenAux 64 x=Lib.bitLen x:=rfl;rw [h5] at h1 h2 h3;refine ⟨64 - Lib.bitLen x,by omega,by omega,?_,?_⟩
 ·have:=d9K (2^(64 - Lib.bitLen x)) h2
  rw [<- e1Q,show Lib.bitLen x - 1+(64 - Lib.bitLen x)=63 by omega] at this;exact this
 ·have:=(Nat.mul_lt_mul_right (e1s (64 - Lib.bitLen x))).2 h3
  rw [<- e1Q,show Lib.bitLen x+(64 - Lib.bitLen x)=64 by omega] at this;exact this
theorem a2k (n:Nat):IntKind.u64.wrap (n:Int)=((n%18446744073709551616:Nat):Int):=by
 have e1:(2:Int)^IntKind.u64.bits=18446744073709551616:=rfl;unfold IntKind.wrap;simp only [e1];have e3:IntKind.u64.signed=false:=rfl;rw [e3];simp only [e1o,e1k,if_false];omega
theorem c1h (x s:Nat)(hs:s<=63):c5R .u64 (x:Int) (s:Int)=((x*2^s%18446744073709551616:Nat):Int):=by
 have hm:min ((s:Int)).toNat (IntKind.bits .u64)=s:=by
  have:IntKind.bits .u64=64:=rfl
  rw [this];omega
 unfold c5R;rw [hm]
 have:(x:Int)*2^s=((x*2^s:Nat):Int):=by simp
 rw [this];exact a2k _
theorem b7x (x s:Nat)(hs:s<=64):c7Y .u64 (x:Int) (s:Int)=((x / 2^s:Nat):Int):=by
 have hm:min ((s:Int)).toNat (IntKind.bits .u64)=s:=by
  have:IntKind.bits .u64=64:=rfl
  rw [this];omega
 unfold c7Y;rw [hm]
 have:(2:Int)^s=((2^s:Nat):Int):=by simp
 rw [this,Int.fdiv_eq_ediv_of_nonneg _ (Int.natCast_nonneg _)];exact (Int.natCast_ediv _ _).symm
theorem d3E (a:Nat)(ha:a<18446744073709551616):(BitVec.ofInt (IntKind.bits .u64) (a:Int)).toNat=a:=by
 rw [show IntKind.bits .u64=64 from rfl,BitVec.ofInt_natCast,BitVec.toNat_ofNat];exact e0u ha
theorem d5v (a b:Nat)(ha:a<18446744073709551616)(hb:b<18446744073709551616):a2d .or .u64 (a:Int) (b:Int)=((a ||| b:Nat):Int):=by
 have h:a ||| b<2^64:=Nat.or_lt_two_pow ha hb;show IntKind.u64.wrap ((BitVec.ofInt (IntKind.bits .u64) (a:Int) ||| BitVec.ofInt (IntKind.bits .u64) (b:Int)).toNat:Int)=_;rw [BitVec.toNat_or,d3E a ha,d3E b hb,a2k];exact congrArg Nat.cast (e0u h)
theorem c8X (a:Nat)(ha:a<18446744073709551616):a2d .and .u64 (a:Int) 4294967295=((a%4294967296:Nat):Int):=by
 show IntKind.u64.wrap ((BitVec.ofInt (IntKind.bits .u64) (a:Int) &&& BitVec.ofInt (IntKind.bits .u64) ((4294967295:Nat):Int)).toNat:Int)=_;rw [BitVec.toNat_and,d3E a ha,d3E _ (by decide),a2k,show (4294967295:Nat)=2^32 - 1 from rfl,Nat.and_two_pow_sub_one_eq_mod];exact congrArg Nat.cast (e0u (by omega))
theorem c1z (a b:Nat):IntKind.u64.wrap ((a:Int).tdiv (b:Int))=((a / b%18446744073709551616:Nat):Int):=by
 rw [<- Int.ofNat_tdiv];exact a2k _
theorem c5V {a b:Nat}(h:b<=a)(ha:a<18446744073709551616):IntKind.u64.wrap ((a:Int) - (b:Int))=((a - b:Nat):Int):=by
 rw [<- Int.natCast_sub h,a2k];exact congrArg Nat.cast (e0u (by omega))
section
variable {C:Ctx} {B F:Fra} {s:St} {rd:Option Nat} {Q:Exit->Fra->St->Prop}
theorem d8W {a b:Code}(S:Nat->St)(h1:OkS C B rd F a s (fun e F1 s1=>a9X (F1=F/\∃ n,Wk s1 (S n)) (fun e=>Q e F1 s1) e))(h2:∀ n,OkS C B rd F b (S n) Q):OkS C B rd F (.seq a b) s Q :=
 OkS.seq (h1.mono fun e F1 s1 h=>by
  cases e with
  | normal =>
   obtain ⟨h0,n,h3⟩:=(show F1=F/\∃ n,Wk s1 (S n) from h)
   rw [h0];exact OkS.weak (S n) h3 (h2 n)
  | ret=>exact h
  | exit j=>exact h
  | goto l=>exact h
  | panic c=>exact h
  | outgrown=>exact h)
end
theorem a7q (z:Int):IntKind.u64.wrap z=z%18446744073709551616:=by
 have e1:(2:Int)^IntKind.u64.bits=18446744073709551616:=rfl;unfold IntKind.wrap;simp only [e1];have e3:IntKind.u64.signed=false:=rfl;rw [e3];simp only [e1o,e1k,if_false]
theorem b4C (a b:Nat)(ha:a<4294967296)(hb:b<4294967296):IntKind.u64.wrap (IntKind.u64.wrap ((a:Int)*4294967296)+(b:Int))=((a*4294967296+b:Nat):Int):=by
 rw [a7q,a7q];omega
theorem b2Y (a c q Y:Nat)(hY:0<Y)(hY2:Y<18446744073709551616)(hq:q=(a*4294967296+c) / Y) :
  IntKind.u64.wrap (IntKind.u64.wrap (IntKind.u64.wrap ((a:Int)*4294967296)+(c:Int)) - IntKind.u64.wrap ((q:Int)*(Y:Int)))=(((a*4294967296+c)%Y:Nat):Int):=by
 have e:=e0X (a*4294967296+c) Y;have m:=e0k (a*4294967296+c) hY;rw [<- hq,d9O Y q] at e;generalize (a*4294967296+c)%Y=v at *;rw [<- e0O q Y];generalize q*Y=Q at *;rw [a7q,a7q,a7q,a7q];omega
structure c8M (hi lo y s Y u u10:Nat):Prop where
 s63:s<=63
 eY:Y=y*2^s
 big:9223372036854775808<=Y
 Yl:Y<18446744073709551616
 uY:u<Y
 u10l:u10<18446744073709551616
 N:(hi*BB+lo)*2^s=u*18446744073709551616+u10
 e8:c5R .u64 (y:Int) (s:Int)=(Y:Int)
 e9:c7Y .u64 (Y:Int) 32=((Y / 4294967296:Nat):Int)
 e10:a2d .and .u64 (Y:Int) 4294967295=((Y%4294967296:Nat):Int)
 ew:IntKind.u64.wrap (64 - (s:Int))=((64 - s:Nat):Int)
 e11:a2d .or .u64 (c5R .u64 (hi:Int) (s:Int)) (c7Y .u64 (lo:Int) ((64 - s:Nat):Int))=(u:Int)
 e12:c5R .u64 (lo:Int) (s:Int)=(u10:Int)
 e13:c7Y .u64 (u10:Int) 32=((u10 / 4294967296:Nat):Int)
 e14:a2d .and .u64 (u10:Int) 4294967295=((u10%4294967296:Nat):Int)
theorem c2L {hi lo y s:Nat}(h1:hi<y)(hlo:lo<BB)(hs:s<=63)(t1:9223372036854775808<=y*2^s)(t2:y*2^s<18446744073709551616) :
  ∃ Y u u10,c8M hi lo y s Y u u10:=by
 obtain ⟨m1,m2,m3⟩:=c2W hs h1 hlo;have hpos:0<2^s:=e1s s;have hh:hi*2^s<18446744073709551616:=e0f (Nat.le_add_right _ _) (e1G m2 t2);have hl:lo / 2^(64 - s)<18446744073709551616:=e0f (e1e _ _) hlo;refine ⟨_,_,_,hs,rfl,t1,t2,m2,e0k _ (by decide),m3,?_,b7x _ 32 (by decide),c8X _ t2,?_,?_,c1h lo s hs,b7x _ 32 (by decide),c8X _ (e0k _ (by decide))⟩
 ·rw [c1h y s hs,e0u t2]
 ·rw [wU (by omega) (by omega)];omega
 ·rw [c1h hi s hs,e0u hh,b7x lo (64 - s) (by omega),d5v _ _ hh hl,c0p m1]
theorem b5q (hi lo y:Nat)(h1:hi<y)(hlo:lo<BB)(hy:y<BB):a0b C0 218 [a0k hi,a0k lo,a0k y] (.tup [a0k ((hi*BB+lo) / y),a0k ((hi*BB+lo)%y)]):=by
 refine a0c.walk w1 c4U rfl fun F=>?_
 have y0:¬ (y:Int)=0:=by omega
 have c1:((y:Int)==0)=false:=by simp;omega
 have c2:decide ((y:Int)<=(hi:Int))=false:=d9p (by omega);refine sR 0 ?_;refine OkS.seq ?_;refine sZ 100 ?_;refine nwI c1 ?_;refine ifI ?_;refine skI ?_;refine OkS.seq ?_;refine sZ 300 ?_;refine nwI c2 ?_;refine ifI ?_;refine skI ?_;refine OkS.seq ?_;refine sR 500 ?_;refine ifI ?_
 (refine brI (fun h27=>?_) (fun h27=>?_))<;>(try simp only [d9w,d9x] at h27)<;>(try simp only [h27])
 ·have hi0:hi=0:=by simpa using h27
  subst hi0;refine OkS.seq ?_;refine d8K w1 600 [0,1,2,3,4,5,6] [7] (by kernel_rfl) ?_;refine stI ?_;refine rtI ?_;refine a0a ?_ IsPure.out;have l1:lo / y<18446744073709551616:=e0f (e1e _ _) hlo;rw [c1z,e0u l1,e2a,d9S];rfl
 ·obtain ⟨s,hs,es,t1,t2⟩:=b0g (x:=y) (by omega) hy
  have cl:=d2z y hy;rw [es] at cl;have ws:IntKind.u64.wrap (s:Int)=(s:Int):=wU (by omega) (by omega);obtain ⟨Y,u,u10,L⟩:=c2L h1 hlo hs t1 t2;have ew0:(0:Int)<=IntKind.u64.wrap (64 - (s:Int)):=by rw [L.ew];omega
  refine skI ?_;refine sR 700 ?_;refine cI cl ?_;rw [ws];refine sZ 800 ?_;refine nwI L.e8 ?_;refine sZ 900 ?_;refine nwI L.e9 ?_;refine sZ 1000 ?_;refine nwI L.e10 ?_;refine sZ 1100 ?_;refine gwI (ff2 L.ew L.e11) ?_;refine sZ 1200 ?_;refine nwI L.e12 ?_;refine sZ 1300 ?_;refine nwI L.e13 ?_;refine sZ 1400 ?_;refine nwI L.e14 ?_;have hB:2147483648<=Y / 4294967296:=by have:=L.big;omega
  have hB2:Y / 4294967296<4294967296:=by have:=L.Yl;omega
  have n0:¬ ((Y / 4294967296:Nat):Int)=0:=by omega
  obtain ⟨I0,r0⟩:=a9t (B:=4294967296) (u0:=u10 / 4294967296) (by decide) (by have:=L.big;omega) L.Yl (by decide) L.uY (by have:=L.u10l;omega);have q0l:=I0.q2;have hu64:u<18446744073709551616:=e1G L.uY L.Yl;have hqy:=Nat.div_mul_le_self u (Y / 4294967296);have e15:IntKind.u64.wrap ((u:Int).tdiv ((Y / 4294967296:Nat):Int))=((u / (Y / 4294967296):Nat):Int):=by
   rw [c1z,e0u (by omega)]
  have e16:IntKind.u64.wrap ((u:Int) - IntKind.u64.wrap (((u / (Y / 4294967296):Nat):Int)*((Y / 4294967296:Nat):Int)))=((u - u / (Y / 4294967296)*(Y / 4294967296):Nat):Int):=by
   rw [<- e0O,a2k,e0u (by omega),c5V hqy hu64]
  refine sZ 1500 ?_;refine nwI e15 ?_;refine sZ 1600 ?_;refine nwI e16 ?_;have hu1:u10 / 4294967296<4294967296:=by have:=L.u10l;omega
  have hy0:Y%4294967296<4294967296:=e0k _ (by decide);generalize hu1e:u10 / 4294967296=u1 at *;generalize hu0e:u10%4294967296=u0 at *;refine d8W (fun n=>⟨[(2,a0k Y),(6,u64 0),(7,u64 0),(8,a0k s),(9,a0k (Y / 4294967296)),(10,a0k (Y%4294967296)),(11,a0k u),(13,a0k u1),(14,a0k u0),(15,a0k ((u*4294967296+u1) / Y))],[],n⟩) ?_ fun n=>?_
  ·refine OkS.block ?_
   refine d8H (α:=Nat × Nat × Nat) (fun p=>⟨[(2,a0k Y),(6,u64 0),(7,u64 0),(8,a0k s),(9,a0k (Y / 4294967296)),(10,a0k (Y%4294967296)),(11,a0k u),(13,a0k u1),(14,a0k u0),(15,a0k p.1),(16,a0k p.2.1)],[],p.2.2⟩) (fun p=>p.1)
    (fun p F'=>F'=F/\a4i 4294967296 Y u u1 p.1 p.2.1/\p.2.1<4294967296) (_,_,_)
    ⟨rfl,I0,r0⟩ wkI ?_
   rintro ⟨q,r,m⟩ F' ⟨rfl,I,hr⟩;dsimp only at I hr ⊢;have hq2:=I.q2;refine OkS.seq ?_;obtain ⟨b,hbt⟩:∃ b:Bool,b=decide (4294967296<=q\/4294967296*r+u1<q*(Y%4294967296)):=⟨_,rfl⟩
   refine d8V ⟨[(2,a0k Y),(6,u64 0),(7,u64 0),(8,a0k s),(9,a0k (Y / 4294967296)),(10,a0k (Y%4294967296)),(11,a0k u),(13,a0k u1),(14,a0k u0),(15,a0k q),(16,a0k r),(78,boo b)],[],m+30⟩ ?_ ?_
   ·rcases d9H q 4294967296 with hq|hq
    ·have e1:decide ((q:Int)>=4294967296)=false:=d9p (by omega)
     have hqy:q*(Y%4294967296)<=4294967295*4294967295:=e1p (by omega) (by omega);have k1:IntKind.u64.wrap ((q:Int)*((Y%4294967296:Nat):Int))=((q*(Y%4294967296):Nat):Int):=by
      rw [<- e0O,a2k,e0u (by omega)]
     have k2:IntKind.u64.wrap (4294967296*(r:Int))=((4294967296*r:Nat):Int):=by rw [wU (by omega) (by omega)];omega
     have k3:IntKind.u64.wrap (((4294967296*r:Nat):Int)+(u1:Int))=((4294967296*r+u1:Nat):Int):=by rw [wU (by omega) (by omega)];omega
     have k4:decide (((q*(Y%4294967296):Nat):Int)>((4294967296*r+u1:Nat):Int))=b:=by
      rw [hbt];exact e0C.2 ⟨fun h=>Or.inr (by omega),fun h=>by rcases h with h|h<;>omega⟩
     refine d8I w1 1700 (by kernel_rfl) ?_;refine gwI e1 ?_;refine gwI (ff5 kF k1 k2 k3 k4) ?_;exact And.intro (by trivial) (wkI)
    ·have e1:decide ((q:Int)>=4294967296)=true:=d9q (by omega)
     have hb:b=true:=by rw [hbt];exact d9q (Or.inl hq)
     subst hb;refine d8I w1 1700 (by kernel_rfl) ?_;refine gwI e1 ?_;refine gwI kT ?_;exact And.intro (by trivial) (wkI)
   ·cases b
    ·have hc:=d9I hbt.symm
     have hq:=a9s I (by omega);subst hq;refine ifI ?_;refine exI ?_;exact ⟨rfl,_,wkI⟩
    ·have hc:=d9N hbt.symm
     obtain ⟨hq0,I2⟩:=b0R (by decide) L.uY hu1 I hc;have hq3:=I2.q2;have k1:IntKind.u64.wrap ((q:Int) - 1)=((q - 1:Nat):Int):=by rw [wU (by omega) (by omega)];omega
     have k2:IntKind.u64.wrap ((r:Int)+((Y / 4294967296:Nat):Int))=((r+Y / 4294967296:Nat):Int):=by rw [wU (by omega) (by omega)];omega
     refine ifI ?_;refine skI ?_;refine OkS.block ?_;refine sZ 1800 ?_;refine nwI k1 ?_;refine sZ 1900 ?_;refine nwI k2 ?_;refine sR 2000 ?_;refine ifI ?_
     (refine brI (fun h85=>?_) (fun h85=>?_))<;>(try simp only [d9w,d9x] at h85)<;>(try simp only [h85])
     ·have hq:=a9r (by decide) I2 (by omega) (by have:=d9N h85;omega)
      rw [hq];refine exI ?_;exact ⟨rfl,_,wkI⟩
     ·refine skI ?_
      refine ⟨(q - 1,r+Y / 4294967296,_),⟨rfl,I2,by have:=d9I h85;dsimp only;omega⟩,by dsimp only;omega,wkI⟩
  ·have hY0:0<Y:=by have:=L.big;omega
   have e21:=b2Y u u1 _ Y hY0 L.Yl rfl;have q1l:(u*4294967296+u1) / Y<4294967296:=by
    refine e0E ?_
    have:(u+1)*4294967296<=Y*4294967296:=d9K _ L.uY
    rw [e0e] at this;omega
   have hvY:(u*4294967296+u1)%Y<Y:=e0k _ hY0;have tr:=b7E (B:=4294967296) (N:=hi*BB+lo) (S:=2^s) (y:=y) (u32:=u) (u1:=u1) (u0:=u0) (v:=(u*4294967296+u1)%Y) (e1s s) (by omega) (by rw [L.N];omega) (by rw [L.eY]);rw [<- L.eY] at tr;clear e15 e16 I0 r0 q0l hqy;obtain ⟨q1,hq1e⟩:∃ x,x=(u*4294967296+u1) / Y:=⟨_,rfl⟩
   rw [<- hq1e] at e21 q1l tr ⊢;obtain ⟨v,hve⟩:∃ x,x=(u*4294967296+u1)%Y:=⟨_,rfl⟩
   rw [<- hve] at e21 hvY tr;have hu0:u0<4294967296:=by rw [<- hu0e];exact e0k _ (by decide)
   obtain ⟨J0,s0⟩:=a9t (B:=4294967296) (u0:=u0) (by decide) (by have:=L.big;omega) L.Yl (by decide) hvY hu0;have q0l:=J0.q2;have hv64:v<18446744073709551616:=e1G hvY L.Yl;have hqy:=Nat.div_mul_le_self v (Y / 4294967296);have e22:IntKind.u64.wrap ((v:Int).tdiv ((Y / 4294967296:Nat):Int))=((v / (Y / 4294967296):Nat):Int):=by
    rw [c1z,e0u (by omega)]
   have e23:IntKind.u64.wrap ((v:Int) - IntKind.u64.wrap (((v / (Y / 4294967296):Nat):Int)*((Y / 4294967296:Nat):Int)))=((v - v / (Y / 4294967296)*(Y / 4294967296):Nat):Int):=by
    rw [<- e0O,a2k,e0u (by omega),c5V hqy hv64]
   refine sZ 2100 ?_;refine nwI e21 ?_;refine sZ 2200 ?_;refine nwI e22 ?_;refine sZ 2300 ?_;refine nwI e23 ?_;refine d8W (fun n=>⟨[(2,a0k Y),(6,u64 0),(7,u64 0),(8,a0k s),(9,a0k (Y / 4294967296)),(10,a0k (Y%4294967296)),(11,a0k u),(13,a0k u1),(14,a0k u0),(15,a0k q1),(17,a0k v),(18,a0k ((v*4294967296+u0) / Y))],[],n⟩) ?_ fun n=>?_
   ·refine OkS.block ?_
    refine d8H (α:=Nat × Nat × Nat) (fun p=>⟨[(2,a0k Y),(6,u64 0),(7,u64 0),(8,a0k s),(9,a0k (Y / 4294967296)),(10,a0k (Y%4294967296)),(11,a0k u),(13,a0k u1),(14,a0k u0),(15,a0k q1),(17,a0k v),(18,a0k p.1),(16,a0k p.2.1)],[],p.2.2⟩) (fun p=>p.1)
     (fun p F'=>F'=F/\a4i 4294967296 Y v u0 p.1 p.2.1/\p.2.1<4294967296) (_,_,_)
     ⟨rfl,J0,s0⟩ wkI ?_
    rintro ⟨q,r,m⟩ F' ⟨rfl,I,hr⟩;dsimp only at I hr ⊢;have hq2:=I.q2;refine OkS.seq ?_;obtain ⟨b,hbt⟩:∃ b:Bool,b=decide (4294967296<=q\/4294967296*r+u0<q*(Y%4294967296)):=⟨_,rfl⟩
    refine d8V ⟨[(2,a0k Y),(6,u64 0),(7,u64 0),(8,a0k s),(9,a0k (Y / 4294967296)),(10,a0k (Y%4294967296)),(11,a0k u),(13,a0k u1),(14,a0k u0),(15,a0k q1),(17,a0k v),(18,a0k q),(16,a0k r),(113,boo b)],[],m+30⟩ ?_ ?_
    ·rcases d9H q 4294967296 with hq|hq
     ·have e1:decide ((q:Int)>=4294967296)=false:=d9p (by omega)
      have hqy:q*(Y%4294967296)<=4294967295*4294967295:=e1p (by omega) (by omega);have k1:IntKind.u64.wrap ((q:Int)*((Y%4294967296:Nat):Int))=((q*(Y%4294967296):Nat):Int):=by
       rw [<- e0O,a2k,e0u (by omega)]
      have k2:IntKind.u64.wrap (4294967296*(r:Int))=((4294967296*r:Nat):Int):=by rw [wU (by omega) (by omega)];omega
      have k3:IntKind.u64.wrap (((4294967296*r:Nat):Int)+(u0:Int))=((4294967296*r+u0:Nat):Int):=by rw [wU (by omega) (by omega)];omega
      have k4:decide (((q*(Y%4294967296):Nat):Int)>((4294967296*r+u0:Nat):Int))=b:=by
       rw [hbt];exact e0C.2 ⟨fun h=>Or.inr (by omega),fun h=>by rcases h with h|h<;>omega⟩
      refine d8I w1 2400 (by kernel_rfl) ?_;refine gwI e1 ?_;refine gwI (ff5 kF k1 k2 k3 k4) ?_;exact And.intro (by trivial) (wkI)
     ·have e1:decide ((q:Int)>=4294967296)=true:=d9q (by omega)
      have hb:b=true:=by rw [hbt];exact d9q (Or.inl hq)
      subst hb;refine d8I w1 2400 (by kernel_rfl) ?_;refine gwI e1 ?_;refine gwI kT ?_;exact And.intro (by trivial) (wkI)
    ·cases b
     ·have hc:=d9I hbt.symm
      have hq:=a9s I (by omega);subst hq;refine ifI ?_;refine exI ?_;exact ⟨rfl,_,wkI⟩
     ·have hc:=d9N hbt.symm
      obtain ⟨hq0,I2⟩:=b0R (by decide) hvY hu0 I hc;have hq3:=I2.q2;have k1:IntKind.u64.wrap ((q:Int) - 1)=((q - 1:Nat):Int):=by rw [wU (by omega) (by omega)];omega
      have k2:IntKind.u64.wrap ((r:Int)+((Y / 4294967296:Nat):Int))=((r+Y / 4294967296:Nat):Int):=by rw [wU (by omega) (by omega)];omega
      refine ifI ?_;refine skI ?_;refine OkS.block ?_;refine sZ 2500 ?_;refine nwI k1 ?_;refine sZ 2600 ?_;refine nwI k2 ?_;refine sR 2700 ?_;refine ifI ?_
      (refine brI (fun h120=>?_) (fun h120=>?_))<;>(try simp only [d9w,d9x] at h120)<;>(try simp only [h120])
      ·have hq:=a9r (by decide) I2 (by omega) (by have:=d9N h120;omega)
       rw [hq];refine exI ?_;exact ⟨rfl,_,wkI⟩
      ·refine skI ?_
       refine ⟨(q - 1,r+Y / 4294967296,_),⟨rfl,I2,by have:=d9I h120;dsimp only;omega⟩,by dsimp only;omega,wkI⟩
   ·have e28:=b2Y v u0 _ Y hY0 L.Yl rfl
    have hm28:(v*4294967296+u0)%Y<Y:=e0k _ hY0;have q2l:(v*4294967296+u0) / Y<4294967296:=by
     refine e0E ?_
     have:(v+1)*4294967296<=Y*4294967296:=d9K _ hvY
     rw [e0e] at this;omega
    have k1:=b4C q1 ((v*4294967296+u0) / Y) q1l q2l;have k2:=b7x ((v*4294967296+u0)%Y) s (by omega);rw [tr.1] at k1;rw [tr.2] at k2;refine sZ 2800 ?_;refine gwI (ff3 k1 e28 k2) ?_;refine rtI ?_;exact a0a rfl IsPure.out
theorem a8S {n2 v1 P U V q:Nat}(hU:U<(n2+1)*P)(hV:v1*P<=V)(hq:n2+1<=(q+1)*v1):U<(q+1)*V:=by
 have h1:=d9K P hq;have h2:=d9X (q+1) hV;rw [d9Y] at h1;omega
theorem b0C {n3 D P U V q:Nat}(hU:U<(n3+1)*P)(hV:D*P<=V)(hq:n3<q*D):U<q*V:=by
 have h1:=d9K P (show n3+1<=q*D from hq);have h2:=d9X q hV;rw [d9Y] at h1;omega
theorem b2Q {n3 D P U V q B v:Nat}(hU:n3*P<=U)(hV:V=D*P+v)(hv:v<P)(hq:q*D<=n3)(hqB:q<=B)(hD:B<=D):q*V<=U+V:=by
 have h1:=d9K P hq;rw [d9Y] at h1;have h2:q*v<=B*P:=e1p hqB (by omega);have h3:=d9K P hD;have h4:q*V=q*(D*P)+q*v:=by rw [hV,d9M]
 omega
theorem a9z {c x s:Nat}(hs:s<=63)(hc:c<2^s)(hx:x<18446744073709551616) :
  c ||| (x*2^s%18446744073709551616)=c+x*2^s%18446744073709551616/\c+x*2^s%18446744073709551616<18446744073709551616 /\
   c+x*2^s%18446744073709551616+18446744073709551616*(x / 2^(64 - s))=c+x*2^s/\x / 2^(64 - s)<2^s:=by
 have hp:0<2^s:=e1s s;have hpp:2^(64 - s)*2^s=18446744073709551616:=by
  rw [<- e1Q,show 64 - s+s=64 by omega]
 have hl:x*2^s / 18446744073709551616=x / 2^(64 - s):=by
  rw [<- hpp,e2q _ _ hp]
 have hm:x*2^s%18446744073709551616=x%2^(64 - s)*2^s:=by
  rw [<- hpp,e2r]
 have hl2:x / 2^(64 - s)<2^s:=e0E (by rw [hpp];exact hx);have e:=e0X (x*2^s) 18446744073709551616;rw [hl] at e;have ho:c ||| (x*2^s%18446744073709551616)=c+x*2^s%18446744073709551616:=by
  rw [hm,Nat.or_comm,c0p hc,e2K]
 have hlt:c+x*2^s%18446744073709551616<18446744073709551616:=by
  rw [hm]
  have:(x%2^(64 - s)+1)*2^s<=2^(64 - s)*2^s:=d9K _ (e0k _ (e1s _))
  rw [hpp,e0e] at this;omega
 exact ⟨ho,hlt,by omega,hl2⟩
structure c1U (w out:List Nat)(s i c:Nat):Prop where
 le:i<=w.length
 len:out.length=w.length+1
 wd:Wd out
 val:a0m out=a0m (w.take i)*2^s
 at_:out[i]? = some c
 cl:c<2^s
 zero:∀ k,i<k->∀ d,out[k]? = some d->d=0
theorem c8l {w out:List Nat}{s i c x:Nat}(hs:s<=63)(hw:Wd w)(hi:i<w.length)(hx:w[i]? = some x)(I:c1U w out s i c) :
  c1U w ((out.set i (c+x*2^s%18446744073709551616)).set (i+1) (x / 2^(64 - s))) s (i+1) (x / 2^(64 - s)):=by
 have hxl:x<BB:=hw x (d9r hx);obtain ⟨_,d2,d3,d4⟩:=a9z hs I.cl hxl;obtain ⟨z,hz⟩:∃ z,out[i+1]? = some z:=⟨out[i+1]'(by have:=I.len;omega),d9t _⟩
 have hz0:=I.zero _ (e1L i) z hz;subst hz0;have s1:=a3j (d:=c+x*2^s%18446744073709551616) I.at_;have hz1:(out.set i (c+x*2^s%18446744073709551616))[i+1]? = some 0:=by rw [e0N (by omega)];exact hz
 have s2:=a3j (d:=x / 2^(64 - s)) hz1;have hbx:a0m (w.take (i+1))=a0m (w.take i)+BB^i*x:=by rw [a0U hx,a1t (i:=i) (by rw [d9J];omega)]
 have hhi:x / 2^(64 - s)<BB:=e0f (e1e _ _) hxl;refine ⟨by omega,by rw [e0i,e0i];exact I.len,(I.wd.set d2).set hhi,?_,?_,d4,fun k hk d hd=>?_⟩
 ·have e1:BB^(i+1)*(x / 2^(64 - s))=BB^i*(18446744073709551616*(x / 2^(64 - s))):=by rw [e0h,d9Y]
  have e2:BB^i*(c+x*2^s%18446744073709551616+18446744073709551616*(x / 2^(64 - s)))=BB^i*(c+x*2^s):=by rw [d3]
  rw [d9M,d9M _ c (x*2^s)] at e2;rw [hbx,e0e,<- I.val,d9Y];omega
 ·rw [e1T (by rw [e0i];have:=I.len;omega)]
 ·rw [e0N (by omega),e0N (by omega)] at hd
  exact I.zero k (by omega) d hd
def Up (w:List Nat)(s:Nat)(H:Hp)(n:Nat)(d:D)(H':Hp)(n':Nat):Prop :=
 ∃ (out:List Nat) (g:Nat),out.length=w.length+1/\Wd out/\a0m out=a0m w*2^s/\d=.osl 103 g 1 0 (w.length+1)/\H'=⟨103,g,261,1,out.map a0k⟩::H/\n<=n'
theorem b0U (w:List Nat)(s:Nat)(hs:s<=63)(hw:Wd w)(hl:w.length<4000000)(H:Hp)(n:Nat):a0z C0 221 [wL w,i64 s] H n (Up w s H n):=by
 refine a0z.walk w1 c4W rfl fun F=>?_
 unfold wL;have ew:(((w.map a0k).length:Nat):Int)=(w.length:Int):=by rw [d9s]
 have wl:IntKind.i64.wrap ((w.length:Int)+1)=((w.length+1:Nat):Int):=by rw [wI (by omega) (by omega)];omega
 have r3:List.replicate (w.length+1) (ofV (.int .u64 0))=(List.replicate (w.length+1) 0).map a0k:=by rw [e1J];rfl
 refine sR 0 ?_;refine sZ 100 ?_;refine nwI (ff3 ew wl kN) ?_;refine OkS.seq ?_;refine sZ 200 ?_;refine nwI ew ?_;obtain ⟨g,hg⟩:∃ g,g=n+1+1+1+1:=⟨_,rfl⟩
 rw [<- hg];have I0:c1U w (List.replicate (w.length+1) 0) s 0 0:=⟨d9U _,by simp,a5v _,by simp [a0m,a5u],by simp,e1s s,fun k _ d hd=>e2c (d9r hd)⟩
 refine OkS.weak ⟨[(0,.sl false 1 (w.map a0k)),(1,i64 s),(4,a1w),(5,.osl 103 g 1 0 (w.length+1)),(12,.sl false 1 (w.map a0k)),(13,i64 w.length),(14,i64 0)],⟨103,g,261,1,(List.replicate (w.length+1) 0).map a0k⟩::H,n+30⟩ (by rw [<- r3];exact wkI) ?_;refine OkS.block ?_;refine OkS.loop (α:=Nat × Nat × List Nat × Nat) (fun p=>⟨[(0,.sl false 1 (w.map a0k)),(1,i64 s),(4,a1w),(5,.osl 103 g 1 0 (w.length+1)),(12,.sl false 1 (w.map a0k)),(13,i64 w.length),(14,i64 p.1)],⟨103,g,261,1,p.2.2.1.map a0k⟩::H,p.2.2.2⟩) (fun p=>w.length - p.1)
  (fun p=>c1U w p.2.2.1 s p.1 p.2.1/\n<=p.2.2.2) (0,0,List.replicate (w.length+1) 0,n+30)
  ⟨I0,Nat.le_add_right _ _⟩ wkI ?_
 rintro ⟨i,c,o,m⟩ F ⟨I,hm⟩;dsimp only at I hm ⊢;refine sR 300 ?_;refine OkS.seq ?_;refine ifI ?_
 (refine brI (fun h15=>?_) (fun h15=>?_))<;>(try simp only [d9w,d9x] at h15)<;>(try simp only [h15])
 ·have hi:i<w.length:=by simpa using h15
  obtain ⟨x,hx⟩:∃ x,w[i]? = some x:=⟨w[i],d9t hi⟩
  have hx':=a1o hx;have hc':=a1o I.at_;have hxl:x<BB:=hw x (d9r hx);obtain ⟨d1,d2,d3,d4⟩:=a9z hs I.cl hxl;have J:=c8l hs hw hi hx I;have e5:a2d .or .u64 (c:Int) (c5R .u64 (x:Int) (s:Int))=((c+x*2^s%18446744073709551616:Nat):Int):=by
   rw [c1h x s hs,d5v _ _ (by omega) (e0k _ (by decide)),d1]
  refine skI ?_;refine OkS.seq ?_;refine OkS.block ?_;refine sR 400 ?_;refine ixI kT hx' ?_;refine stI ?_;refine OkS.seq ?_;refine d8K w1 500 [0,1,2,3,4,5,6] [7,8,9] (by kernel_rfl) ?_;refine gwI (ff4 e5 kN d9S hc') ?_;refine a0v rfl rfl ?_;refine a7J rfl rfl rfl hc' ?_;refine gwI @map_set ?_;refine OkS.seq ?_;obtain ⟨z,hz⟩:∃ z,o[i+1]? = some z:=⟨o[i+1]'(by have:=I.len;omega),d9t _⟩
  have hz0:=I.zero _ (e1L i) z hz;subst hz0;have hz1:(o.set i (c+x*2^s%18446744073709551616))[i+1]? = some 0:=by rw [e0N (by omega)];exact hz
  have hz':=a1o hz1;have wi:IntKind.i64.wrap ((i:Int)+1)=((i+1:Nat):Int):=wI (by omega) (by omega);rcases e0m s with hs0|hs0
  ·have e1:decide ((s:Int)>0)=false:=d9p (by omega)
   have hx0:x / 2^(64 - s)=0:=by rw [hs0];exact e1A hxl
   have hset:(o.set i (c+x*2^s%18446744073709551616)).set (i+1) 0=o.set i (c+x*2^s%18446744073709551616):=by
    refine e2w fun k=>?_
    rcases Nat.decEq (i+1) k with hk|hk
    ·rw [e0N hk]
    ·subst hk
     rw [e1T (by have:=(List.getElem?_eq_some_iff.1 hz1).1;exact this),hz1]
   rw [hx0,hset] at J;refine d8I w1 600 (by kernel_rfl) ?_;refine nwI e1 ?_;refine ifI ?_;refine skI ?_;refine d8I w1 800 (by kernel_rfl) ?_;refine nwI wi ?_;refine ⟨(i+1,0,o.set i (c+x*2^s%18446744073709551616),m+200),⟨J,by dsimp only;omega⟩,by dsimp only;omega,wkI⟩
  ·have e1:decide ((s:Int)>0)=true:=d9q (by omega)
   have w64:IntKind.i64.wrap (64 - (s:Int))=((64 - s:Nat):Int):=by rw [wI (by omega) (by omega)];omega
   have w640:(0:Int)<=IntKind.i64.wrap (64 - (s:Int)):=by rw [w64];omega
   have e36:=b7x x (64 - s) (by omega);refine d8I w1 600 (by kernel_rfl) ?_;refine nwI e1 ?_;refine ifI ?_;refine d8I w1 700 (by kernel_rfl) ?_;refine gwI (ff6 wi w64 e36 kN d9S hz') ?_
   try rw [map_set]
   refine d8I w1 800 (by kernel_rfl) ?_;refine nwI wi ?_;refine ⟨(i+1,x / 2^(64 - s),(o.set i (c+x*2^s%18446744073709551616)).set (i+1) (x / 2^(64 - s)),m+200),⟨J,by dsimp only;omega⟩,by dsimp only;omega,wkI⟩
 ·have hi:i=w.length:=by
   have:¬ i<w.length:=by simpa using h15
   have:=I.le
   omega
  subst hi;have hv:=I.val;rw [d9G (d9y _)] at hv;refine exI ?_;refine sR 900 ?_;refine rtI ?_;exact ⟨o,g,I.len,I.wd,hv,rfl,rfl,by omega⟩
section
variable {C:Ctx} {B F:Fra} {s:St} {rd:Option Nat} {Q:Exit->Fra->St->Prop}
theorem d8X {a b:Code}{α:Type}(S:α->St)(J:α->Prop)(h1:OkS C B rd F a s (fun e F1 s1=>a9X (F1=F/\∃ x,J x/\Wk s1 (S x)) (fun e=>Q e F1 s1) e))(h2:∀ x,J x->OkS C B rd F b (S x) Q):OkS C B rd F (.seq a b) s Q :=
 OkS.seq (h1.mono fun e F1 s1 h=>by
  cases e with
  | normal =>
   obtain ⟨h0,x,hx,h3⟩:=(show F1=F/\∃ x,J x/\Wk s1 (S x) from h)
   rw [h0];exact OkS.weak (S x) h3 (h2 x hx)
  | ret=>exact h
  | exit j=>exact h
  | goto l=>exact h
  | panic c=>exact h
  | outgrown=>exact h)
end
theorem b7f {q v c:Nat}(hq:q<BB)(hv:v<BB)(hc:c<BB) :
  (q*v%BB+c)%BB+BB*(q*v / BB+(q*v%BB+c) / BB)=q*v+c/\q*v / BB+(q*v%BB+c) / BB<BB:=by
 have hqv:q*v<=(18446744073709551616 - 1)*(18446744073709551616 - 1):=e1p (by unfold BB at hq;omega) (by unfold BB at hv;omega);have hk:(18446744073709551616 - 1)*(18446744073709551616 - 1)=340282366920938463426481119284349108225:=by decide
 rw [hk] at hqv;generalize q*v=p at *;have e1:=e0V p BB;have e2:=e0V (p%BB+c) BB;have l1:=e0k p (show BB>0 by decide);have l2:=e0k (p%BB+c) (show BB>0 by decide);unfold BB at *;generalize p / 18446744073709551616=A at *;generalize p%18446744073709551616=D at *;generalize (D+c) / 18446744073709551616=E at *;generalize (D+c)%18446744073709551616=G at *;omega
theorem a3A {l:List Nat}{i:Nat}(h:i<l.length):∃ a,l[i]? = some a:=⟨l[i],d9t h⟩
theorem d5T {l:List Nat}{k a:Nat}(hl:l.length=k+1)(ha:l[k]? = some a):a0m l=a0m (l.take k)+BB^k*a:=by
 rw [a6c ha,e0R (by omega)];simp [a0m]
theorem d7R {l:List Nat}{k a b:Nat}(hl:l.length=k+2)(ha:l[k]? = some a)(hb:l[k+1]? = some b):a0m l=a0m (l.take k)+BB^k*(a+BB*b):=by
 rw [a6c ha]
 have:l.drop (k+1)=[b]:=by
  rw [e0n (by omega),e0R (by omega)]
  congr 1
  exact (List.getElem?_eq_some_iff.1 hb).2
 rw [this];simp [a0m]
theorem d7S {l:List Nat}{k a b c:Nat}(hl:l.length=k+3)(ha:l[k]? = some a)(hb:l[k+1]? = some b)(hc:l[k+2]? = some c):a0m l=a0m (l.take k)+BB^k*(a+BB*(b+BB*c)):=by
 rw [a6c ha];have h1:=d5T (l:=l.drop (k+1)) (k:=1) (a:=c) (by rw [e0x];omega) (by rw [e1m,e1d];exact hc);have h2:(l.drop (k+1)).take 1=[b]:=by
  rw [e0n (by omega)];simp only [List.take_succ_cons,e2H]
  congr 1
  exact (List.getElem?_eq_some_iff.1 hb).2
 rw [h1,h2];simp [a0m]
structure b0d (P v:List Nat)(m p0 p1 p2 v2 v1:Nat):Prop where
 lP:P.length=m+3
 lv:v.length=m+2
 wP:Wd P
 wv:Wd v
 h0:P[m]? = some p0
 h1:P[m+1]? = some p1
 h2:P[m+2]? = some p2
 g2:v[m]? = some v2
 g1:v[m+1]? = some v1
 top:0<v1
 less:a0m P<a0m v*BB
namespace b0d
variable {P v:List Nat} {m p0 p1 p2 v2 v1:Nat} (S:b0d P v m p0 p1 p2 v2 v1)
include S
theorem valP:a0m P=a0m (P.take m)+BB^m*(p0+BB*(p1+BB*p2)):=d7S S.lP S.h0 S.h1 S.h2
theorem valv:a0m v=a0m (v.take m)+BB^m*(v2+BB*v1):=d7R S.lv S.g2 S.g1
theorem lowP:a0m (P.take m)<BB^m:=by
 have:=a3z (S.wP.take m)
 rwa [d9J,e1n (by have:=S.lP;omega)] at this
theorem lowv:a0m (v.take m)<BB^m:=by
 have:=a3z (S.wv.take m)
 rwa [d9J,e1n (by have:=S.lv;omega)] at this
theorem p0l:p0<BB:=S.wP _ (d9r S.h0)
theorem p1l:p1<BB:=S.wP _ (d9r S.h1)
theorem p2l:p2<BB:=S.wP _ (d9r S.h2)
theorem v1l:v1<BB:=S.wv _ (d9r S.g1)
theorem v2l:v2<BB:=S.wv _ (d9r S.g2)
theorem below3:a0m P<(p0+BB*(p1+BB*p2)+1)*BB^m:=by
 rw [S.valP,e0e,e2E,d9O (BB^m)]
 have:=S.lowP
 omega
theorem below2:a0m P<(p1+BB*p2+1)*BB^(m+1):=by
 have h:=S.below3;have h1:=S.p0l;generalize p1+BB*p2=t at *;have h2:(p0+BB*t+1)*BB^m<=(BB*(t+1))*BB^m:=d9K _ (by rw [d9M BB t 1];omega);have h3:(t+1)*BB^(m+1)=(BB*(t+1))*BB^m:=by rw [e0h,d9O (BB^m) BB,<- d9Y,d9O (t+1) BB]
 omega
theorem abovev:v1*BB^(m+1)<=a0m v:=by
 rw [S.valv,e0h,d9M]
 have:v1*(BB^m*BB)=BB^m*(BB*v1):=by rw [d9O v1,d9Y]
 omega
theorem abovev2:(v2+BB*v1)*BB^m<=a0m v:=by
 rw [S.valv,d9O];omega
theorem pos:0<a0m v:=e0a (e2h S.top (Nat.pow_pos (by decide))) S.abovev
theorem p2v1:p2<=v1:=by
 rcases d9H v1 p2 with h|h
 ·exfalso
  have e1:BB^(m+2)*p2<=a0m P:=by
   rw [S.valP,d9M,d9M,d9M]
   have:BB^(m+2)*p2=BB^m*(BB*(BB*p2)):=by rw [e0h,e0h,d9Y,d9Y]
   omega
  have e2:a0m v<BB^(m+1)*(v1+1):=by
   have h1:=S.lowv;have h2:=S.v2l;have e3:BB^(m+1)*(v1+1)=BB^m*(BB*v1+BB):=by rw [e0h,d9Y,d9M,e1z]
   have e4:BB^m*(v2+BB*v1+1)<=BB^m*(BB*v1+BB):=d9X _ (by omega);rw [d9M _ _ 1,e1z] at e4;rw [S.valv,e3];omega
  have e5:BB^(m+1)*(v1+1)*BB=BB^(m+2)*(v1+1):=by rw [Nat.mul_right_comm,<- e0h]
  have e6:BB^(m+2)*(v1+1)<=BB^(m+2)*p2:=d9X _ h;have e7:(a0m v)*BB<=BB^(m+1)*(v1+1)*BB:=d9K _ (e2M e2)
  have:=S.less
  omega
 ·exact h
end b0d
theorem b9D {B q v2 r c p0:Nat}(hq:q<B)(hv:v2<B)(h:0<c\/q*v2<=r*B+p0):q*v2<=(r+B*c)*B+p0:=by
 rcases h with h|h
 ·have h2:q*v2<=B*B:=e1p (by omega) (by omega)
  have h4:B*1<=B*c:=d9X _ h;have h3:B*B<=(r+B*c)*B:=d9K _ (by omega);omega
 ·have h3:r*B<=(r+B*c)*B:=d9K _ (by omega)
  omega
structure b3R (U V n2 v1 q r c:Nat):Prop where
 eq:q*v1+(r+BB*c)=n2
 up:U<(q+1)*V
 qB:q<BB
 rB:r<BB
 c1:c<=1
section
variable {P v:List Nat} {m p0 p1 p2 v2 v1:Nat} (S:b0d P v m p0 p1 p2 v2 v1)
include S
theorem b9E (h:v1<=p2):b3R (a0m P) (a0m v) (p1+BB*p2) v1 18446744073709551615 ((p1+v1+0)%BB) ((p1+v1+0) / BB):=by
 have h1:p2=v1:=Nat.le_antisymm S.p2v1 h;have h2:=S.less;have h3:=S.p1l;have h4:=S.v1l;have e:=e0V (p1+v1+0) BB;refine ⟨?_,?_,by decide,e0k _ (by decide),?_⟩
 ·rw [e,h1]
  show 18446744073709551615*v1+(p1+v1+0)=p1+18446744073709551616*v1;omega
 ·rw [d9O];exact h2
 ·have:p1+v1+0<2*BB:=by omega
  exact e2y (e0E (by rw [d9O];exact this))
theorem b4v (h:p2<v1):b3R (a0m P) (a0m v) (p1+BB*p2) v1 ((p2*BB+p1) / v1) ((p2*BB+p1)%v1) 0:=by
 have c0:p2*BB+p1=p1+BB*p2:=by rw [d9O,e2K]
 rw [c0];have e:=e0X (p1+BB*p2) v1;have l:=e0k (p1+BB*p2) S.top;have h3:=S.p1l;have h4:=S.v1l;have c1:=d9O v1 ((p1+BB*p2) / v1);refine ⟨by omega,a8S S.below2 S.abovev ?_,?_,by omega,by decide⟩
 ·rw [e0e];omega
 ·refine e0E ?_
  have:BB*(p2+1)<=BB*v1:=d9X _ h
  rw [d9M] at this;rw [d9O v1];omega
theorem b6X {q r:Nat}(G:b3R (a0m P) (a0m v) (p1+BB*p2) v1 q r 0)(h:r*BB+p0<q*v2) :
  0<q/\b3R (a0m P) (a0m v) (p1+BB*p2) v1 (q - 1) ((r+v1+0)%BB) ((r+v1+0) / BB):=by
 obtain ⟨e,u,b,rb,_⟩:=G;rcases e0m q with h0|h0
 ·subst h0;omega
 obtain ⟨k,rfl⟩:∃ k,q=k+1:=⟨q - 1,by omega⟩
 have e1:=e0V (r+v1+0) BB;have h4:=S.v1l;have e2:(k+1)*(v2+BB*v1)=(k+1)*v2+BB*((k+1)*v1):=by rw [d9M,e1B]
 have hn3:p0+BB*(p1+BB*p2)<(k+1)*(v2+BB*v1):=by
  rw [e2,<- e,d9M BB,e1g,e0W r,d9O BB r];omega
 refine ⟨by omega,⟨?_,?_,by omega,e0k _ (by decide),?_⟩⟩
 ·rw [e1P,e1,<- e,e0e];omega
 ·rw [e1P];exact b0C S.below3 S.abovev2 hn3
 ·have:r+v1+0<2*BB:=by omega
  exact e2y (e0E (by rw [d9O];exact this))
theorem b0B {q r c:Nat}(G:b3R (a0m P) (a0m v) (p1+BB*p2) v1 q r c)(h:0<c\/q*v2<=r*BB+p0):q*a0m v<=a0m P+a0m v:=by
 obtain ⟨e,u,b,rb,c1⟩:=G;have h5:=S.v2l;have hq:q*v2<=(r+BB*c)*BB+p0:=b9D b h5 h;have e2:q*(v2+BB*v1)=q*v2+BB*(q*v1):=by rw [d9M,e1B]
 refine b2Q (n3:=p0+BB*(p1+BB*p2)) (D:=v2+BB*v1) (P:=BB^m) (B:=BB) (v:=a0m (v.take m)) ?_ ?_ S.lowv ?_ (by omega) ?_
 ·rw [S.valP,d9O];omega
 ·rw [S.valv,d9O];omega
 ·rw [e2,<- e,d9M BB]
  have:BB*(r+BB*c)=(r+BB*c)*BB:=d9O _ _
  omega
 ·have:=S.top
  have h1:=d9X BB (show 1<=v1 from this);omega
end
theorem b6Y {x r p0:Nat}(hp:p0<BB):(x / BB<r\/x / BB=r/\x%BB<=p0)↔x<=r*BB+p0:=by
 have e:=e0X x BB;have l:=e0k x (show 0<BB by decide);generalize x / BB=h at *;generalize x%BB=d at *;unfold BB at *;omega
theorem a9C {U V q N:Nat}(h:N+q*V=U+0)(hu:U<(q+1)*V):U / V=q/\U%V=N:=by
 have h1:U=N+V*q:=by rw [d9O];omega
 have h2:N<V:=by rw [e0e] at hu;omega
 subst h1;exact ⟨by rw [e2R _ _ (by omega),e1A h2,d9S],by rw [e2u,e0u h2]⟩
theorem b3D {U V q N N3 T c:Nat}(h:N+q*V=U+T)(hN:N<T)(hu:q*V<=U+V)(h3:N3+T*c=N+V)(hc:c<=1)(h3l:N3<T):0<q/\U / V=q - 1/\U%V=N3:=by
 rcases e0m q with h0|h0
 ·subst h0;omega
 obtain ⟨k,rfl⟩:∃ k,q=k+1:=⟨q - 1,by omega⟩
 rw [e0e,e2E] at h hu;have hc1:c=1:=by
  rcases e0m c with h4|h4
  ·subst h4;omega
  ·omega
 subst hc1;have h5:N3+k*V=U+0:=by omega
 have h6:U<(k+1)*V:=by rw [e0e];omega
 obtain ⟨a,b⟩:=a9C h5 h6;exact ⟨by omega,by rw [a];omega,b⟩
theorem b1S {A P v:List Nat}{q i z x d b c b' c' lo:Nat}(hz:A[i]? = some z)(hx:v[i]? = some x)(hI:a0m A+q*a0m (v.take i)=a0m P+BB^i*(c+b))
  (h1:lo+BB*c'=q*x+c) (h2:d+lo+b=z+BB*b'):a0m (A.set i d)+q*a0m (v.take (i+1))=a0m P+BB^(i+1)*(c'+b'):=by
 have hs:=a3j (d:=d) hz;have hi:i<v.length:=(List.getElem?_eq_some_iff.1 hx).1;rw [a0U hx,a1t (i:=i) (by rw [d9J];omega),d9M,e1B q,e0h,d9Y];have e:BB^i*(d+q*x+(c+b))=BB^i*(z+BB*(c'+b')):=by congr 1;rw [d9M BB];omega
 rw [d9M,d9M,d9M (BB^i) z] at e;omega
theorem b1T {A P:List Nat}{i z d X b c b':Nat}(hz:A[i]? = some z)(hI:a0m A+X=a0m P+BB^i*(c+b))(h2:d+c+b=z+BB*b'):a0m (A.set i d)+X=a0m P+BB^(i+1)*b':=by
 have hs:=a3j (d:=d) hz;rw [e0h,d9Y];have e:BB^i*(d+(c+b))=BB^i*(z+BB*b'):=by congr 1;omega
 rw [d9M,d9M (BB^i) z] at e;omega
theorem a9U {A P v:List Nat}{i z x c:Nat}(hz:A[i]? = some z)(hx:v[i]? = some x)(hI:a0m A+BB^i*c=a0m P+a0m (v.take i)) :
  a0m (A.set i ((z+x+c)%BB))+BB^(i+1)*((z+x+c) / BB)=a0m P+a0m (v.take (i+1)):=by
 have hs:=a3j (d:=(z+x+c)%BB) hz;have hi:i<v.length:=(List.getElem?_eq_some_iff.1 hx).1;rw [a0U hx,a1t (i:=i) (by rw [d9J];omega),e0h,d9Y];have e:BB^i*((z+x+c)%BB+BB*((z+x+c) / BB))=BB^i*(z+x+c):=by rw [e0V]
 rw [d9M,d9M,d9M (BB^i) z] at e;omega
theorem b1g {A:List Nat}{i z c X:Nat}(hz:A[i]? = some z)(hI:a0m A+BB^i*c=X) :
  a0m (A.set i ((z+c)%BB))+BB^(i+1)*((z+c) / BB)=X:=by
 have hs:=a3j (d:=(z+c)%BB) hz;rw [e0h,d9Y];have e:BB^i*((z+c)%BB+BB*((z+c) / BB))=BB^i*(z+c):=by rw [e0V]
 rw [d9M,d9M (BB^i) z] at e;omega
theorem a8s {A P Z:List Nat}{i z:Nat}(h:P[i]? = some z):((A++(P++Z)).map a0k)[A.length+i]? = some (a0k z):=by
 have hi:i<P.length:=(List.getElem?_eq_some_iff.1 h).1;refine a1o ?_;rw [e0b (by omega),e1y,e0g hi];exact h
theorem b1Q {A P Z:List Nat}{i d:Nat}(hi:i<P.length):((A++(P++Z)).map a0k).set (A.length+i) (a0k d)=(A++(P.set i d++Z)).map a0k:=by
 rw [map_set,e2J _ _ (by omega),e1y,List.set_append_left _ _ hi]
set_option maxHeartbeats 2000000
def c6k (A P Z v:List Nat)(gq Tq gu:Nat)(qs:List D)(d:D)(H':Hp)(_:Nat):Prop :=
 ∃ P':List Nat,P'.length=P.length/\Wd P'/\a0m P'=a0m P%a0m v/\d=a0k (a0m P / a0m v)/\H'=[⟨1505,gq,Tq,1,qs⟩,⟨103,gu,261,1,(A++(P'++Z)).map a0k⟩]
theorem c8c (A P Z v:List Nat)(m p0 p1 p2 v2 v1:Nat)(S:b0d P v m p0 p1 p2 v2 v1)(hm:A.length+m<4000000)(gq Tq gu:Nat)(qs:List D)(n:Nat) :
  a0z C0 222 [.osl 103 gu 1 A.length (m+3),wL v] [⟨1505,gq,Tq,1,qs⟩,⟨103,gu,261,1,(A++(P++Z)).map a0k⟩] n (c6k A P Z v gq Tq gu qs):=by
 refine a0z.walk w1 c4X rfl fun F=>?_
 unfold wL;have hPl:=S.lP;have hvl:=S.lv;have ev:(((v.map a0k).length:Nat):Int)=((m+2:Nat):Int):=by rw [d9s,hvl]
 have k1:IntKind.i64.wrap (((m+2:Nat):Int) - 1)=((m+1:Nat):Int):=by rw [wI (by omega) (by omega)];omega
 have k2:IntKind.i64.wrap (((m+2:Nat):Int) - 2)=(m:Int):=by rw [wI (by omega) (by omega)];omega
 have hp0:=a8s (A:=A) (Z:=Z) S.h0;have hp1:=a8s (A:=A) (Z:=Z) S.h1;have hp2:=a8s (A:=A) (Z:=Z) S.h2;have hv1:=a1o S.g1;have hv2:=a1o S.g2;have l0:=S.p0l;have l1:=S.p1l;have l2:=S.p2l;have lv1:=S.v1l;have lv2:=S.v2l;refine sR 0 ?_;refine sZ 100 ?_;refine nwI ev ?_;refine sR 200 ?_;refine sR 300 ?_;refine d8X (α:=Nat × Nat × Nat × Nat) (fun p=>⟨[(0,.osl 103 gu 1 A.length (m+3)),(1,.sl false 1 (v.map a0k)),(5,i64 ((m+2:Nat):Int)),(6,a0k p.1),(7,a0k p.2.1),(8,a0k p.2.2.1)],[⟨1505,gq,Tq,1,qs⟩,⟨103,gu,261,1,(A++(P++Z)).map a0k⟩],p.2.2.2⟩)
  (fun p=>b3R (a0m P) (a0m v) (p1+BB*p2) v1 p.1 p.2.1 p.2.2.1) ?_ ?_
 ·refine OkS.seq ?_
  refine d8K w1 400 [0,1,2,3,4,5,6,7,8] [9] (by kernel_rfl) ?_;refine gwI (ff3 kN k1 hp2) ?_;refine ixI kT hv1 ?_;refine gwI (ff3 kN k1 hp2) ?_;rcases d9H p2 v1 with h|h
  ·have e1:decide ((p2:Int)>=(v1:Int))=false:=d9p (by omega)
   have G:=b4v S h;rw [e1];refine ifI ?_;refine d8K w1 700 [0,1,2,3,4,5,6,7,8,9,10,11,12,13,14,15,16,17,18] [19] (by kernel_rfl) ?_;refine gwI (ff4 kN k1 hp2 hp1) ?_;refine ixI kT hv1 ?_;refine gwI (ff4 kN k1 hp2 hp1) ?_;refine a0q.same _ (b5q p2 p1 v1 h l1 lv1) d9k ?_;refine stI ?_;exact ⟨trivial,⟨(p2*BB+p1) / v1,(p2*BB+p1)%v1,0,_⟩,G,wkI⟩
  ·have e1:decide ((p2:Int)>=(v1:Int))=true:=d9q (by omega)
   have G:=b9E S h;rw [e1];refine ifI ?_;refine sR 500 ?_;refine d8K w1 600 [0,1,2,3,4,5,6,7,8,9,10,11,12,13,14] [15] (by kernel_rfl) ?_;refine gwI (ff4 kN k1 hp2 hp1) ?_;refine ixI kT hv1 ?_;refine gwI (ff4 kN k1 hp2 hp1) ?_;exact ⟨trivial,⟨18446744073709551615,(p1+v1+0)%BB,(p1+v1+0) / BB,_⟩,G,wkI⟩
 rintro ⟨q0,r0,c0,n0⟩ G0;dsimp only at G0 ⊢;refine d8X (α:=Nat × Nat) (fun p=>⟨[(0,.osl 103 gu 1 A.length (m+3)),(1,.sl false 1 (v.map a0k)),(5,i64 ((m+2:Nat):Int)),(6,a0k p.1)],[⟨1505,gq,Tq,1,qs⟩,⟨103,gu,261,1,(A++(P++Z)).map a0k⟩],p.2⟩)
  (fun p=>p.1<BB/\a0m P<(p.1+1)*a0m v/\p.1*a0m v<=a0m P+a0m v) ?_ ?_
 ·refine OkS.block ?_
  refine d8H (α:=Nat × Nat × Nat × Nat) (fun p=>⟨[(0,.osl 103 gu 1 A.length (m+3)),(1,.sl false 1 (v.map a0k)),(5,i64 ((m+2:Nat):Int)),(6,a0k p.1),(7,a0k p.2.1),(8,a0k p.2.2.1)],[⟨1505,gq,Tq,1,qs⟩,⟨103,gu,261,1,(A++(P++Z)).map a0k⟩],p.2.2.2⟩)
   (fun p=>p.1) (fun p F'=>F'=F/\b3R (a0m P) (a0m v) (p1+BB*p2) v1 p.1 p.2.1 p.2.2.1) (q0,r0,c0,n0) ⟨rfl,G0⟩ wkI ?_
  rintro ⟨q,r,c,n1⟩ F' ⟨rfl,G⟩;dsimp only at G ⊢;refine OkS.seq ?_;refine OkS.seq ?_;rcases e0m c with hc|hc
  ·subst hc
   have e8:(((0:Nat):Int)==0)=true:=rfl;refine d8I w1 800 (by kernel_rfl) ?_;refine nwI e8 ?_;refine ifI ?_;refine skI ?_;refine OkS.block ?_;have lq:=G.qB;have cm:=a5p q v2 lq lv2;refine sZ 900 ?_;refine gwI (ff2 kN k2) ?_;refine ixI kT hv2 ?_;refine gwI (ff2 kN k2) ?_;refine a0j.same _ cm d9k ?_;refine stI ?_;have ht:=b6Y (x:=q*v2) (r:=r) l0;obtain ⟨b,hb⟩:∃ b:Bool,b=decide (q*v2<=r*BB+p0):=⟨_,rfl⟩
   refine OkS.seq ?_;refine d8V ⟨[(0,.osl 103 gu 1 A.length (m+3)),(1,.sl false 1 (v.map a0k)),(5,i64 ((m+2:Nat):Int)),(6,a0k q),(7,a0k r),(91,boo b)],[⟨1505,gq,Tq,1,qs⟩,⟨103,gu,261,1,(A++(P++Z)).map a0k⟩],n1+100⟩ ?_ ?_
   ·change (q*v2 / 18446744073709551616<r\/q*v2 / 18446744073709551616=r/\q*v2%18446744073709551616<=p0)↔_ at ht
    generalize q*v2 / 18446744073709551616=hi at *;generalize q*v2%18446744073709551616=lo at *;rcases d9H hi r with h|h
    ·have e1:decide ((hi:Int)<(r:Int))=true:=d9q (by omega)
     have hb1:b=true:=by rw [hb];exact d9q (ht.1 (.inl h))
     subst hb1;refine d8I w1 1000 (by kernel_rfl) ?_;refine gwI e1 ?_;refine gwI kT ?_;exact And.intro (by trivial) (wkI)
    ·have e1:decide ((hi:Int)<(r:Int))=false:=d9p (by omega)
     rcases Nat.eq_or_lt_of_le h with h2|h2
     ·have e2:((hi:Int)==(r:Int))=true:=e1i.2 (by omega)
      have e3:decide ((lo:Int)<=(p0:Int))=b:=by
       rw [hb];exact e0C.2 ⟨fun h3=>ht.1 (.inr ⟨h2.symm,by omega⟩),fun h3=>by rcases ht.2 h3 with h4|h4<;>omega⟩
      refine d8I w1 1000 (by kernel_rfl) ?_;refine gwI e1 ?_;refine gwI (ff2 kF e2) ?_;refine gwI (ff6 kF e2 kN k2 hp0 e3) ?_;exact And.intro (by trivial) (wkI)
     ·have e2:((hi:Int)==(r:Int))=false:=d9D.2 (by omega)
      have hb1:b=false:=by rw [hb];exact d9p fun h3=>by rcases ht.2 h3 with h4|h4<;>omega
      subst hb1;refine d8I w1 1000 (by kernel_rfl) ?_;refine gwI e1 ?_;refine gwI kF ?_;simp only [e2];refine gwI (ff2 kF e1k) ?_;exact And.intro (by trivial) (wkI)
   ·cases b
    ·have hn:=d9I hb.symm
     obtain ⟨hq0,G2⟩:=b6X S G (by omega);have j1:IntKind.u64.wrap ((q:Int) - 1)=((q - 1:Nat):Int):=by rw [wU (by omega) (by have:=G.qB;unfold BB at this;omega)];omega
     refine ifI ?_;refine skI ?_;refine sZ 1100 ?_;refine nwI j1 ?_;refine d8I w1 1200 (by kernel_rfl) ?_;refine gwI (ff2 kN k1) ?_;refine ixI kT hv1 ?_;refine gwI (ff2 kN k1) ?_;exact ⟨(q - 1,(r+v1+0)%BB,(r+v1+0) / BB,_),⟨trivial,G2⟩,by dsimp only;omega,wkI⟩
    ·have hn:=d9N hb.symm
     refine ifI ?_;refine exI ?_;exact ⟨rfl,⟨q,_⟩,⟨G.qB,G.up,b0B S G (.inr hn)⟩,wkI⟩
  ·have e8:((c:Int)==0)=false:=d9D.2 (by omega)
   refine d8I w1 800 (by kernel_rfl) ?_;refine nwI e8 ?_;refine ifI ?_;refine exI ?_;exact ⟨rfl,⟨q,_⟩,⟨G.qB,G.up,b0B S G (.inl hc)⟩,wkI⟩
 rintro ⟨q,n1⟩ ⟨hq,hup,hdn⟩;dsimp only at hq hup hdn ⊢;clear hp0 hp1 hp2;refine sR 1300 ?_;refine OkS.seq ?_;refine sR 1400 ?_;refine OkS.block ?_;refine OkS.loop (α:=Nat × Nat × Nat × List Nat × Nat) (fun p=>⟨[(0,.osl 103 gu 1 A.length (m+3)),(1,.sl false 1 (v.map a0k)),(5,i64 ((m+2:Nat):Int)),(6,a0k q),(11,a0k p.2.1),(12,a0k p.2.2.1),(104,i64 ((m+2:Nat):Int)),(105,i64 p.1)],[⟨1505,gq,Tq,1,qs⟩,⟨103,gu,261,1,(A++(p.2.2.2.1++Z)).map a0k⟩],p.2.2.2.2⟩) (fun p=>m+2 - p.1)
  (fun p=>p.1<=m+2/\p.2.1<=1/\p.2.2.1<BB/\p.2.2.2.1.length=m+3/\Wd p.2.2.2.1/\a0m p.2.2.2.1+q*a0m (v.take p.1)=a0m P+BB^p.1*(p.2.2.1+p.2.1)) (0,0,0,P,_) ⟨d9U _,d9U _,(show 0<BB by decide),hPl,S.wP,by simp [a0m]⟩ wkI ?_
 rintro ⟨i,b,c,p,n2⟩ F ⟨hi,hb,hc,hpl,hpw,hI⟩;dsimp only at hi hb hc hpl hpw hI ⊢;have hv1':=hv1;clear hv1 hv2;refine sR 1500 ?_;refine OkS.seq ?_;refine ifI ?_
 (refine brI (fun hlt=>?_) (fun hlt=>?_))<;>(try simp only [d9w,d9x] at hlt)<;>(try simp only [hlt])
 ·have hi2:i<m+2:=by
   have:=d9N hlt
   omega
  obtain ⟨x,hx⟩:=a3A (l:=v) (i:=i) (by omega);have hx':=a1o hx;have hxl:x<BB:=S.wv x (d9r hx);obtain ⟨z,hz⟩:=a3A (l:=p) (i:=i) (by omega);have hz':=a8s (A:=A) (Z:=Z) hz;have hzl:z<BB:=hpw z (d9r hz);have cm:=a5p q x hq hxl;have md:=b7f hq hxl hc;obtain ⟨h,l,lo,k,c',eh,el,elo,ek,ec,hlo,hc',hmd⟩:∃ h l lo k c',q*x / 18446744073709551616=h/\q*x%18446744073709551616=l/\(l+c+0)%18446744073709551616=lo/\(l+c+0) / 18446744073709551616=k/\h+k=c'/\lo<BB/\c'<BB/\lo+BB*c'=q*x+c :=
   ⟨_,_,_,_,_,rfl,rfl,rfl,rfl,rfl,e0k _ (by decide),md.2,md.1⟩
  rw [eh,el] at cm;have j1:IntKind.u64.wrap ((h:Int)+(k:Int))=(c':Int):=by rw [<- Int.natCast_add,ec];exact wU' hc'
  have hsub:=b1R (a:=z) (b:=lo) hb;have hdig:=a9D hzl hlo hb;have hb':(if z<lo+b then 1 else 0)<=1:=by split<;>decide
  have hd:(z+BB - lo - b)%BB<BB:=e0k _ (by decide);generalize (if z<lo+b then 1 else 0)=b' at *;generalize (z+BB - lo - b)%BB=d at *;have wi:IntKind.i64.wrap ((i:Int)+1)=((i+1:Nat):Int):=wI (by omega) (by omega);refine skI ?_;refine OkS.seq ?_;refine OkS.block ?_;refine sR 1600 ?_;refine sZ 1700 ?_;refine gwI kN ?_;refine ixI kT hx' ?_;refine gwI kN ?_;refine a0j.same _ cm d9k ?_;refine stI ?_;refine sR 1800 ?_;refine sZ 1900 ?_;refine nwI (ff2 elo ek) ?_;refine sZ 2000 ?_;refine nwI j1 ?_;refine d8I w1 2100 (by kernel_rfl) ?_;refine gwI (ff2 kN hz') ?_
  first|(refine a0v rfl rfl ?_;refine b1Z rfl rfl (hsub) ?_)|(refine a0B rfl rfl ?_;refine a9L rfl rfl (hsub) ?_)
  refine gwI (ff2 kN hz') ?_;rw [b1Q (by omega)];refine d8I w1 2200 (by kernel_rfl) ?_;refine nwI wi ?_;exact ⟨(i+1,b',c',p.set i d,_),⟨hi2,hb',hc',by dsimp only;rw [e0i];exact hpl,hpw.set hd,b1S hz hx hI hmd hdig⟩,by dsimp only;omega,wkI⟩
 ·have hi2:i=m+2:=by
   have:=d9I hlt
   omega
  subst hi2;rw [d9G (by omega)] at hI;obtain ⟨z,hz⟩:=a3A (l:=p) (i:=m+2) (by omega);have hz':=a8s (A:=A) (Z:=Z) hz;have hzl:z<BB:=hpw z (d9r hz);have hsub:=b1R (a:=z) (b:=c) hb;have hdig:=a9D hzl hc hb;have hb':(if z<c+b then 1 else 0)<=1:=by split<;>decide
  have hd:(z+BB - c - b)%BB<BB:=e0k _ (by decide);generalize (if z<c+b then 1 else 0)=b' at *;generalize (z+BB - c - b)%BB=d at *;have hT:=b1T hz hI hdig;have hml:m+2<p.length:=by omega
  refine exI ?_;refine sZ 2300 ?_;refine gwI (ff2 kN hz') ?_
  first|(refine a0v rfl rfl ?_;refine b1Z rfl rfl (hsub) ?_)|(refine a0B rfl rfl ?_;refine a9L rfl rfl (hsub) ?_)
  refine gwI (ff2 kN hz') ?_;rw [b1Q hml];have hpl2:(p.set (m+2) d).length=m+3:=by rw [e0i];exact hpl
  have hpw2:=hpw.set (i:=m+2) hd;clear hz' hz hdig hsub hI;generalize p.set (m+2) d=p2 at *;refine OkS.seq ?_;refine OkS.seq ?_;rcases e0m b' with hb0|hb0
  ·subst hb0
   have e24:(((0:Nat):Int)==0)=true:=rfl;obtain ⟨ed,em⟩:=a9C hT hup;refine d8I w1 2400 (by kernel_rfl) ?_;refine nwI e24 ?_;refine ifI ?_;refine sR 2500 ?_;refine rtI ?_;exact ⟨p2,by omega,hpw2,em.symm,by rw [ed],rfl⟩
  ·have hb1:b'=1:=by omega
   subst hb1;have e24:(((1:Nat):Int)==0)=false:=rfl;have hpL:=a3z hpw2;rw [hpl2] at hpL;refine d8I w1 2400 (by kernel_rfl) ?_;refine nwI e24 ?_;refine ifI ?_;refine skI ?_;refine sR 2600 ?_;refine OkS.seq ?_;refine sR 2700 ?_;refine OkS.block ?_;refine OkS.loop (α:=Nat × Nat × List Nat × Nat) (fun p=>⟨[(0,.osl 103 gu 1 A.length (m+3)),(1,.sl false 1 (v.map a0k)),(5,i64 ((m+2:Nat):Int)),(6,a0k q),(17,a0k p.2.1),(156,i64 ((m+2:Nat):Int)),(157,i64 p.1)],[⟨1505,gq,Tq,1,qs⟩,⟨103,gu,261,1,(A++(p.2.2.1++Z)).map a0k⟩],p.2.2.2⟩) (fun p=>m+2 - p.1)
    (fun p=>p.1<=m+2/\p.2.1<=1/\p.2.2.1.length=m+3/\Wd p.2.2.1/\a0m p.2.2.1+BB^p.1*p.2.1=a0m p2+a0m (v.take p.1)) (0,0,p2,_) ⟨d9U _,d9U _,hpl2,hpw2,by simp [a0m]⟩ wkI ?_
   rintro ⟨i,c3,p3,n3⟩ F ⟨hi,hc3,hpl3,hpw3,hI⟩;dsimp only at hi hc3 hpl3 hpw3 hI ⊢;refine sR 2800 ?_;refine OkS.seq ?_;refine ifI ?_
   (refine brI (fun hlt=>?_) (fun hlt=>?_))<;>(try simp only [d9w,d9x] at hlt)<;>(try simp only [hlt])
   ·have hi2:i<m+2:=by
     have:=d9N hlt
     omega
    obtain ⟨x,hx⟩:=a3A (l:=v) (i:=i) (by omega);have hx':=a1o hx;have hxl:x<BB:=S.wv x (d9r hx);obtain ⟨z,hz⟩:=a3A (l:=p3) (i:=i) (by omega);have hz':=a8s (A:=A) (Z:=Z) hz;have hzl:z<BB:=hpw3 z (d9r hz);have hadd:=b5d (a:=z) (b:=x) hc3;have J:=a9U hz hx hI;have hs:(z+x+c3)%BB<BB:=e0k _ (by decide);have hc':(z+x+c3) / BB<=1:=by
     have:z+x+c3<2*BB:=by omega
     exact e2y (e0E (by rw [d9O];exact this))
    generalize (z+x+c3)%BB=d at *;generalize (z+x+c3) / BB=c' at *;have wi:IntKind.i64.wrap ((i:Int)+1)=((i+1:Nat):Int):=wI (by omega) (by omega);refine skI ?_;refine OkS.seq ?_;refine OkS.block ?_;refine sR 2900 ?_;refine d8R w1 3000 [0,1,2,3,4,5,6,7,8,9,10,11,12,13,14,15,16] [17] 16 [12,10,9,8,7,6,5,4,3,2,1,0,11,13,15] (103) (by kernel_rfl) (by kernel_rfl) ?_;refine dsI ?_;refine gvI (ff2 kN hz') ?_;refine a0N rfl rfl rfl rfl ?_;refine a2Z (fun _ _=>rfl) (by exact sdI) ⟨rfl,by omega⟩ hx' ?_
    try dsimp only [D.cells,spot]
    refine gvI (ff2 kN hz') ?_;refine a0N rfl rfl rfl rfl ?_;refine a9L rfl rfl hadd ?_;refine gvI (ff2 kN hz') ?_;refine And.intro (by first|exact Or.inl d9j|exact Or.inl rfl) ?_;refine gwI kN ?_;rw [b1Q (by omega)];refine d8I w1 3100 (by kernel_rfl) ?_;refine nwI wi ?_;exact ⟨(i+1,c',p3.set i d,_),⟨hi2,hc',by dsimp only;rw [e0i];exact hpl3,hpw3.set hs,J⟩,by dsimp only;omega,wkI⟩
   ·have hi2:i=m+2:=by
     have:=d9I hlt
     omega
    subst hi2;rw [d9G (l:=v) (by omega)] at hI;obtain ⟨z,hz⟩:=a3A (l:=p3) (i:=m+2) (by omega);have hz':=a8s (A:=A) (Z:=Z) hz;have hzl:z<BB:=hpw3 z (d9r hz);have J:=b1g hz hI;have hs:(z+c3)%BB<BB:=e0k _ (by decide);have hc':(z+c3) / BB<=1:=by
     have:z+c3<2*BB:=by omega
     exact e2y (e0E (by rw [d9O];exact this))
    have j1:IntKind.u64.wrap ((z:Int)+(c3:Int))=(((z+c3)%BB:Nat):Int):=by rw [<- Int.natCast_add];exact a2k _
    generalize (z+c3)%BB=d at *;generalize (z+c3) / BB=c' at *;have hml:m+2<p3.length:=by omega
    have hpl4:(p3.set (m+2) d).length=m+3:=by rw [e0i];exact hpl3
    have hpw4:=hpw3.set (i:=m+2) hs;have hpL4:=a3z hpw4;rw [hpl4] at hpL4;obtain ⟨q0p,ed,em⟩:=b3D (by rw [e1z] at hT;exact hT) hpL hdn J hc' hpL4;have j2:IntKind.u64.wrap ((q:Int) - 1)=((q - 1:Nat):Int):=by rw [wU (by omega) (by unfold BB at hq;omega)];omega
    refine exI ?_;refine sZ 3200 ?_;refine gwI (ff3 kN hz' j1) ?_;rw [b1Q hml];refine sZ 3300 ?_;refine nwI j2 ?_;refine rtI ?_;exact ⟨p3.set (m+2) d,by omega,hpw4,em.symm,by rw [ed],rfl⟩
theorem a0z.toP {C:Ctx}{f:Nat}{args:List D}{Φ:D->Hp->Nat->Prop}{Ψ:D->Prop}(h:a0z C f args [] 0 Φ)(k:∀ d H n,Φ d H n->∃ d',Fz H [] d d'/\a2n d'/\Ψ d'):a0c C f args Ψ:=by
 refine ⟨h.1,fun Y w vs hG hnG hX' hvs hr=>?_⟩
 let F0:Fra:=⟨w,Y,fun _=>False,0,nol,[]⟩
 have m0:Mem C F0 nol [] w:=⟨⟨by simp,.nil,by simp⟩,rfl,rfl,rfl,d9y _,fun _ _ _=>rfl,hX',hG,hnG,by simp [F0],fun _ _ _ h=>h,fun _ cs _ _ h=>⟨cs,_,h,rfl⟩⟩
 have hoe:Own F0.X nol []=Y:=funext fun b=>propext (by simp [Own,F0])
 refine (h.2 F0 nol w vs m0 (fun _ _ _=>rfl) (by simp) hvs (fun i d hd=>by rw [hoe];exact hr i d hd)).mono ?_;rintro e w' ⟨v,d,H',n',ρ',rfl,hΦ,m,x,fr,g,r⟩;obtain ⟨d',h3,h4,h5⟩:=k d H' n' hΦ;have hH:FzH H' [] H' []:=by
  generalize H'=H0
  have:∀ H1:Hp,FzH H0 [] H1 []:=fun H1=>by
   induction H1 with
   | nil=>exact .nil
   | cons e r ih=>exact .drop ih
  exact this H0
 obtain ⟨m2,hO,hN⟩:=hH.mem m;have r3:=h3.rep m hO hN r;have r4:=h4 _ nol _ _ _ r3;exact ⟨v,d',rfl,⟨m.os,m.tape,m.output,m.size,fun b hb=>m.blk b hb (by simp [F0])⟩,h5,r4.anti fun b hb=>.inl hb⟩
theorem c5s {H Hf:Hp}{a a' b b':D}(h1:Fz H Hf a a')(h2:Fz H Hf b b'):Fz H Hf (.tup [a,b]) (.tup [a',b']) :=
 .tup rfl fun i d d' hd hd'=>by
  match i with
  | 0=>simp at hd hd';subst hd;subst hd';exact h1
  | 1=>simp at hd hd';subst hd;subst hd';exact h2
  | i+2=>simp at hd
theorem b6d {a b:D}(h1:a2n a)(h2:a2n b):a2n (.tup [a,b]):=a2n.tup fun d hd=>by
 simp only [d9F,e0j,or_false] at hd;rcases hd with rfl|rfl
 ·exact h1
 ·exact h2
theorem b4r (K g T:Nat)(l l':List Nat)(h:l.take l'.length=l'):Fz [⟨K,g,T,1,l.map a0k⟩] [] (.osl K g 1 0 l'.length) (wL l'):=by
 have hll:l'.length<=l.length:=by
  have:=congrArg List.length h
  rw [d9J] at this;omega
 have key:∀ (j:Nat) (d d':D),(l.map a0k)[0+j]? = some d->(l'.map a0k)[j]? = some d'->d=d':=fun j d d' h1 h2=>by
  rw [<- h,d9E,e0K] at h2;rw [d9S,d9E] at h1;split at h2
  ·rw [h1] at h2;exact e1K h2
  ·simp at h2
 refine .osl (e:=⟨K,g,T,1,l.map a0k⟩) (by simp [Hp.get]) rfl rfl rfl (by simp;exact hll) (by simp) (fun j d d' h1 h2=>by rw [key j d d' h1 h2]) fun j d d' q c c' h1 h2 h3 h4=>?_
 rw [key j d d' h1 h2] at h3;rw [h3] at h4;cases h4;exact Fz.refl _
theorem c8o:wD 0=.sl false 1 []:=by unfold wD;rw [a0W];rfl
theorem c1g (w:List Nat)(s:Nat)(hs:s<=63)(hw:Wd w)(hl:w.length<4000000):a0c C0 221 [wL w,i64 s] (fun d=>∃ out:List Nat,out.length=w.length+1/\Wd out/\a0m out=a0m w*2^s/\d=wL out) :=
 (b0U w s hs hw hl [] 0).toP fun d H n ⟨out,g,h1,h2,h3,h4,h5,_⟩=>by
  subst h4;subst h5;refine ⟨wL out,?_,a4X _,out,h1,h2,h3,rfl⟩
  have:=b4r 103 g 261 out out (by simp)
  rw [h1] at this;exact this
theorem b9P {n k:Nat}(h1:BB^k<=n)(h2:n<BB^(k+1)):(a0h n).length=k+1:=by
 have h3:=a1b h2;have h4:=e0f h1 (a3g n);have h5:=(Nat.pow_lt_pow_iff_right (show 1<BB by decide)).1 h4;omega
theorem a8X:∀ (n:Nat) {k a:Nat},(a0h n).length=k+1->(a0h n)[k]? = some a->a≠0:=fun n=>by
 induction n using Nat.strongRecOn with
 | ind n ih =>
  intro k a h1 h2
  by_cases h0:n=0
  ·subst h0;rw [a0W] at h1;cases h1
  ·rw [a1E h0] at h1 h2
   rw [d9u] at h1;have h3:=Nat.succ.inj h1;cases k with
   | zero =>
    have h4:a0h (n / BB)=[]:=e0d h3;have h5:n / BB=0:=by rw [<- a0V (n / BB),h4];rfl
    have h6:=e0V n BB;rw [h5] at h6;simp at h2;intro h7;subst h7;rw [h2] at h6;omega
   | succ k =>
    rw [e1l] at h2;exact ih _ (e1F (e0r h0) (by decide)) h3 h2
theorem b5L {n k:Nat}(h:(a0h n).length=k+1):BB^k<=n:=by
 obtain ⟨a,ha⟩:=a3A (l:=a0h n) (i:=k) (by omega);have h1:=a8X n h ha;have h2:=d5T h ha;rw [a0V] at h2;have h3:=d9X (BB^k) (show 1<=a by omega);omega
theorem d3v {b m y s:Nat}(hs:s<=63)(hl:(a0h b).length=m+1)(hy:(a0h b)[m]? = some y)(h:y*2^s<BB):(a0h (b*2^s)).length=m+1:=by
 have hp:0<2^s:=e1s s;have hpp:2^(64 - s)*2^s=BB:=by rw [<- e1Q,show 64 - s+s=64 by omega]
 have h1:y<2^(64 - s):=by
  rw [<- hpp] at h;exact Nat.lt_of_mul_lt_mul_right h
 refine b9P ?_ ?_
 ·have:=b5L hl
  exact d9V this (Nat.le_mul_of_pos_right _ hp)
 ·have h2:=d5T hl hy
  have h3:=a3z ((a1K b).take m);rw [d9J,hl,e1n (by omega)] at h3;rw [a0V] at h2;have h4:b<BB^m*(y+1):=by rw [d9M,e1z];omega
  have h5:BB^m*(y+1)<=BB^m*2^(64 - s):=d9X _ h1;have h6:b*2^s<BB^m*2^(64 - s)*2^s:=e2g (e0a h4 h5) hp;rw [d9Y,hpp] at h6;exact h6
theorem b5w {l:List Nat}{j a:Nat}(h:l[j]? = some a):a0m (l.drop j)=a+BB*a0m (l.drop (j+1)):=by
 have hj:j<l.length:=(List.getElem?_eq_some_iff.1 h).1;rw [e0n hj,(List.getElem?_eq_some_iff.1 h).2];rfl
theorem a8h {l:List Nat}{j a:Nat}(h:j<l.length):(l.set j a).drop j=a::l.drop (j+1):=by
 rw [e0n (by rw [e0i];exact h)]
 congr 1
 ·exact List.getElem_set_self _
 ·rw [List.drop_set_of_lt (by omega)]
theorem b6I {a q:List Nat}{j x b rest:Nat}(hb:0<b)(hx:a[j]? = some x)(hj:j<q.length)(hI:a0m (q.drop (j+1))*b+rest=a0m (a.drop (j+1))) :
  a0m ((q.set j ((rest*BB+x) / b)).drop j)*b+(rest*BB+x)%b=a0m (a.drop j)/\(rest*BB+x)%b<b:=by
 refine ⟨?_,e0k _ hb⟩;rw [a8h hj,b5w hx,<- hI,a0m];have e:=e0X (rest*BB+x) b;rw [e0e,d9M BB,d9Y BB,d9O BB rest,d9O _ b];omega
theorem a6E {q b r a:Nat}(h:q*b+r=a)(hr:r<b):q=a / b/\r=a%b:=by
 subst h;rw [d9O];exact ⟨by rw [Nat.mul_add_div (by omega),e1A hr,e0W],by rw [Nat.mul_add_mod,e0u hr]⟩
structure a8n (X:Nat)(v U q:List Nat)(lu lq k:Nat):Prop where
 lU:U.length=lu
 lQ:q.length=lq
 wU:Wd U
 wq:Wd q
 val:BB^k*a0m (q.drop k)*a0m v+a0m U=X
 less:a0m (U.drop k)<a0m v
theorem d6f {U:List Nat}(j n:Nat):U=U.take j++((U.drop j).take n++U.drop (j+n)):=by
 rw [<- List.drop_drop,e0H,e0H]
theorem c2r {X:Nat}{v U q:List Nat}{lu lq j m:Nat}(I:a8n X v U q lu lq (j+1))(hv:v.length=m+2)(wv:Wd v)(v1 v2:Nat)(h2:v[m]? = some v2)(h1:v[m+1]? = some v1)(ht:0<v1)(hj:j+(m+3)<=lu) :
  ∃ p0 p1 p2,b0d ((U.drop j).take (m+3)) v m p0 p1 p2 v2 v1/\a0m (U.drop (j+(m+3)))=0/\a0m ((U.drop j).take (m+3))=a0m (U.drop j):=by
 obtain ⟨lU,lQ,wU,wq,val,less⟩:=I;obtain ⟨x,hx⟩:=a3A (l:=U) (i:=j) (by omega);have hxl:=wU x (d9r hx);have e1:=b5w hx;have hlt:a0m (U.drop j)<a0m v*BB:=by
  have:BB*(a0m (U.drop (j+1))+1)<=BB*a0m v:=d9X _ less
  rw [d9M,d9O BB (a0m v)] at this;omega
 have hPl:((U.drop j).take (m+3)).length=m+3:=by rw [d9J,e0x];omega
 have e2:a0m (U.drop j)=a0m ((U.drop j).take (m+3))+BB^(m+3)*a0m (U.drop (j+(m+3))):=by
  conv=>lhs;rw [<- e0H (m+3) (U.drop j)]
  rw [a1X,hPl,List.drop_drop]
 have hvl:=a3z wv;rw [hv] at hvl;have hz:a0m (U.drop (j+(m+3)))=0:=by
  rcases e0m (a0m (U.drop (j+(m+3)))) with h|h
  ·exact h
  ·exfalso
   have e3:BB^(m+3)*1<=BB^(m+3)*a0m (U.drop (j+(m+3))):=d9X _ h;have e4:a0m v*BB<=BB^(m+2)*BB:=d9K _ (e2M hvl);have e5:BB^(m+2)*BB=BB^(m+3):=(e0h BB (m+2)).symm;rw [e5] at e4;omega
 rw [hz,e1g,e0W] at e2;obtain ⟨p0,h0⟩:=a3A (l:=(U.drop j).take (m+3)) (i:=m) (by omega);obtain ⟨p1,h3⟩:=a3A (l:=(U.drop j).take (m+3)) (i:=m+1) (by omega);obtain ⟨p2,h4⟩:=a3A (l:=(U.drop j).take (m+3)) (i:=m+2) (by omega);exact ⟨p0,p1,p2,⟨hPl,hv,fun a ha=>wU a (e1I (e1R ha)),wv,h0,h3,h4,h2,h1,ht,by rw [<- e2];exact hlt⟩,hz,e2.symm⟩
theorem c2q {X:Nat}{v U q P':List Nat}{lu lq j m:Nat}(I:a8n X v U q lu lq (j+1))(hv:0<a0m v)(hj:j+(m+3)<=lu)(hjq:j<lq)(hz:a0m (U.drop (j+(m+3)))=0)(hP:a0m ((U.drop j).take (m+3))=a0m (U.drop j))
  (h1:P'.length=m+3) (h2:Wd P') (h3:a0m P'=a0m ((U.drop j).take (m+3))%a0m v) (hd:a0m ((U.drop j).take (m+3)) / a0m v<BB) :
  a8n X v (U.take j++(P'++U.drop (j+(m+3)))) (q.set j (a0m ((U.drop j).take (m+3)) / a0m v)) lu lq j:=by
 obtain ⟨lU,lQ,wU,wq,val,less⟩:=I;have hA:(U.take j).length=j:=by rw [d9J];omega
 have e0:a0m U=a0m (U.take j)+BB^j*a0m (U.drop j):=by
  conv=>lhs;rw [<- e0H j U]
  rw [a1X,hA]
 have e1:a0m (P'++U.drop (j+(m+3)))=a0m P':=by rw [a1X,hz,e1g,e0W]
 refine ⟨?_,by rw [e0i];exact lQ,?_,wq.set hd,?_,?_⟩
 ·rw [d9Z,d9Z,hA,h1,e0x];omega
 ·exact Wd.append (wU.take j) (Wd.append h2 fun a ha=>wU a (e1I ha))
 ·rw [a8h (by omega),a0m,a1X,hA,e1,h3,hP]
  rw [e0] at val;have e2:=e0X (a0m (U.drop j)) (a0m v);have e3:BB^(j+1)*a0m (q.drop (j+1))*a0m v=BB^j*(BB*a0m (q.drop (j+1))*a0m v):=by
   rw [e0h,d9Y,d9Y,d9Y]
  rw [e3] at val;have e4:BB^j*a0m (U.drop j)=BB^j*(a0m v*(a0m (U.drop j) / a0m v))+BB^j*(a0m (U.drop j)%a0m v):=by
   rw [<- d9M,e2]
  rw [d9Y,e0e,d9M,d9O (a0m (U.drop j) / a0m v)];omega
 ·rw [List.drop_left' hA,e1,h3]
  exact e0k _ hv
theorem b8E {a b s:Nat}{U v:List Nat}{k lu lq:Nat}(hU:a0m U=a*2^s)(hv:a0m v=b*2^s)(wU:Wd U)(lU:U.length=lu){q:List Nat}(hq:q=List.replicate lq 0)(hk:lq<=k)
  (hab:a<BB^k*b):a8n (a*2^s) v U q lu lq k:=by
 subst hq;refine ⟨lU,e1E,wU,a5v _,?_,?_⟩
 ·rw [e0R (by rw [e1E];exact hk)]
  rw [show a0m []=0 from rfl,e1g,e2a,d9S,hU]
 ·rcases d9H (a0m (U.drop k)) (a0m v) with h|h
  ·exact h
  ·exfalso
   have e0:a0m U=a0m (U.take k)+BB^(U.take k).length*a0m (U.drop k):=by
    conv=>lhs;rw [<- e0H k U]
    rw [a1X]
   have hp:0<2^s:=e1s s;have h3:a*2^s<BB^k*b*2^s:=e2g hab hp;rw [d9Y,<- hv] at h3;rcases d9H U.length k with hl|hl
   ·rw [e0R (by omega)] at h
    rw [show a0m []=0 from rfl] at h;rw [Nat.le_zero.1 h,e1g] at h3;omega
   ·rw [d9J,e1n hl] at e0
    have:=d9X (BB^k) h
    omega
theorem c2p {a b s:Nat}{v U q:List Nat}{lu lq:Nat}(I:a8n (a*2^s) v U q lu lq 0)(hv:a0m v=b*2^s):a0m q=a / b/\a0m U=a%b*2^s:=by
 obtain ⟨lU,lQ,wU,wq,val,less⟩:=I;simp only [e2V,e2E,e1c] at val less;obtain ⟨h1,h2⟩:=a6E val less;rw [hv,e2q _ _ (e1s s)] at h1;rw [hv,e2r] at h2;exact ⟨h1,h2⟩
structure a8o (U u:List Nat)(s i:Nat):Prop where
 len:u.length=U.length
 wd:Wd u
 rest:∀ k,i<=k->u[k]? = U[k]?
 val:∀ c,U[i]? = some c->a0m (U.take i)+BB^i*(c%2^s)=2^s*a0m (u.take i)
theorem b6K {U:List Nat}{s r:Nat}(wU:Wd U)(h:a0m U=r*2^s)(hs:s<=63):a8o U U s 0:=by
 refine ⟨rfl,wU,fun _ _=>rfl,fun c hc=>?_⟩;have e:=a6c hc;simp only [e2H,e2V,e2E,a0m,d9S,e1g] at e ⊢;have hpp:2^(64 - s)*2^s=BB:=by rw [<- e1Q,show 64 - s+s=64 by omega]
 have e1:(a0m U)%2^s=0:=by rw [h];exact Nat.mul_mod_left _ _
 rw [e,<- hpp,Nat.mul_right_comm,Nat.add_mul_mod_self_right] at e1;exact e1
theorem b0p {c d s:Nat}(hs:s<=63)(hc:c<BB):c / 2^s ||| d*2^(64 - s)%BB=c / 2^s+d%2^s*2^(64 - s)/\c / 2^s+d%2^s*2^(64 - s)<BB /\
  c%2^s+2^s*(c / 2^s+d%2^s*2^(64 - s))=c+BB*(d%2^s):=by
 have hpp:2^s*2^(64 - s)=BB:=by rw [<- e1Q,show s+(64 - s)=64 by omega]
 have h1:d*2^(64 - s)%BB=d%2^s*2^(64 - s):=by rw [<- hpp,e2r]
 have h2:c / 2^s<2^(64 - s):=e0E (by rw [hpp];exact hc);have h3:d%2^s<2^s:=e0k _ (e1s s);have h4:(d%2^s+1)*2^(64 - s)<=2^s*2^(64 - s):=d9K _ h3;rw [hpp,e0e,e2E] at h4;have e:=e0V c (2^s);refine ⟨?_,by omega,?_⟩
 ·rw [h1,Nat.or_comm,c0p h2,e2K]
 ·rw [d9M,e1B,hpp,d9O (d%2^s)]
  omega
theorem b8J {U u:List Nat}{s i c d:Nat}(hs:s<=63)(wU:Wd U)(I:a8o U u s i)(hc:U[i]? = some c)(hd:U[i+1]? = some d) :
  a8o U (u.set i (c / 2^s+d%2^s*2^(64 - s))) s (i+1):=by
 obtain ⟨len,wd,rest,val⟩:=I;have hcl:=wU c (d9r hc);obtain ⟨_,e2,e3⟩:=b0p (d:=d) hs hcl;have hi:i<U.length:=(List.getElem?_eq_some_iff.1 hc).1;refine ⟨by rw [e0i];exact len,wd.set e2,fun k hk=>?_,fun c' hc'=>?_⟩
 ·rw [e0N (by omega)];exact rest k (by omega)
 ·rw [hd] at hc'
  cases hc';have v0:=val c hc;rw [a8i (by omega),a1t (i:=i) (by rw [d9J];omega),a0U hc,a1t (i:=i) (by rw [d9J];omega),d9M,<- v0,e0h,d9Y,e1B (2^s)];have e4:BB^i*(c%2^s+2^s*(c / 2^s+d%2^s*2^(64 - s)))=BB^i*(c+BB*(d%2^s)):=by rw [e3]
  rw [d9M,d9M (BB^i) c] at e4;omega
theorem b8I {U u:List Nat}{s n r:Nat}(I:a8o U u s n)(hn:n<U.length)(hU:a0m U=r*2^s)(hl:a0m U<BB^n):a0m (u.take n)=r:=by
 obtain ⟨c,hc⟩:=a3A hn;have e:=a6c hc;have hz:c+BB*a0m (U.drop (n+1))=0:=by
  rcases e0m (c+BB*a0m (U.drop (n+1))) with h|h
  ·exact h
  ·have:=d9X (BB^n) h
   omega
 have hc0:c=0:=by omega
 subst hc0;have v0:=I.val 0 hc;rw [hz,e1g,e0W] at e;rw [Nat.zero_mod,e1g,e0W,<- e,hU,d9O] at v0;exact (Nat.eq_of_mul_eq_mul_left (e1s s) v0).symm
theorem b8t {a b:Nat}(h:a<b):decide (a6M (a:Int) (b:Int)<0)=true:=d9q (by unfold a6M;split<;>(try split)<;>omega)
theorem b1k {a b:Nat}(h:b<=a):decide (a6M (a:Int) (b:Int)<0)=false:=d9p (by unfold a6M;split<;>(try split)<;>omega)
theorem c8s {env:Env}{t K g n N t2:Nat}{z:List Nat}{T:Nat}{d2:D}(hl:z.length=N)(he:env.get t=.osl K g 1 0 N:=by exact rfl)(h2:env.get t2=d2:=by exact rfl):Wk ⟨env,[⟨K,g,T,1,z.map a0k⟩],n⟩ ⟨[(t,.sl false 1 (z.map a0k)),(t2,d2)],[],n⟩:=by
 subst hl;refine ⟨.drop .nil,⟨?_,?_,trivial⟩,d9y _⟩
 ·dsimp only
  rw [he]
  have:=b0y K g T 1 (z.map a0k)
  rwa [d9s] at this
 ·dsimp only
  rw [h2];exact .refl _
theorem b8G (a b:Nat)(hab:a<b)(ha:(a0h a).length<1000000)(hb:(a0h b).length<1000000):a0b C0 181 [wD a,wD b] (.tup [wD (a / b),wD (a%b)]):=by
 rw [e1A hab,e0u hab,c8o];refine a0c.walk w1 b5F rfl fun F=>?_
 have cc:=b1l a b (by omega) (by omega);have e1:=b8t hab;refine sR 0 ?_;refine OkS.seq ?_;refine sR 100 ?_;refine cI cc ?_;rw [e1];refine ifI ?_;refine sR 200 ?_;refine rtI ?_;exact ⟨_,c5s (.nil 1) (.refl _),b6d (.sl fun e he=>by cases he) (a4X _),rfl⟩
theorem c2s (a b:Nat)(hab:b<=a)(ha:(a0h a).length<1000000)(hb:(a0h b).length=1)(hb0:b≠0):a0b C0 181 [wD a,wD b] (.tup [wD (a / b),wD (a%b)]):=by
 have cc:=b1l a b (by omega) (by omega);have e1:=b1k hab;have hbl:b<BB:=by
  have:=a3g b
  rw [hb,Nat.pow_one] at this;exact this
 have hlb:(a0h b)[0]? = some b:=by rw [a4b hb0 hbl];rfl
 have va:=a0V a;have wa:=a1K a;refine a0c.walk w1 b5F rfl fun F=>?_
 unfold wD wL at cc ⊢;change OkS C0 F none F _ _ (c1T X1.tt _ (· = .tup [wD (a / b),wD (a%b)]));generalize a0h a=la at *;generalize a0h b=lb at *;have hb':=a1o hlb;have e3:((((lb.map a0k).length:Nat):Int)==1)=true:=by rw [d9s,hb];rfl
 have ea:(((la.map a0k).length:Nat):Int)=(la.length:Int):=by rw [d9s]
 have wl:IntKind.i64.wrap ((la.length:Int) - 1)=(la.length:Int) - 1:=wI (by omega) (by omega);have r3:List.replicate la.length (ofV (.int .u64 0))=(List.replicate la.length 0).map a0k:=by rw [e1J];rfl
 refine sR 0 ?_;refine OkS.seq ?_;refine sR 100 ?_;refine cI cc ?_;rw [e1];refine ifI ?_;refine skI ?_;refine OkS.seq ?_;refine sZ 300 ?_;refine nwI e3 ?_;refine ifI ?_;refine sZ 400 ?_;refine nwI (ff2 ea kN) ?_;refine sR 500 ?_;refine OkS.seq ?_;refine sZ 600 ?_;refine nwI (ff2 ea wl) ?_;refine OkS.block ?_;refine OkS.loop (α:=Nat × Nat × List Nat × Nat) (fun p=>⟨[(0,.sl false 1 (la.map a0k)),(1,.sl false 1 (lb.map a0k)),(6,.osl 402 11 1 0 la.length),(7,a0k p.2.1),(8,i64 ((p.1:Int) - 1))],[⟨402,11,261,1,p.2.2.1.map a0k⟩],p.2.2.2⟩) (fun p=>p.1)
  (fun p=>p.1<=la.length/\p.2.1<b/\p.2.2.1.length=la.length/\Wd p.2.2.1/\a0m (p.2.2.1.drop p.1)*b+p.2.1=a0m (la.drop p.1)) (la.length,0,List.replicate la.length 0,_)
  ⟨d9y _,e0r hb0,by simp,a5v _,by simp [a0m]⟩ (by rw [<- r3];exact wkI) ?_
 rintro ⟨k,r,q,m⟩ F ⟨h1,h2,h3,h4,h5⟩;dsimp only at h1 h2 h3 h4 h5 ⊢;clear cc e1 e3 ea wl r3;refine OkS.seq ?_;refine sR 700 ?_;refine ifI ?_
 (refine brI (fun h20=>?_) (fun h20=>?_))<;>(try simp only [d9w,d9x] at h20)<;>(try simp only [h20])
 ·obtain ⟨j,rfl⟩:∃ j,k=j+1:=⟨k - 1,by
   have:(k:Int) - 1>=0:=by simpa using h20
   omega⟩
  have wj:((j+1:Nat):Int) - 1=(j:Int):=by omega
  obtain ⟨x,hx⟩:=a3A (l:=la) (i:=j) (by omega);obtain ⟨z,hz⟩:=a3A (l:=q) (i:=j) (by omega);have hx':=a1o hx;have hz':=a1o hz;have hxl:=wa x (d9r hx);have cd:=b5q r x b h2 hxl hbl;obtain ⟨J1,J2⟩:=b6I (e0r hb0) hx (by omega) h5;have hql:(r*BB+x) / b<BB:=by
   refine e0E ?_
   have:(r+1)*BB<=b*BB:=d9K _ h2
   rw [e0e] at this;omega
  have wi:IntKind.i64.wrap ((j:Int) - 1)=(j:Int) - 1:=wI (by omega) (by omega);generalize (r*BB+x) / b=d at *;generalize (r*BB+x)%b=r' at *;rw [wj];refine skI ?_;refine OkS.seq ?_;refine OkS.block ?_;refine d8R w1 900 [0,1,2,3,4,5,6,7,8,9,10,11,12,13,14,15] [16] 15 [11,9,8,7,6,5,4,3,2,1,0,10,12,14] (402) (by kernel_rfl) (by kernel_rfl) ?_;refine dsI ?_;refine gvI kN ?_;refine a0N rfl rfl rfl rfl ?_;refine a2Z (fun _ _=>rfl) (by exact sdI) ⟨rfl,by omega⟩ hx' ?_
  try dsimp only [D.cells,spot]
  refine gvI kN ?_;refine a0N rfl rfl rfl rfl ?_;refine a2Z (fun _ _=>rfl) (by exact sdI) ⟨rfl,by omega⟩ hb' ?_
  try dsimp only [D.cells,spot]
  refine gvI kN ?_;refine a0N rfl rfl rfl rfl ?_;refine a4x (fun _ _=>rfl) (by exact sdI) ?_;refine dsI ?_;refine a0q.same _ cd d9k ?_;refine gvI (ff3 kN d9S hz') ?_;refine And.intro (by first|exact Or.inl d9j|exact Or.inl rfl) ?_;refine gwI (ff2 kN d9S) ?_;rw [map_set];refine d8I w1 800 (by kernel_rfl) ?_;refine nwI wi ?_;exact ⟨(j,r',q.set j d,_),⟨by dsimp only;omega,J2,by dsimp only;rw [e0i];exact h3,h4.set hql,J1⟩,by dsimp only;omega,wkI⟩
 ·have hk:k=0:=by
   have:¬ ((k:Int) - 1>=0):=by simpa using h20
   omega
  subst hk;rw [e1c,e1c,va] at h5;obtain ⟨q1,q2⟩:=a6E h5 h2;refine exI ?_;refine OkS.weak ⟨[(6,.sl false 1 (q.map a0k)),(7,a0k r)],[],_⟩ (c8s h3) ?_;refine sR 1000 ?_;refine a0j.same _ (trim_ok q h4 (by omega)) d9k ?_;refine stI ?_;have hrl:Wd [r]:=fun a ha=>by
   simp only [d9F,e0j,or_false] at ha;subst ha;exact e1G h2 hbl
  refine a0j.pure [wL [r]] _ ⟨.nn true 1 _,trivial⟩ (trim_ok [r] hrl (by simp)) d9k ?_;refine stI ?_;refine rtI ?_;exact a0a (by rw [q1,q2];simp [a0m]) IsPure.out
set_option maxHeartbeats 4000000
theorem b9A {H:Hp}{K g T:Nat}{l:List Nat}{N:Nat}(hl:l.length=N)(he:Hp.get H K=some ⟨K,g,T,1,l.map a0k⟩:=by exact rfl):Fz H [] (.osl K g 1 0 N) (.sl false 1 (l.map a0k)):=by
 subst hl;have key:∀ (j:Nat) (d d':D),(l.map a0k)[0+j]? = some d->(l.map a0k)[j]? = some d'->d=d':=fun j d d' h1 h2=>by
  rw [d9S] at h1;rw [h1] at h2;exact e1K h2
 refine .osl (e:=⟨K,g,T,1,l.map a0k⟩) he rfl rfl rfl (by simp) (by simp) (fun j d d' h1 h2=>by rw [key j d d' h1 h2]) fun j d d' q c c' h1 h2 h3 h4=>?_
 rw [key j d d' h1 h2] at h3;rw [h3] at h4;cases h4;exact Fz.refl _
theorem b8H (a b m:Nat)(hab:b<=a)(ha:(a0h a).length<1000000)(hb:(a0h b).length=m+2):a0b C0 181 [wD a,wD b] (.tup [wD (a / b),wD (a%b)]):=by
 have hlen:=a0G b a hab;have cc:=b1l a b (by omega) (by omega);have e1:=b1k hab;obtain ⟨y,hy⟩:=a3A (l:=a0h b) (i:=m+1) (by omega);have y0:=a8X b hb hy;have yl:y<BB:=a1K b y (d9r hy);obtain ⟨s,hs,es,t1,t2⟩:=b0g y0 yl;have cl:=d2z y yl;rw [es] at cl;have hvl:=d3v hs hb hy t2;obtain ⟨v,hv⟩:∃ v,v=a0h (b*2^s):=⟨_,rfl⟩
 have wv:Wd v:=by rw [hv];exact a1K _
 have vv:a0m v=b*2^s:=by rw [hv];exact a0V _
 rw [<- hv] at hvl;obtain ⟨v1,h1⟩:=a3A (l:=v) (i:=m+1) (by omega);obtain ⟨v2,h2⟩:=a3A (l:=v) (i:=m) (by omega);have v10:v1≠0:=a8X (b*2^s) (by rw [<- hv];exact hvl) (by rw [<- hv];exact h1);have vpos:0<a0m v:=by
  rw [vv];refine e2h ?_ (e1s s);refine e0r fun h=>?_
  subst h;rw [a0W] at hb;cases hb
 have va:=a0V a;have vb:=a0V b;have wa:=a1K a;have wb:=a1K b;have hup:=a3g a;have hbge:=b5L hb;refine a0c.walk w1 b5F rfl fun F=>?_
 unfold wD wL at cc ⊢;change OkS C0 F none F _ _ (c1T X1.tt _ (· = .tup [wD (a / b),wD (a%b)]));generalize a0h a=la at *;generalize a0h b=lb at *;obtain ⟨lq,hlq⟩:∃ lq,la.length=lq+(m+2):=⟨la.length - (m+2),by omega⟩
 have hy':=a1o hy;have e3:((((lb.map a0k).length:Nat):Int)==1)=false:=by rw [d9s,hb];exact d9D.2 (by omega)
 have elb:(((lb.map a0k).length:Nat):Int)=((m+2:Nat):Int):=by rw [d9s,hb]
 have wlb0:IntKind.i64.wrap (((m+2:Nat):Int) - 1)=((m+1:Nat):Int):=by rw [wI (by omega) (by omega)];omega
 have wlb:IntKind.i64.wrap ((((lb.map a0k).length:Nat):Int) - 1)=((m+1:Nat):Int):=by rw [elb];exact wlb0
 have ea:(((la.map a0k).length:Nat):Int)=(la.length:Int):=by rw [d9s]
 have ev:(((v.map a0k).length:Nat):Int)=((m+2:Nat):Int):=by rw [d9s,hvl]
 have wq1:IntKind.i64.wrap ((la.length:Int) - ((m+2:Nat):Int))=(lq:Int):=by rw [wI (by omega) (by omega)];omega
 have wq2:IntKind.i64.wrap ((lq:Int)+1)=((lq+1:Nat):Int):=by rw [wI (by omega) (by omega)];omega
 have wq1':IntKind.i64.wrap ((la.length:Int) - ((m+2:Nat):Int))=((lq+1:Nat):Int) - 1:=by rw [wI (by omega) (by omega)];omega
 have wraw:IntKind.i64.wrap (IntKind.i64.wrap ((((la.map a0k).length:Nat):Int) - ((m+2:Nat):Int))+1)=((lq+1:Nat):Int):=by rw [ea,wq1,wq2]
 have r3:List.replicate (lq+1) (ofV (.int .u64 0))=(List.replicate (lq+1) 0).map a0k:=by rw [e1J];rfl
 refine sR 0 ?_;refine OkS.seq ?_;refine sR 100 ?_;refine cI cc ?_;rw [e1];refine ifI ?_;refine skI ?_;refine OkS.seq ?_;refine sZ 300 ?_;refine nwI e3 ?_;refine ifI ?_;refine skI ?_;refine sZ 1100 ?_;refine gwI (ff4 wlb elb wlb0 kN) ?_;refine ixI kT hy' ?_;refine gwI (ff4 wlb elb wlb0 kN) ?_;refine cI cl ?_;refine d8X (α:=Nat) (fun n=>⟨[(0,.sl false 1 (la.map a0k)),(9,i64 s),(10,.sl false 1 (v.map a0k))],[],n⟩) (fun _=>True) ?_ ?_
 ·refine rI 1200 ?_
  refine a0j.prop [wL lb,i64 s] _ (FzL.refl _) (c1g lb s hs wb (by omega)) d9k ?_;rintro d ⟨out,o1,o2,o3,rfl⟩;have hvo:wD (a0m out)=.sl false 1 (v.map a0k):=by rw [o3,vb,hv];rfl
  refine stI ?_;refine a0j.same _ (trim_ok out o2 (by omega)) d9k ?_;refine stI ?_;simp only [hvo];exact ⟨trivial,_,trivial,wkI⟩
 rintro n0 -;clear cc e1 e3 elb wlb wlb0 hy' cl es t1 t2 yl y0 hy wb;refine sR 1300 ?_;refine a0j.own _ (b0U la s hs wa (by omega) [] _) ?_;rintro d H' n1 ⟨U,gu,u1,u2,u3,rfl,rfl,-⟩;rw [va] at u3;refine stI ?_;refine sZ 1400 ?_;refine nwI ev ?_;refine d8X (α:=Nat × Nat) (fun p=>⟨[(0,.sl false 1 (la.map a0k)),(9,i64 s),(10,.sl false 1 (v.map a0k)),(11,.osl 103 gu 1 0 (la.length+1)),(12,i64 ((m+2:Nat):Int)),(13,.osl 1505 p.1 1 0 (lq+1))],[⟨1505,p.1,261,1,(List.replicate (lq+1) 0).map a0k⟩,⟨103,gu,261,1,U.map a0k⟩],p.2⟩) (fun _=>True) ?_ ?_
 ·refine d8I w1 1500 (by kernel_rfl) ?_
  refine nwI (ff5 ea wq1 wq2 kN r3) ?_;exact ⟨trivial,⟨n1+9,n1+20⟩,trivial,by rw [<- r3];exact wkI⟩
 rintro ⟨g,n2⟩ -;dsimp only;have I0:a8n (a*2^s) v U (List.replicate (lq+1) 0) (la.length+1) (lq+1) (lq+1):=by
  refine b8E u3 vv u2 u1 rfl (d9y _) ?_
  have:BB^(lq+1)*BB^(m+1)<=BB^(lq+1)*b:=d9X _ hbge
  rw [<- e1Q,show lq+1+(m+1)=la.length by omega] at this;omega
 refine OkS.seq ?_;refine sZ 1600 ?_;refine nwI (ff2 ea wq1') ?_;refine OkS.block ?_;refine OkS.loop (α:=Nat × List Nat × List Nat × Nat) (fun p=>⟨[(9,i64 s),(10,.sl false 1 (v.map a0k)),(11,.osl 103 gu 1 0 (la.length+1)),(12,i64 ((m+2:Nat):Int)),(13,.osl 1505 g 1 0 (lq+1)),(14,i64 ((p.1:Int) - 1))],[⟨1505,g,261,1,p.2.2.1.map a0k⟩,⟨103,gu,261,1,p.2.1.map a0k⟩],p.2.2.2⟩) (fun p=>p.1)
  (fun p=>p.1<=lq+1/\a8n (a*2^s) v p.2.1 p.2.2.1 (la.length+1) (lq+1) p.1) (lq+1,U,List.replicate (lq+1) 0,_) ⟨d9y _,I0⟩ wkI ?_
 rintro ⟨k,u,q,n3⟩ F ⟨hk,I⟩;dsimp only at hk I ⊢;clear I0 wq1 wq2 wq1' wraw r3 ea;refine OkS.seq ?_;refine sR 1700 ?_;refine ifI ?_
 (refine brI (fun h20=>?_) (fun h20=>?_))<;>(try simp only [d9w,d9x] at h20)<;>(try simp only [h20])
 ·obtain ⟨j,rfl⟩:∃ j,k=j+1:=⟨k - 1,by
   have:(k:Int) - 1>=0:=by simpa using h20
   omega⟩
  have wj:((j+1:Nat):Int) - 1=(j:Int):=by omega
  obtain ⟨p0,p1,p2,SI,hz,hP⟩:=c2r I hvl wv v1 v2 h2 h1 (e0r v10) (by omega);have hA:(u.take j).length=j:=by rw [d9J,I.lU];omega
  have cs:=fun n=>c8c (u.take j) ((u.drop j).take (m+3)) (u.drop (j+(m+3))) v m p0 p1 p2 v2 v1 SI (by rw [hA];omega) g 261 gu (q.map a0k) n
  rw [hA,<- d6f j (m+3)] at cs;obtain ⟨z,hzq⟩:=a3A (l:=q) (i:=j) (by rw [I.lQ];omega);have hz':=a1o hzq;have hdl:a0m ((u.drop j).take (m+3)) / a0m v<BB:=e0E SI.less;have wi:IntKind.i64.wrap ((j:Int) - 1)=(j:Int) - 1:=wI (by omega) (by omega);have wjn1:IntKind.i64.wrap ((j:Int)+((m+2:Nat):Int))=((j+(m+2):Nat):Int):=by rw [wI (by omega) (by omega)];omega
  have wjn2:IntKind.i64.wrap (((j+(m+2):Nat):Int)+1)=((j+(m+3):Nat):Int):=by rw [wI (by omega) (by omega)];omega
  have wraw:IntKind.i64.wrap (IntKind.i64.wrap ((j:Int)+((m+2:Nat):Int))+1)=((j+(m+3):Nat):Int):=by rw [wjn1,wjn2]
  have els:j+(m+3) - j=m+3:=e1y _ _;have J:=fun P' h1 h2 h3=>c2q (P':=P') I vpos (by omega) (by omega) hz hP h1 h2 h3 hdl
  rw [wj];refine skI ?_;refine OkS.seq ?_;refine OkS.block ?_;refine d8I w1 1900 (by kernel_rfl) ?_;refine gwI (ff6 wraw wjn1 wjn2 kN d9S els) ?_;refine a0j.own _ (cs _) ?_;rintro d H' n4 ⟨P',g1,g2,g3,rfl,rfl⟩;rw [SI.lP] at g1;refine gwI (ff3 kN d9S hz') ?_;rw [map_set];refine d8I w1 1800 (by kernel_rfl) ?_;refine nwI wi ?_;exact ⟨(j,u.take j++(P'++u.drop (j+(m+3))),q.set j (a0m ((u.drop j).take (m+3)) / a0m v),_),⟨by dsimp only;omega,J P' g1 g2 g3⟩,by dsimp only;omega,wkI⟩
 ·have hk:k=0:=by
   have:¬ ((k:Int) - 1>=0):=by simpa using h20
   omega
  subst hk;obtain ⟨q1,q2⟩:=c2p I vv;have D0:=b6K I.wU q2 hs;have wu:=I.wU;have wqq:=I.wq;have lu:=I.lU;have lqq:=I.lQ;have hlt:a0m u<BB^(m+2):=by
   have:=I.less
   rw [e1c] at this;have h:=a3z wv;rw [show v.length=m+2 from hvl] at h;omega
  clear I;refine exI ?_;refine OkS.seq ?_;refine sR 2000 ?_;refine OkS.block ?_;refine OkS.loop (α:=Nat × List Nat × Nat) (fun p=>⟨[(9,i64 s),(11,.osl 103 gu 1 0 (la.length+1)),(12,i64 ((m+2:Nat):Int)),(13,.osl 1505 g 1 0 (lq+1)),(96,i64 ((m+2:Nat):Int)),(97,i64 p.1)],[⟨1505,g,261,1,q.map a0k⟩,⟨103,gu,261,1,p.2.1.map a0k⟩],p.2.2⟩) (fun p=>m+2 - p.1)
   (fun p=>p.1<=m+2/\a8o u p.2.1 s p.1) (0,u,_) ⟨d9U _,D0⟩ wkI ?_
  rintro ⟨i,x,n4⟩ F ⟨hi,I⟩;dsimp only at hi I ⊢;have xl:=I.len;refine sR 2100 ?_;refine OkS.seq ?_;refine ifI ?_
  (refine brI (fun hlt2=>?_) (fun hlt2=>?_))<;>(try simp only [d9w,d9x] at hlt2)<;>(try simp only [hlt2])
  ·have hi2:i<m+2:=by
    have:=d9N hlt2
    omega
   obtain ⟨c,hc⟩:=a3A (l:=u) (i:=i) (by omega);obtain ⟨d,hd⟩:=a3A (l:=u) (i:=i+1) (by omega);have hcx:x[i]? = some c:=by rw [I.rest i (d9y _)];exact hc
   have hdx:x[i+1]? = some d:=by rw [I.rest (i+1) (by omega)];exact hd
   have hc':=a1o hcx;have hcl:=wu c (d9r hc);have hdl:=wu d (d9r hd);have I2:=b8J hs wu I hc hd;obtain ⟨g1,g2,_⟩:=b0p (d:=d) hs hcl;have esh:=b7x c s (by omega);have wi:IntKind.i64.wrap ((i:Int)+1)=((i+1:Nat):Int):=wI (by omega) (by omega);refine skI ?_;refine OkS.seq ?_;refine OkS.block ?_;refine sR 2200 ?_;refine sZ 2300 ?_;refine gwI (ff4 kN d9S hc' esh) ?_;rw [map_set];have hxi:i<x.length:=by omega
   have h2c:((x.set i (c / 2^s)).map a0k)[i]? = some (a0k (c / 2^s)):=a1o (e1T hxi);have h2d:((x.set i (c / 2^s)).map a0k)[i+1]? = some (a0k d):=a1o (by rw [e0N (by omega)];exact hdx);refine OkS.seq ?_;rcases e0m s with h0|h0
   ·have e24:decide ((s:Int)>0)=false:=d9p (by omega)
    have es0:x.set i (c / 2^s+d%2^s*2^(64 - s))=x.set i (c / 2^s):=by
     rw [h0,e2V,Nat.mod_one,e2a,e0W]
    rw [es0] at I2;refine d8I w1 2400 (by kernel_rfl) ?_;refine nwI e24 ?_;refine gwI e24 ?_;refine ifI ?_;refine skI ?_;refine d8I w1 2600 (by kernel_rfl) ?_;refine nwI wi ?_;exact ⟨(i+1,x.set i (c / 2^s),_),⟨hi2,I2⟩,by dsimp only;omega,wkI⟩
   ·have e24:decide ((s:Int)>0)=true:=d9q (by omega)
    have e24':decide (((i+1:Nat):Int)<((la.length+1:Nat):Int))=true:=d9q (by omega);have w64:IntKind.i64.wrap (64 - (s:Int))=((64 - s:Nat):Int):=by rw [wI (by omega) (by omega)];omega
    have w640:(0:Int)<=IntKind.i64.wrap (64 - (s:Int)):=by rw [w64];omega
    have e27:=c1h d (64 - s) (by omega);have e28:a2d .or .u64 ((c / 2^s:Nat):Int) ((d*2^(64 - s)%18446744073709551616:Nat):Int)=((c / 2^s+d%2^s*2^(64 - s):Nat):Int):=by
     rw [d5v _ _ (e0f (e1e _ _) hcl) (e0k _ (by decide)),g1]
    have hset:((x.set i (c / 2^s)).map a0k).set i (a0k (c / 2^s+d%2^s*2^(64 - s)))=(x.set i (c / 2^s+d%2^s*2^(64 - s))).map a0k:=by
     rw [map_set,List.set_set]
    refine d8I w1 2400 (by kernel_rfl) ?_;refine nwI e24 ?_;refine gwI (ff3 e24 wi e24') ?_;refine ifI ?_;refine d8K w1 2500 [0,1,2,3,4,5,6,7,8,9,10,11] [12,13,14] (by kernel_rfl) ?_;refine gwI (ff7 wi w64 e27 e28 kN d9S (ff2 h2c h2d)) ?_;refine a0v rfl rfl ?_;refine a7J rfl rfl rfl h2c ?_;refine gwI hset ?_;refine d8I w1 2600 (by kernel_rfl) ?_;refine nwI wi ?_;exact ⟨(i+1,x.set i (c / 2^s+d%2^s*2^(64 - s)),_),⟨hi2,I2⟩,by dsimp only;omega,wkI⟩
  ·have hi2:i=m+2:=by
    have:=d9I hlt2
    omega
   subst hi2;have hr:=b8I I (by omega) q2 hlt;have wx:=I.wd;refine exI ?_;refine OkS.weak ⟨[(11,.sl false 1 (x.map a0k)),(12,i64 ((m+2:Nat):Int)),(13,.sl false 1 (q.map a0k))],[],_⟩ ⟨.drop (.drop .nil),⟨b9A (by omega),.refl _,b9A lqq,trivial⟩,d9y _⟩ ?_;have e4:List.take (m+2 - 0) (List.drop 0 (x.map a0k))=(x.take (m+2)).map a0k:=by
    rw [e2C];simp
   have e5:List.take (m+2) (x.map a0k)=(x.take (m+2)).map a0k:=by
    rw [e2C]
   have ex:(x.map a0k).length=la.length+1:=by rw [d9s];omega
   refine OkS.seq ?_;refine d8K w1 2700 [0,1,2,3,4] [5,6,7] (by kernel_rfl) ?_;refine stI ?_;refine a0q.same _ (trim_ok q wqq (by omega)) d9k ?_;refine gwI (ff4 kN Nat.sub_zero (@e1c D) e5) ?_;refine a0j.same _ (trim_ok (x.take (m+2)) (wx.take _) (by rw [d9J];omega)) d9k ?_;refine stI ?_;refine rtI ?_;exact a0a (by rw [q1,hr]) IsPure.out
theorem d6g (a b:Nat)(hb:b≠0)(ha:(a0h a).length<1000000)(hbl:(a0h b).length<1000000):a0b C0 181 [wD a,wD b] (.tup [wD (a / b),wD (a%b)]):=by
 rcases d9H a b with h|h
 ·exact b8G a b h ha hbl
 ·rcases hl:(a0h b).length with _|m
  ·have:=a3g b
   rw [hl] at this;simp at this;exact d9n this hb
  ·rcases m with _|m
   ·exact c2s a b h ha hl hb
   ·exact b8H a b m h ha hl
set_option maxHeartbeats 2000000
theorem b8n {x:GI}(h:x.wf)(h0:x.z ≠ -9223372036854775808):x=mkG x.z:=by
 obtain ⟨z,sm⟩:=x;unfold mkG
 congr 1
 cases sm with
 | true =>
  have:=h.1 rfl
  dsimp only at this h0 ⊢;exact (d9q (show Sm z from ⟨by omega,by omega⟩)).symm
 | false =>
  have:=h.2 rfl
  exact (d9p this).symm
theorem a3U (z:Int):(mkG z).z=z:=rfl
def a7M (x y:GI):GI × GI :=
 if x.sm=true/\y.sm=true/\x.z ≠ -9223372036854775808 then (⟨x.z / y.z,true⟩,⟨x.z%y.z,true⟩)
 else if x.z.tmod y.z<0 then (c1u (mkG (x.z.tdiv y.z)) ⟨1,true⟩,b5e (mkG (x.z.tmod y.z)) y) else (mkG (x.z.tdiv y.z),mkG (x.z.tmod y.z))
theorem b7C (a b:Int)(hb:0<b):(a.tmod b<0->a.tdiv b - 1=a / b/\a.tmod b+b=a%b)/\(¬ a.tmod b<0->a.tdiv b=a / b/\a.tmod b=a%b):=by
 have e1:=Int.tdiv_eq_ediv (a:=a) (b:=b);have e2:=Int.tmod_add_mul_tdiv a b;have e3:=Int.emod_add_mul_ediv a b;have e4:=Int.emod_nonneg a (show b≠0 by omega);have e5:=Int.emod_lt_of_pos a hb;have hsg:b.sign=1:=Int.sign_eq_one_of_pos hb;rw [hsg] at e1;split at e1
 ·rw [Int.add_zero] at e1
  rw [e1] at e2;constructor
  ·intro h;omega
  ·intro _;exact ⟨e1,by omega⟩
 ·rename_i hc
  have hd:¬ b ∣ a:=fun h=>hc (Or.inr h)
  have hr:a%b≠0:=fun h=>hd (Int.dvd_of_emod_eq_zero h)
  have e6:b*(a / b+1)=b*(a / b)+b:=by rw [Int.mul_add,Int.mul_one]
  rw [e1,e6] at e2;constructor
  ·intro _;exact ⟨by omega,by omega⟩
  ·intro h;omega
theorem c3U {x y:GI}(hy:0<y.z):(a7M x y).1.z=x.z / y.z/\(a7M x y).2.z=x.z%y.z:=by
 obtain ⟨f1,f2⟩:=b7C x.z y.z hy;unfold a7M;split
 ·exact ⟨rfl,rfl⟩
 ·split
  ·rename_i h
   rw [c5U,b7W];exact f1 h
  ·rename_i h
   exact f2 h
theorem b8D {x y:GI}(hx:x.wf)(hy:y.wf)(h0:0<y.z):(a7M x y).1.wf/\(a7M x y).2.wf:=by
 unfold a7M;split
 ·rename_i h
  have hx1:=hx.1 h.1;have hy1:=hy.1 h.2.1;obtain ⟨_,_,h3⟩:=h;have hm:=Int.emod_lt_of_pos x.z h0;have hm2:=Int.emod_nonneg x.z (show y.z≠0 by omega);refine ⟨⟨fun _=>?_,fun h=>by cases h⟩,⟨fun _=>⟨by dsimp only;omega,by dsimp only;omega⟩,fun h=>by cases h⟩⟩;dsimp only;have e3:=Int.emod_add_mul_ediv x.z y.z;constructor
  ·rcases Int.lt_or_le (x.z / y.z) (-9223372036854775808) with h|h
   ·exfalso
    have h8:y.z*(x.z / y.z+1)<=1*(x.z / y.z+1):=Int.mul_le_mul_of_nonpos_right (by omega) (by omega);rw [Int.mul_add,Int.mul_one] at h8;omega
   ·exact h
  ·rcases Int.lt_or_le (x.z / y.z) 9223372036854775808 with h|h
   ·exact h
   ·exfalso
    have h5:(1:Int)*(x.z / y.z)<=y.z*(x.z / y.z):=Int.mul_le_mul_of_nonneg_right (by omega) (by omega);omega
 ·split
  ·exact ⟨c1v _ _,b3U _ _⟩
  ·exact ⟨a1d _,a1d _⟩
theorem c1f (a b:Int)(hb:0<b):a7S (decide (a<0)) (a.natAbs / b.natAbs)=a.tdiv b/\a7S (decide (a<0)) (a.natAbs%b.natAbs)=a.tmod b:=by
 obtain ⟨n,rfl⟩:∃ n:Nat,b=n:=⟨b.natAbs,by omega⟩
 rw [e0B]
 by_cases h:a<0
 ·obtain ⟨m,rfl⟩:∃ m:Nat,a = -(m:Int):=⟨a.natAbs,by omega⟩
  rw [d9q h,e2G,e0B,Int.neg_tdiv,Int.neg_tmod];exact ⟨rfl,rfl⟩
 ·obtain ⟨m,rfl⟩:∃ m:Nat,a=(m:Int):=⟨a.natAbs,by omega⟩
  rw [d9p h,e0B];exact ⟨rfl,rfl⟩
theorem b6J (x y:GI)(hx:x.wf)(hy:y.wf)(h0:0<y.z)(fx:x.few)(fy:y.few)(hn:¬ (x.sm=true/\y.sm=true/\x.z ≠ -9223372036854775808)) :
  a0b C0 194 [x.D,y.D] (.tup [(a7M x y).1.D,(a7M x y).2.D]):=by
 unfold a7M;rw [d9m hn];refine a0c.walk w1 b5G rfl fun F=>?_
 have cx:=a3L x hx;have cy:=a3L y hy;have cd:=d6g x.z.natAbs y.z.natAbs (by omega) fx fy;obtain ⟨t1,t2⟩:=c1f x.z y.z h0;have lq:(a0h (x.z.natAbs / y.z.natAbs)).length<1000000:=e0f (a0G _ _ (e1e _ _)) fx;have lr:(a0h (x.z.natAbs%y.z.natAbs)).length<1000000:=e0f (a0G _ _ (Nat.mod_le _ _)) fx;have c1:=a5T (decide (x.z<0)) (x.z.natAbs / y.z.natAbs) (e1G lq (by decide));have c2:=a5T (decide (x.z<0)) (x.z.natAbs%y.z.natAbs) (e1G lr (by decide));rw [t1] at c1;rw [t2] at c2;have fq:(mkG (x.z.tdiv y.z)).few:=by
  show (a0h (x.z.tdiv y.z).natAbs).length<1000000;rw [Int.natAbs_tdiv];exact lq
 have fr:(mkG (x.z.tmod y.z)).few:=by
  show (a0h (x.z.tmod y.z).natAbs).length<1000000;rw [Int.natAbs_tmod];exact lr
 have f1:(⟨1,true⟩:GI).few:=by show (a0h 1).length<1000000;rw [a4b (by decide) (by decide)];decide
 have cg:=b0V (mkG (x.z.tmod y.z)) (a1d _);have cs:=d3o (mkG (x.z.tdiv y.z)) ⟨1,true⟩ (a1d _) ⟨fun _=>⟨by decide,by decide⟩,fun h=>by cases h⟩ fq f1;have ca:=c6o (mkG (x.z.tmod y.z)) y (a1d _) hy fr fy;rw [a3U] at cg;have co:a0b C0 136 [i64 1] (⟨1,true⟩:GI).D:=d9b a4C 1000 40 (by kernel_rfl);have hpx:IsPure x.w:=d9k;have hpy:IsPure y.w:=d9k;have hpq:IsPure (mkG (x.z.tdiv y.z)).w:=d9k;have hpr:IsPure (mkG (x.z.tmod y.z)).w:=d9k;have hps:IsPure (c1u (mkG (x.z.tdiv y.z)) ⟨1,true⟩).w:=d9k;have hpa:IsPure (b5e (mkG (x.z.tmod y.z)) y).w:=d9k;have hp1:IsPure (⟨1,true⟩:GI).w:=d9k;clear t1 t2 lq lr fq fr f1;dsimp only [GI.D] at *;refine fR 0 ?_;refine d8V ⟨[(2,.optr 0 0 2 0 0),(3,.optr 1 1 2 0 0),(4,.optr 2 2 2 0 0),(5,.optr 3 3 2 0 0)],[⟨3,3,114,2,[smI 0]⟩,⟨2,2,114,2,[smI 0]⟩,⟨1,1,114,2,[.agg [i64 y.s,y.w]]⟩,⟨0,0,114,2,[.agg [i64 x.s,x.w]]⟩],90⟩ ?_ ?_
 ·obtain ⟨a,sa⟩:=x
  obtain ⟨b,sb⟩:=y;clear cx cy cd c1 c2 cg cs ca co hpq hpr hps hpa hp1;have nx:sa=false->(a0h a.natAbs).map a0k≠[]:=fun h=>a2l (by
   intro h0;subst h;exact hx.2 rfl ⟨by dsimp only;omega,by dsimp only;omega⟩)
  have ny:sb=false->(a0h b.natAbs).map a0k≠[]:=fun h=>a2l (by
   intro h0;subst h;exact hy.2 rfl ⟨by dsimp only;omega,by dsimp only;omega⟩)
  unfold GI.s GI.w wD wL at *;dsimp only at *;generalize (a0h a.natAbs).map a0k=ka at *;generalize (a0h b.natAbs).map a0k=kb at *;cases sa with
  | false =>
   have nx:=nx rfl;dsimp only at *;generalize (if a<0 then (-1:Int) else 1)=sg at *;generalize (match sb with|true=>b|false=>if b<0 then (-1:Int) else 1)=sh at *;generalize (match sb with|true=>a1w|false=>D.sl false 1 kb)=wy at *;refine OkS.seq ?_;refine d8I w1 100 (by kernel_rfl) ?_;refine nwI (ff3 (@ne_eq (List D)) nx e0A) ?_;refine gwI kT ?_;refine gwI kT ?_;refine gwI kT ?_;refine ifI ?_;refine skI ?_;exact And.intro (by trivial) (wkI)
  | true =>
   dsimp only at *;cases sb with
   | false =>
    have ny:=ny rfl;dsimp only at *;generalize (if b<0 then (-1:Int) else 1)=sh at *;refine OkS.seq ?_;refine d8I w1 100 (by kernel_rfl) ?_;refine nwI (ff3 (@ne_eq (List D)) ny e0A) ?_;refine gwI (ff4 kT (@ne_eq (List D)) ny e0A) ?_;refine gwI (ff4 kT (@ne_eq (List D)) ny e0A) ?_;refine gwI (ff4 kT (@ne_eq (List D)) ny e0A) ?_;refine ifI ?_;refine skI ?_;exact And.intro (by trivial) (wkI)
   | true =>
    have ha:a = -9223372036854775808:=d9L fun h=>hn ⟨rfl,rfl,h⟩
    subst ha;dsimp only at *;refine sZ 100 ?_
    repeat' (first|(refine And.intro (by exact sdI) ?_;refine dsI ?_)|((refine brI (fun hb=>?_) (fun hb=>?_))<;>(try simp only [d9w,d9x] at hb)<;>(try simp only [hb])<;>(refine dsI ?_)))
    refine ifI ?_;refine skI ?_;exact And.intro (by trivial) (wkI)
 ·refine fR 600 ?_
  refine dI cx ?_;refine fR 700 ?_;refine dI cy ?_;refine fR 800 ?_;refine dI cd ?_;refine fR 900 ?_;refine dI c1 ?_;refine dI c2 ?_;refine OkS.seq ?_;refine fR 1000 ?_;refine dI cg ?_
  by_cases h:x.z.tmod y.z<0
  ·have e:decide (max (-1) (min 1 (x.z.tmod y.z))<0)=true:=d9q (by omega)
   rw [d9l h,e];refine ifI ?_;refine d8K w1 1100 [0,1,2,3,4] [5,6,7] (by kernel_rfl) ?_;refine nxI ?_;refine a0q.same _ (co) d9k ?_;refine nxI ?_;refine a0q.same _ (cs) d9k ?_;refine nxI ?_;refine dI ca ?_;refine OkS.seq ?_;refine d8R w1 1200 [0,1,2] [3] 2 [0] (2) (by kernel_rfl) (by kernel_rfl) ?_;refine nxI ?_;refine nxI ?_;refine rtI ?_;exact a0a rfl IsPure.out
  ·have e:decide (max (-1) (min 1 (x.z.tmod y.z))<0)=false:=d9p (by omega)
   rw [d9m h,e];refine ifI ?_;refine skI ?_;refine OkS.seq ?_;refine d8R w1 1200 [0,1,2] [3] 2 [0] (2) (by kernel_rfl) (by kernel_rfl) ?_;refine nxI ?_;refine nxI ?_;refine rtI ?_;exact a0a rfl IsPure.out
theorem b5s (x y:GI)(hx:x.wf)(hy:y.wf)(h0:0<y.z)(fx:x.few)(fy:y.few):a0b C0 194 [x.D,y.D] (.tup [(a7M x y).1.D,(a7M x y).2.D]):=by
 by_cases h:x.sm=true/\y.sm=true/\x.z ≠ -9223372036854775808
 ·unfold a7M
  rw [d9l h];obtain ⟨a,sa⟩:=x;obtain ⟨b,sb⟩:=y;obtain ⟨h1,h2,h3⟩:=h;dsimp only at h1 h2 h3 h0;subst h1;subst h2;have ra:=hx.1 rfl;have rb:=hy.1 rfl;dsimp only at ra rb;exact b2x a b h0 ⟨by omega,by omega⟩ ⟨by omega,by omega⟩
 ·exact b6J x y hx hy h0 fx fy h
theorem d3d (x y:GI)(hx:x.wf)(hy:y.wf)(h0:0<y.z)(fx:x.few)(fy:y.few):a0b C0 199 [x.D,y.D] (a7M x y).1.D:=by
 refine a0c.walk w1 b9s rfl fun F=>?_
 have cg:=b0V y hy;have cd:=b5s x y hx hy h0 fx fy;have e1:decide (max (-1) (min 1 y.z)<0)=false:=d9p (by omega);have hpx:IsPure x.w:=d9k;have hpy:IsPure y.w:=d9k;have hpq:IsPure (a7M x y).1.w:=d9k;have hpr:IsPure (a7M x y).2.w:=d9k;dsimp only [GI.D] at *;generalize (a7M x y).1.s=qs at *;generalize (a7M x y).1.w=qw at *;generalize (a7M x y).2.s=rs at *;generalize (a7M x y).2.w=rw at *;refine fR 0 ?_;refine OkS.seq ?_;refine fR 100 ?_;refine dI cg ?_;rw [e1];refine ifI ?_;refine skI ?_;refine fR 300 ?_;refine dI cd ?_;refine fR 400 ?_;refine rtI ?_;exact a0a rfl IsPure.out
theorem b7U (x:GI)(h:x.wf):c6l x=mkG (x.z.natAbs:Nat):=by
 have h1:=c6m x h;have h2:=c8S x;rw [b8n h1 (by omega),h2]
theorem a3R {n:Nat}(h:(a0h n).length<1000000):(mkG (n:Int)).few:=by
 show (a0h (n:Int).natAbs).length<1000000;rw [e0B];exact h
theorem b5r {a b:Nat}(hb:0<b):a7M (mkG a) (mkG b)=(mkG ((a / b:Nat):Int),mkG ((a%b:Nat):Int)):=by
 have hb':(0:Int)<(mkG (b:Int)).z:=by show (0:Int)<(b:Int);omega
 obtain ⟨h1,h2⟩:=b8D (a1d a) (a1d b) hb';obtain ⟨h3,h4⟩:=c3U (x:=mkG a) hb';have e3:(a7M (mkG a) (mkG b)).1.z=((a / b:Nat):Int):=by rw [h3];exact (Int.natCast_ediv a b).symm
 have e4:(a7M (mkG a) (mkG b)).2.z=((a%b:Nat):Int):=by rw [h4];exact (Int.natCast_emod a b).symm
 have c3:=b8n h1 (by rw [e3];generalize a / b=q;omega);have c4:=b8n h2 (by rw [e4];generalize a%b=q;omega);rw [e3] at c3;rw [e4] at c4;generalize a7M (mkG a) (mkG b)=p at *;obtain ⟨p1,p2⟩:=p;dsimp only at c3 c4;rw [c3,c4]
theorem d2v (x y:GI)(hx:x.wf)(hy:y.wf)(fx:x.few)(fy:y.few):a0b C0 152 [x.D,y.D] (mkG (Nat.gcd x.z.natAbs y.z.natAbs:Nat)).D:=by
 refine a0c.walk w1 b9o rfl fun F=>?_
 have c1:=c8T x hx fx;have c2:=c8T y hy fy;rw [b7U x hx] at c1;rw [b7U y hy] at c2;have hpx:IsPure x.w:=d9k;have hpy:IsPure y.w:=d9k;have hpm:∀ n:Nat,IsPure (mkG (n:Int)).w:=fun n=>d9k
 unfold GI.few at fx fy;generalize x.z.natAbs=a at *;generalize y.z.natAbs=b at *;dsimp only [GI.D] at *;refine fR 0 ?_;refine OkS.seq ?_;refine d8K w1 100 [0,1,2] [3,4,5] (by kernel_rfl) ?_;refine nxI ?_;refine a0q.same _ (c1) d9k ?_;refine nxI ?_;refine dI c2 ?_;refine OkS.seq ?_;refine OkS.block ?_;refine OkS.loop (α:=Nat × Nat × Nat) (fun p=>⟨[(2,.optr 0 0 2 0 0),(3,.optr 1 1 2 0 0),(4,.optr 2 2 2 0 0)],[⟨2,2,114,2,[smI 0]⟩,⟨1,1,114,2,[.agg [i64 (mkG (p.2.1:Int)).s,(mkG (p.2.1:Int)).w]]⟩,⟨0,0,114,2,[.agg [i64 (mkG (p.1:Int)).s,(mkG (p.1:Int)).w]]⟩],p.2.2⟩) (fun p=>p.2.1)
  (fun p=>Nat.gcd p.1 p.2.1=Nat.gcd a b/\(a0h p.1).length<1000000/\(a0h p.2.1).length<1000000) (a,b,_) ⟨rfl,fx,fy⟩ wkI ?_
 rintro ⟨u,v,n⟩ F ⟨g1,g2,g3⟩;dsimp only at g1 g2 g3 ⊢;have cg:=b0V (mkG (v:Int)) (a1d _);rw [a3U] at cg;dsimp only [GI.D] at cg;refine OkS.seq ?_;refine fR 200 ?_;refine dI cg ?_;rcases e0m v with hv|hv
 ·subst hv
  have e2:(max (-1) (min 1 ((0:Nat):Int)) != 0)=false:=by decide
  rw [e2];refine ifI ?_;refine exI ?_;refine fR 500 ?_;refine rtI ?_;refine a0a ?_ IsPure.out;rw [<- g1,Nat.gcd_zero_right]
 ·have e2:(max (-1) (min 1 (v:Int)) != 0)=true:=by
   have:max (-1) (min 1 (v:Int))=1:=by omega
   rw [this];rfl
  have cd:=b5s (mkG (u:Int)) (mkG (v:Int)) (a1d _) (a1d _) (by show (0:Int)<(v:Int);omega) (a3R g2) (a3R g3);rw [b5r hv] at cd;dsimp only [GI.D] at cd;rw [e2];refine ifI ?_;refine skI ?_;refine OkS.block ?_;refine fR 300 ?_;refine dI cd ?_;refine d8R w1 400 [0,1,2] [3] 2 [0] (0) (by kernel_rfl) (by kernel_rfl) ?_;refine nxI ?_;refine nxI ?_;have hm:u%v<v:=e0k u hv;refine ⟨(v,u%v,_),⟨?_,g3,e0f (a0G _ _ (Nat.mod_le _ _)) g2⟩,hm,wkI⟩;rw [<- g1,e2L u v,Nat.gcd_rec v u,e2L]
structure GF where
 n:GI
 d:Nat
abbrev GF.D (x:GF):D:=.agg [i64 x.n.s,x.n.w,i64 (mkG (x.d:Int)).s,(mkG (x.d:Int)).w]
def isF (r:Rat)(x:GF):Prop:=x.n.wf/\x.n.z=r.num/\x.d=r.den
theorem c6N {a b:Nat}(hb:0<b)(h:(a0h b).length<1000000):(a0h (Nat.gcd a b)).length<1000000:=e0f (a0G _ _ (e2S _ hb)) h
def b3h (x:GI)(d:Nat):GF:=if d=1 then ⟨x,1⟩ else ⟨(a7M x (mkG (Nat.gcd x.z.natAbs d:Nat))).1,d / Nat.gcd x.z.natAbs d⟩
theorem b5P (x:GI)(d:Nat)(hx:x.wf)(hd:0<d):isF (mkRat x.z d) (b3h x d):=by
 have hg:0<Nat.gcd x.z.natAbs d:=e1D _ hd;have e:mkRat x.z d=Rat.normalize x.z d (by omega):=(Rat.normalize_eq_mkRat _).symm;rw [e,Rat.normalize_eq];unfold b3h;split
 ·rename_i h
  subst h;refine ⟨hx,?_,?_⟩
  ·dsimp only;rw [Nat.gcd_one_right];simp
  ·dsimp only;rw [Nat.gcd_one_right]
 ·have hg':(0:Int)<(mkG (Nat.gcd x.z.natAbs d:Nat)).z:=by show (0:Int)<(Nat.gcd x.z.natAbs d:Nat);omega
  exact ⟨(b8D hx (a1d _) hg').1,(c3U hg').1,rfl⟩
theorem c5w:mkG ((1:Nat):Int)=⟨1,true⟩:=a7B ⟨by decide,by decide⟩
theorem d3M {d:Nat}(h:Sm (d:Int)):(mkG (d:Int)).s=(d:Int)/\(mkG (d:Int)).w=a1w:=by rw [a7B h];exact ⟨rfl,rfl⟩
theorem d5p {d:Nat}(h:¬ Sm (d:Int)):(mkG (d:Int)).s=1/\(mkG (d:Int)).w=.sl false 1 ((a0h d).map a0k)/\(a0h d).map a0k≠[]:=by
 rw [b9Z h];refine ⟨?_,rfl,a2l ?_⟩
 ·show (if (d:Int)<0 then (-1:Int) else 1)=1
  rw [d9m (by omega)]
 ·intro h0
  subst h0;exact h ⟨by decide,by decide⟩
def b7d (x y:GI):GF:=b3h (if y.z<0 then mkG (-x.z) else x) y.z.natAbs
theorem c2P (x y:GI)(hx:x.wf)(h0:y.z≠0):isF (Rat.divInt x.z y.z) (b7d x y):=by
 unfold b7d
 by_cases h:y.z<0
 ·rw [d9l h]
  have:=b5P (mkG (-x.z)) y.z.natAbs (a1d _) (by omega)
  rw [a3U] at this;have e:mkRat (-x.z) y.z.natAbs=Rat.divInt x.z y.z:=by
   obtain ⟨k,hk⟩:∃ k,y.z=Int.negSucc k:=by
    cases hy:y.z with
    | ofNat n=>rw [hy] at h;simp at h;omega
    | negSucc k=>exact ⟨k,rfl⟩
   rw [hk];show mkRat (-x.z) (k+1)=_;exact (Rat.normalize_eq_mkRat (by omega)).symm
  rw [e] at this;exact this
 ·rw [d9m h]
  have:=b5P x y.z.natAbs hx (by omega)
  have e:mkRat x.z y.z.natAbs=Rat.divInt x.z y.z:=by
   rw [<- Rat.divInt_ofNat];congr 1;omega
  rw [e] at this;exact this
theorem d2A (x y:GI)(hx:x.wf)(hy:y.wf)(h0:y.z≠0)(fx:x.few)(fy:y.few):a0b C0 145 [x.D,y.D] (b7d x y).D:=by
 refine a0c.walk w1 b5D rfl fun F=>?_
 have cg:=b0V y hy;have cn1:=c0e x hx fx;have cn2:=c0e y hy fy;obtain ⟨x',hx'⟩:∃ x',x'=if y.z<0 then mkG (-x.z) else x:=⟨_,rfl⟩
 have wx':x'.wf:=by rw [hx'];split;exact a1d _;exact hx
 have fx':x'.few:=by rw [hx'];split;exact b9d fx;exact fx
 have hd:0<y.z.natAbs:=by omega
 have fd:(a0h y.z.natAbs).length<1000000:=fy;have fdg:=a3R fd;have ey:y.z<0->mkG (-y.z)=mkG (y.z.natAbs:Int):=fun h=>by congr 1;omega
 have ey':¬ y.z<0->y=mkG (y.z.natAbs:Int):=fun h=>by
  rw [b8n hy (by omega)];show mkG y.z=mkG (y.z.natAbs:Int)
  congr 1;omega
 unfold b7d;rw [<- hx'];generalize hdd:y.z.natAbs=d at *;have hpx:IsPure x.w:=d9k;have hpy:IsPure y.w:=d9k;have hpx':IsPure x'.w:=d9k;have hpd:IsPure (mkG (d:Int)).w:=d9k;have hg:0<Nat.gcd x'.z.natAbs d:=e1D _ hd;have cc:=d2v x' (mkG (d:Int)) wx' (a1d _) fx' fdg;rw [a3U,e0B] at cc;have fgg:(mkG (Nat.gcd x'.z.natAbs d:Nat)).few:=a3R (c6N hd fd);have cq1:=d3d x' (mkG (Nat.gcd x'.z.natAbs d:Nat)) wx' (a1d _) (by show (0:Int)<(Nat.gcd x'.z.natAbs d:Nat);omega) fx' fgg;have cq2:=d3d (mkG (d:Int)) (mkG (Nat.gcd x'.z.natAbs d:Nat)) (a1d _) (a1d _) (by show (0:Int)<(Nat.gcd x'.z.natAbs d:Nat);omega) fdg fgg;rw [b5r hg] at cq2;have hpg:IsPure (mkG ((Nat.gcd x'.z.natAbs d:Nat):Int)).w:=d9k;have hpq1:IsPure (a7M x' (mkG (Nat.gcd x'.z.natAbs d:Nat))).1.w:=d9k;have hpq2:IsPure (mkG ((d / Nat.gcd x'.z.natAbs d:Nat):Int)).w:=d9k;unfold b3h GF.D;dsimp only [GI.D] at *;refine fR 0 ?_;refine d8V ⟨[(2,.optr 0 0 2 0 0),(3,.optr 1 1 2 0 0),(4,.optr 2 2 4 0 0)],[⟨2,2,116,4,[.agg [i64 0,a1w,i64 0,a1w]]⟩,⟨1,1,114,2,[.agg [i64 (mkG (d:Int)).s,(mkG (d:Int)).w]]⟩,⟨0,0,114,2,[.agg [i64 x'.s,x'.w]]⟩],90⟩ ?_ ?_
 ·by_cases h:y.z<0
  ·have e1:decide (max (-1) (min 1 y.z)<0)=true:=d9q (by omega)
   rw [d9l h] at hx';subst hx';rw [<- ey h];refine fR 100 ?_;refine dI cg ?_;rw [e1];refine ifI ?_;refine d8K w1 200 [0,1,2] [3,4,5] (by kernel_rfl) ?_;refine nxI ?_;refine a0q.same _ (cn1) d9k ?_;refine nxI ?_;refine dI cn2 ?_;exact ⟨rfl,wkI⟩
  ·have e1:decide (max (-1) (min 1 y.z)<0)=false:=d9p (by omega)
   rw [d9m h] at hx';subst hx';have ey:=ey' h;refine fR 100 ?_;refine dI cg ?_;rw [e1];refine ifI ?_;refine skI ?_;rw [<- ey];exact ⟨rfl,wkI⟩
 by_cases h1:d=1
 ·subst h1
  rw [d9l rfl,c5w];refine OkS.seq ?_;refine sZ 300 ?_
  repeat' (first|(refine And.intro (by exact sdI) ?_;refine dsI ?_)|((refine brI (fun hb=>?_) (fun hb=>?_))<;>(try simp only [d9w,d9x] at hb)<;>(try simp only [hb])<;>(refine dsI ?_)))
  refine ifI ?_;refine fR 400 ?_;refine rtI ?_;exact a0a rfl IsPure.out
 ·rw [d9m h1]
  refine d8V ⟨[(2,.optr 0 0 2 0 0),(3,.optr 1 1 2 0 0),(4,.optr 2 2 4 0 0)],[⟨2,2,116,4,[.agg [i64 0,a1w,i64 0,a1w]]⟩,⟨1,1,114,2,[.agg [i64 (mkG (d:Int)).s,(mkG (d:Int)).w]]⟩,⟨0,0,114,2,[.agg [i64 x'.s,x'.w]]⟩],98⟩ ?_ ?_
  ·by_cases hs:Sm (d:Int)
   ·obtain ⟨a1,a2⟩:=d3M hs
    rw [a1,a2];have e2:((d:Int)==1)=false:=d9D.2 (by omega);refine sZ 300 ?_
    repeat' (first|(refine And.intro (by exact sdI) ?_;refine dsI ?_)|((refine brI (fun hb=>?_) (fun hb=>?_))<;>(try simp only [d9w,d9x] at hb)<;>(try simp only [hb])<;>(refine dsI ?_)))
    try simp only [e2]
    refine ifI ?_;refine skI ?_;exact ⟨rfl,⟨a5l _,⟨.refl _,.refl _,.refl _,trivial⟩,d9y _⟩⟩
   ·obtain ⟨a1,a2,a3⟩:=d5p hs
    rw [a1,a2];generalize (a0h d).map a0k=l at *;refine OkS.seq ?_;refine d8I w1 300 (by kernel_rfl) ?_;refine nwI (ff3 (@ne_eq (List D)) a3 e0A) ?_;refine gwI kT ?_;refine ifI ?_;refine skI ?_;exact ⟨rfl,⟨a5l _,⟨.refl _,.refl _,.refl _,trivial⟩,d9y _⟩⟩
  ·refine fR 500 ?_
   refine dI cc ?_;refine OkS.seq ?_;refine d8K w1 600 [0,1,2,3,4] [5,6,7] (by kernel_rfl) ?_;refine nxI ?_;refine a0q.same _ (cq1) d9k ?_;refine nxI ?_;refine dI cq2 ?_;refine rtI ?_;exact a0a rfl IsPure.out
def rk (r:Rat)(k:Nat):Prop:=(a0h r.num.natAbs).length<=k/\(a0h r.den).length<=k
theorem c7Q {n:Int}{d k:Nat}(hd:d≠0)(h1:(a0h n.natAbs).length<=k)(h2:(a0h d).length<=k):rk (Rat.normalize n d hd) k:=by
 rw [Rat.normalize_eq];exact ⟨d9V (a0G _ _ (Int.natAbs_ediv_le_natAbs _ _)) h1,d9V (a0G _ _ (e1e _ _)) h2⟩
theorem a4d (a b:Int):(a0h (a*b).natAbs).length<=(a0h a.natAbs).length+(a0h b.natAbs).length:=by
 rw [e1Z];exact a4T _ _
theorem b7b (a b:Int):(a0h (a+b).natAbs).length<=max (a0h a.natAbs).length (a0h b.natAbs).length+1 :=
 d9V (a0G _ _ (Int.natAbs_add_le a b)) (b2Z _ _)
theorem d3i {a b:Rat}{i j:Nat}(ha:rk a i)(hb:rk b j):rk (a+b) (i+j+1):=by
 rw [Rat.add_def];have h1:=a4d a.num b.den;have h2:=a4d b.num a.den;have h3:=b7b (a.num*b.den) (b.num*a.den);have h4:=a4T a.den b.den;rw [e0B] at h1 h2;obtain ⟨a1,a2⟩:=ha;obtain ⟨b1,b2⟩:=hb;exact c7Q _ (by omega) (by omega)
theorem c5N {a:Rat}{i:Nat}(ha:rk a i):rk (-a) i:=by
 unfold rk;rw [Rat.neg_num,Rat.neg_den,e2G];exact ha
theorem d3j {a b:Rat}{i j:Nat}(ha:rk a i)(hb:rk b j):rk (a - b) (i+j+1):=by
 rw [Rat.sub_eq_add_neg];exact d3i ha (c5N hb)
structure FR (r:Rat)(x:GF)(k:Nat):Prop where
 is:isF r x
 rk:rk r k
theorem FR.fn {r:Rat}{x:GF}{k:Nat}(h:FR r x k)(hk:k<1000000):x.n.few:=by
 show (a0h x.n.z.natAbs).length<1000000;rw [h.is.2.1];have:=h.rk.1;omega
theorem FR.ln {r:Rat}{x:GF}{k:Nat}(h:FR r x k):(a0h x.n.z.natAbs).length<=k:=by rw [h.is.2.1];exact h.rk.1
theorem FR.ld {r:Rat}{x:GF}{k:Nat}(h:FR r x k):(a0h x.d).length<=k:=by rw [h.is.2.2];exact h.rk.2
theorem FR.dpos {r:Rat}{x:GF}{k:Nat}(h:FR r x k):0<x.d:=by rw [h.is.2.2];exact r.den_pos
theorem d5q (x:GI)(d:Nat)(hx:x.wf)(fx:(a0h x.z.natAbs).length<400000)(fd:(a0h d).length<400000):a0b C0 146 [x.D,(mkG (d:Int)).D] (mkG (x.z*d)).D:=by
 have:=d2E x (mkG (d:Int)) hx (a1d _) fx (by rw [a3U,e0B];exact fd)
 rwa [a3U] at this
theorem d6o (c d:Nat)(fc:(a0h c).length<400000)(fd:(a0h d).length<400000):a0b C0 146 [(mkG (c:Int)).D,(mkG (d:Int)).D] (mkG ((c*d:Nat):Int)).D:=by
 have:=d5q (mkG (c:Int)) d (a1d _) (by rw [a3U,e0B];exact fc) fd
 rw [a3U,<- e0O] at this;exact this
theorem c2Q (x:GI)(d:Nat)(hx:x.wf)(hd:0<d)(fx:x.few)(fd:(a0h d).length<1000000):a0b C0 145 [x.D,(mkG (d:Int)).D] (b3h x d).D:=by
 have:=d2A x (mkG (d:Int)) hx (a1d _) (by rw [a3U];omega) fx (a3R fd)
 unfold b7d at this;rw [a3U,d9m (by omega),e0B] at this;exact this
theorem b9I (x:GF)(hd:0<x.d):a0b C0 118 [x.D] (boo (decide (x.d=1))):=by
 refine a0c.walk w1 b9l rfl fun F=>?_
 obtain ⟨y,d⟩:=x;dsimp only [GF.D] at hd ⊢;have hpy:IsPure y.w:=d9k;generalize y.s=ys at *;generalize y.w=yw at *
 by_cases hs:Sm (d:Int)
 ·obtain ⟨a1,a2⟩:=d3M hs
  rw [a1,a2];have e2:((d:Int)==1)=decide (d=1):=by
   rw [e1j,e1i,decide_eq_true_iff];omega
  refine fR 0 ?_;refine sZ 100 ?_
  repeat' (first|(refine And.intro (by exact sdI) ?_;refine dsI ?_)|((refine brI (fun hb=>?_) (fun hb=>?_))<;>(try simp only [d9w,d9x] at hb)<;>(try simp only [hb])<;>(refine dsI ?_)))
  try simp only [e2]
  refine rtI ?_;exact a0a rfl IsPure.out
 ·obtain ⟨a1,a2,a3⟩:=d5p hs
  rw [a1,a2];have e2:decide (d=1)=false:=d9p fun h=>hs (by rw [h];exact ⟨by decide,by decide⟩)
  rw [e2];generalize (a0h d).map a0k=l at *;refine fR 0 ?_;refine OkS.seq ?_;refine d8I w1 100 (by kernel_rfl) ?_;refine nwI (ff3 (@ne_eq (List D)) a3 e0A) ?_;refine gwI kT ?_;refine rtI ?_;exact a0a rfl IsPure.out
theorem c8p (x:GI):a0b C0 78 [x.D] (⟨x,1⟩:GF).D:=by
 refine a0c.walk w1 c6S rfl fun F=>?_
 have hpx:IsPure x.w:=d9k;unfold GF.D;rw [c5w];dsimp only [GI.D] at *;refine fR 0 ?_;refine OkS.seq ?_;refine d8K w1 100 [0,1] [2,3] (by kernel_rfl) ?_;refine nxI ?_;refine a0q.same _ (c0g 1) d9k ?_;refine nxI ?_;refine rtI ?_;exact a0a rfl IsPure.out
end Go.Ide
