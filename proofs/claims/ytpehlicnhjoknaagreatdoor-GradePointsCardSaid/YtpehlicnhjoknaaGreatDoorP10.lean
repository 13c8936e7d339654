/- The layer of own lemmas and contracts, part 10. -/
import Derived.Test.YtpehlicnhjoknaaGreatDoorP7
import Derived.Test.YtpehlicnhjoknaaGreatDoorP6
import Derived.Test.YtpehlicnhjoknaaGreatDoorP3
import Derived.Test.YtpehlicnhjoknaaGreatDoorP9
set_option linter.unusedVariables false
set_option linter.unusedSimpArgs false
namespace Go.Ide
open Go.Proofs Go.RowKit
set_option maxRecDepth 20000
def b7L:D:=.agg [.prim (.string ⟨#[109,111,105,115,116,117,114,101]⟩),.prim (.string ⟨#[49,47,53]⟩),.prim (.string ⟨#[104,97,108,102,45,117,112]⟩),.prim (.string ⟨#[49,47,49,48]⟩)]
def c0u:D:=.agg [.prim (.string ⟨#[119,101,105,103,104,116]⟩),.prim (.string ⟨#[49,47,50]⟩),.prim (.string ⟨#[104,97,108,102,45,101,118,101,110]⟩),.prim (.string ⟨#[49,47,50]⟩)]
def plA:D:=.agg [.prim (.string ⟨#[111,110,101]⟩),.sl true 1 [.prim (.string ⟨#[]⟩),.prim (.string ⟨#[55,56]⟩)],.sl true 1 [.prim (.string ⟨#[49,51]⟩),.prim (.string ⟨#[]⟩)]]
def plB:D:=.agg [.prim (.string ⟨#[116,119,111]⟩),.sl true 1 [.prim (.string ⟨#[]⟩),.prim (.string ⟨#[55,53]⟩)],.sl true 1 [.prim (.string ⟨#[49,52]⟩),.prim (.string ⟨#[]⟩)]]
def plC:D:=.agg [.prim (.string ⟨#[116,104,114,101,101]⟩),.sl true 1 [.prim (.string ⟨#[]⟩),.prim (.string ⟨#[]⟩)],.sl true 1 [.prim (.string ⟨#[49,54]⟩),.prim (.string ⟨#[]⟩)]]
theorem c5i:a0b C0 73 [a1C] (.clo (.func 146) [] [.pptr a1C]):=by
 refine a0c.walkS w1 d0T rfl fun F=>?_
 refine fR 0 ?_;refine fR 100 ?_;refine rtI ?_;exact ⟨_,.clo1 (.ptr rfl rfl rfl rfl),a0T (n:=30) (by kernel_rfl),rfl⟩
theorem d5M:a0b C0 24 [b7L] (i64 0):=a0b.ev b2T 1000 40 (by kernel_rfl)
theorem d5N:a0b C0 24 [c0u] (i64 0):=a0b.ev b2T 1000 40 (by kernel_rfl)
theorem d4t:a0b C0 147 [.sl true 4 [],.clo (.func 148) [] [.pptr b7L]] (boo false):=a0b.ev b2T 1000 40 (by kernel_rfl)
theorem d4u:a0b C0 147 [.sl true 4 [b7L],.clo (.func 148) [] [.pptr c0u]] (boo false):=a0b.ev b2T 1000 40 (by kernel_rfl)
theorem d4v:a0b C0 149 [a1C,i64 0] (i64 0):=a0b.ev b2T 1000 40 (by kernel_rfl)
theorem d4w:a0b C0 149 [a1C,i64 1] (i64 0):=a0b.ev b2T 1000 40 (by kernel_rfl)
theorem d4x:a0b C0 149 [a1C,i64 2] (i64 0):=a0b.ev b2T 1000 40 (by kernel_rfl)
theorem b0D:a0b C0 47 [.sl true 1 [i64 0,i64 0]] (i64 0):=a0b.ev a4c 100 10 (by kernel_rfl)
theorem d2u {H:Hp}{a b c d:D}(h1:FzS H a c)(h2:FzS H b d):∀ (i:Nat) (x y:D),[a,b][i]? = some x→[c,d][i]? = some y→FzS H x y:=fun i x y hx hy=>by
 match i with
 | 0=>simp at hx hy;subst hx;subst hy;exact h1
 | 1=>simp at hx hy;subst hx;subst hy;exact h2
 | n+2=>simp at hx
instance:IsPure a1C:=⟨a6F⟩
instance:IsPure b7L:=⟨a0T (n:=30) (by kernel_rfl)⟩
instance:IsPure c0u:=⟨a0T (n:=30) (by kernel_rfl)⟩
instance:CellsPure b7L:=by unfold b7L;exact inferInstance
instance:CellsPure c0u:=by unfold c0u;exact inferInstance
def YOk (E:a3s)(l:Nat)(R:LR):Prop:=∀ (H:Hp) (n:Nat),b1t C0 E l R [i64 0] H n (fun j H' n'=>j=none∧H'=H)
theorem c5T {E:a3s}{l:Nat}{R:LR}(hE:a3s.ok E)(H0:Hp)(n0:Nat)(hY:YOk E l R):a7I C0 E 146 [.clo (.yield l) [] [],.pptr (.agg [.sl true 4 [b7L,c0u],.sl true 3 [plA,plB,plC]])] l R H0 n0
  (fun j d H' n'=>j=none∧H'=H0):=by
 refine a7I.walk w1 hE c3h rfl fun B F hR=>?_
 refine OkS.seq ?_;refine OkS.seq ?_;refine OkS.regDY w1 0 [0,1,2,3,4,5,6,7,8,9,10,11,12] [] 13 [14] (b6Z [(14,[13,0,12,11,10,5,4,3,2,1,9,8,7,6]),(13,[0,12,11,10,5,4,3,2,1,9,8,7,6]),(12,[11,10,5,4,3,2,1,9,8,7,6]),(11,[5,10,4,3,2,1,9,8,7,6]),(10,[9,5,8,7,6,4,3,2,1]),(9,[8,7,6]),(8,[7,6]),(7,[6]),(6,[]),(5,[4,3,2,1]),(4,[3,2,1]),(3,[2,1]),(2,[1]),(1,[]),(0,[])] (by kernel_rfl)) hR ?_;refine nxI ?_;refine a0n.same _ (a2s _ 2) inferInstance ?_;refine nxI ?_;refine a0n.same _ (a2s _ 5) inferInstance ?_;refine nxI ?_;refine a0n.same _ (b0D) inferInstance ?_;refine nxI ?_;refine ⟨rfl,_,hY _ _,?_,fun c H n h=>absurd h.1 (by simp)⟩;rintro H' n1 ⟨_,rfl⟩;refine nxI ?_;refine ifI ?_;refine skI ?_;refine OkS.seq ?_;refine fR 100 ?_;refine OkS.block ?_;refine OkS.loopF (α:=Nat × Nat) (fun p=>⟨[(0,.clo (.yield l) [] []),(1,.pptr (.agg [.sl true 4 [b7L,c0u],.sl true 3 [plA,plB,plC]])),(23,.sl true 4 [b7L,c0u]),(24,i64 2),(25,i64 p.1)],H',p.2⟩) (fun p=>2 - p.1)
  (fun p F=>a9n C0 E B F l R∧p.1≤2) (0,_) ⟨hR,Nat.zero_le _⟩ wkI ?_
 clear hR;rintro ⟨i,m⟩ F ⟨hR,h1⟩;dsimp only at h1 hR ⊢;refine fR 200 ?_;refine OkS.seq ?_;refine ifI ?_;have hi:i=0∨i=1∨i=2:=by omega
 have a3:IntKind.i64.wrap ((i:Int)+1)=((i+1:Nat):Int):=wI (by omega) (by omega);rcases hi with rfl|rfl|rfl
 ·refine skI ?_
  refine OkS.seq ?_;refine OkS.block ?_;refine fR 300 ?_;refine ⟨⟨rfl,by omega⟩,_,rfl,?_⟩;refine dsI ?_
  try dsimp only [D.cells,spot]
  refine nxI ?_;refine fR 400 ?_;refine a0l.own _ (a0m.lendS d4t rfl (d2u (FzS.refl _ _) (.clo1 (.ptr rfl rfl rfl rfl))) inferInstance (.prim _)) ?_;rintro d H2 n2 ⟨rfl,rfl,rfl⟩;refine nxI ?_;refine OkS.seq ?_;refine OkS.regY w1 500 [0,1,2,3,4,5,6] 7 [8] rfl (by kernel_rfl) hR ?_;refine nxI ?_;refine a0l.same _ d5M (inferInstanceAs (ArePure [b7L])) ?_;refine nxI ?_;refine dI (a2s _ 9) ?_;refine a0l.same _ b0D inferInstance ?_;refine And.intro (by exact sdI) ?_;refine dsI ?_;refine ⟨rfl,_,hY _ _,?_,fun c H n h=>absurd h.1 (by simp)⟩;rintro H2 n2 ⟨_,rfl⟩;refine And.intro (by exact sdI) ?_;refine dsI ?_;refine ifI ?_;refine skI ?_;refine OkS.reg w1 600 (by kernel_rfl) ?_;refine mwI a3 ?_;exact ⟨(1,_),⟨hR,(by dsimp only;omega)⟩,(by dsimp only;omega),wkI⟩
 ·refine skI ?_
  refine OkS.seq ?_;refine OkS.block ?_;refine fR 300 ?_;refine ⟨⟨rfl,by omega⟩,_,rfl,?_⟩;refine dsI ?_
  try dsimp only [D.cells,spot]
  refine nxI ?_;refine fR 400 ?_;refine a0l.own _ (a0m.lendS d4u rfl (d2u (FzS.refl _ _) (.clo1 (.ptr rfl rfl rfl rfl))) inferInstance (.prim _)) ?_;rintro d H2 n2 ⟨rfl,rfl,rfl⟩;refine nxI ?_;refine OkS.seq ?_;refine OkS.regY w1 500 [0,1,2,3,4,5,6] 7 [8] rfl (by kernel_rfl) hR ?_;refine nxI ?_;refine a0l.same _ d5N (inferInstanceAs (ArePure [c0u])) ?_;refine nxI ?_;refine dI (a2s _ 9) ?_;refine a0l.same _ b0D inferInstance ?_;refine And.intro (by exact sdI) ?_;refine dsI ?_;refine ⟨rfl,_,hY _ _,?_,fun c H n h=>absurd h.1 (by simp)⟩;rintro H2 n2 ⟨_,rfl⟩;refine And.intro (by exact sdI) ?_;refine dsI ?_;refine ifI ?_;refine skI ?_;refine OkS.reg w1 600 (by kernel_rfl) ?_;refine mwI a3 ?_;exact ⟨(2,_),⟨hR,(by dsimp only;omega)⟩,(by dsimp only;omega),wkI⟩
 ·refine exI ?_
  refine OkS.seq ?_;refine OkS.seq ?_;refine OkS.regDY w1 700 [0,1,2,3,4,5,6,7,8,9,10,11,12] [] 13 [14] (b6Z [(14,[13,0,12,11,10,5,4,3,2,1,9,8,7,6]),(13,[0,12,11,10,5,4,3,2,1,9,8,7,6]),(12,[11,10,5,4,3,2,1,9,8,7,6]),(11,[5,10,4,3,2,1,9,8,7,6]),(10,[9,5,8,7,6,4,3,2,1]),(9,[8,7,6]),(8,[7,6]),(7,[6]),(6,[]),(5,[4,3,2,1]),(4,[3,2,1]),(3,[2,1]),(2,[1]),(1,[]),(0,[])] (by kernel_rfl)) hR ?_;refine nxI ?_;refine a0n.same _ (a2s _ 2) inferInstance ?_;refine nxI ?_;refine a0n.same _ (a2s _ 5) inferInstance ?_;refine nxI ?_;refine a0n.same _ (b0D) inferInstance ?_;refine nxI ?_;refine ⟨rfl,_,hY _ _,?_,fun c H n h=>absurd h.1 (by simp)⟩;rintro H2 n2 ⟨_,rfl⟩;refine And.intro (by exact sdI) ?_;refine dsI ?_;refine ifI ?_;refine skI ?_;refine fR 800 ?_;refine OkS.block ?_;refine OkS.loopF (α:=Nat × Nat) (fun p=>⟨[(0,.clo (.yield l) [] []),(1,.pptr (.agg [.sl true 4 [b7L,c0u],.sl true 3 [plA,plB,plC]])),(63,i64 3),(64,i64 p.1)],H2,p.2⟩) (fun p=>3 - p.1)
   (fun p F=>a9n C0 E B F l R∧p.1≤3) (0,_) ⟨hR,Nat.zero_le _⟩ wkI ?_
  clear hR a3 h1;rintro ⟨i,m⟩ F ⟨hR,h1⟩;dsimp only at h1 hR ⊢;refine fR 900 ?_;refine OkS.seq ?_;refine ifI ?_;have hi:i=0∨i=1∨i=2∨i=3:=by omega
  have a3:IntKind.i64.wrap ((i:Int)+1)=((i+1:Nat):Int):=wI (by omega) (by omega);rcases hi with rfl|rfl|rfl|rfl
  ·refine skI ?_
   refine OkS.seq ?_;refine OkS.block ?_;refine fR 1000 ?_;refine OkS.seq ?_;refine OkS.regY w1 1100 [0,1,2,3] 4 [5] rfl (by kernel_rfl) hR ?_;refine nxI ?_;refine a0l.same _ d4v (inferInstanceAs (ArePure [a1C,i64 0])) ?_;refine And.intro (by exact sdI) ?_;refine dsI ?_;refine ⟨rfl,_,hY _ _,?_,fun c H n h=>absurd h.1 (by simp)⟩;rintro H2 n2 ⟨_,rfl⟩;refine And.intro (by exact sdI) ?_;refine dsI ?_;refine ifI ?_;refine skI ?_;refine OkS.reg w1 1200 (by kernel_rfl) ?_;refine mwI a3 ?_;exact ⟨(1,_),⟨hR,(by dsimp only;omega)⟩,(by dsimp only;omega),wkI⟩
  ·refine skI ?_
   refine OkS.seq ?_;refine OkS.block ?_;refine fR 1000 ?_;refine OkS.seq ?_;refine OkS.regY w1 1100 [0,1,2,3] 4 [5] rfl (by kernel_rfl) hR ?_;refine nxI ?_;refine a0l.same _ d4w (inferInstanceAs (ArePure [a1C,i64 1])) ?_;refine And.intro (by exact sdI) ?_;refine dsI ?_;refine ⟨rfl,_,hY _ _,?_,fun c H n h=>absurd h.1 (by simp)⟩;rintro H2 n2 ⟨_,rfl⟩;refine And.intro (by exact sdI) ?_;refine dsI ?_;refine ifI ?_;refine skI ?_;refine OkS.reg w1 1200 (by kernel_rfl) ?_;refine mwI a3 ?_;exact ⟨(2,_),⟨hR,(by dsimp only;omega)⟩,(by dsimp only;omega),wkI⟩
  ·refine skI ?_
   refine OkS.seq ?_;refine OkS.block ?_;refine fR 1000 ?_;refine OkS.seq ?_;refine OkS.regY w1 1100 [0,1,2,3] 4 [5] rfl (by kernel_rfl) hR ?_;refine nxI ?_;refine a0l.same _ d4x (inferInstanceAs (ArePure [a1C,i64 2])) ?_;refine And.intro (by exact sdI) ?_;refine dsI ?_;refine ⟨rfl,_,hY _ _,?_,fun c H n h=>absurd h.1 (by simp)⟩;rintro H2 n2 ⟨_,rfl⟩;refine And.intro (by exact sdI) ?_;refine dsI ?_;refine ifI ?_;refine skI ?_;refine OkS.reg w1 1200 (by kernel_rfl) ?_;refine mwI a3 ?_;exact ⟨(3,_),⟨hR,(by dsimp only;omega)⟩,(by dsimp only;omega),wkI⟩
  ·refine exI ?_
   exact ⟨none,hR.stat,trivial,rfl,rfl⟩
theorem b6Y:a0b C0 27 [a1C] (i64 0):=by
 refine a0c.walk w1 c9Q rfl fun F=>?_
 refine fR 0 ?_;refine OkS.seq ?_;refine fR 100 ?_;refine a0l.same _ c5i (inferInstanceAs (ArePure [a1C])) ?_;refine nxI ?_;refine OkS.block ?_;refine OkS.rangeFunc (fi:=146) (first:=[]) (captured:=[.pptr a1C]) (Ψ:=fun j d H' n'=>j=none∧H'=_) rfl (fun ds H n Φ=>ds=[i64 0]∧Φ=fun j H' n'=>j=none∧H'=H) ?_ (fun E l R hE hY=>c5T hE _ _ (fun H n=>hY _ _ _ _ ⟨rfl,rfl⟩)) ?_
 ·rintro l ds H n Φ ⟨rfl,rfl⟩
  refine ⟨rfl,fun F=>?_⟩;refine fI 200 ?_;refine ⟨rfl,rfl,fun F'=>?_⟩;refine OkS.block ?_;refine fR 300 ?_;refine ifI ?_;refine skI ?_;exact ⟨rfl,rfl⟩
 ·rintro j d H' n' F' ⟨rfl,rfl⟩
  dsimp only [d2X];refine fR 500 ?_;refine rtI ?_;exact a0a rfl IsPure.out
def c0w (c:D→D→Int):Nat→List D→List D
 | 0,l=>l
 | j+1,l=>match l[j+1]? with
  | some x=>match l[j]? with
   | some y=>if c x y<0 then c0w c j ((l.set (j+1) y).set j x) else l
   | none=>l
  | none=>l
def a9q (c:D→D→Int)(l:List D)(k:Nat):List D:=(List.range k).foldl (fun l i=>c0w c (i+1) l) l
theorem b2b (c:D→D→Int)(l:List D)(k:Nat):a9q c l (k+1)=c0w c (k+1) (a9q c l k):=by simp [a9q,List.range_succ]
def Fr4 (x:D):Prop:=∃ a b c d,x=.agg [a,b,c,d]∧IsPure a∧IsPure b∧IsPure c∧IsPure d
theorem b9Z {l m:List D}{j:Nat}{x y:D}(hm:∀ z∈m,z∈l)(hx:m[j+1]? = some x)(hy:m[j]? = some y):(∀ z∈(m.set (j+1) y).set j x,z∈l)∧((m.set (j+1) y).set j x).length=m.length:=by
 refine ⟨fun z hz=>?_,by simp⟩;rcases List.mem_or_eq_of_mem_set hz with h|rfl
 ·rcases List.mem_or_eq_of_mem_set h with h|rfl
  ·exact hm z h
  ·exact hm _ (List.mem_of_getElem? hy)
 ·exact hm _ (List.mem_of_getElem? hx)
theorem b5p (c:D→D→Int){l:List D}:∀ (j:Nat) (m:List D),(∀ z∈m,z∈l)→(∀ z∈c0w c j m,z∈l)∧(c0w c j m).length=m.length
 | 0,m,h=>⟨h,rfl⟩
 | j+1,m,h=>by
  unfold c0w;split
  ·rename_i x hx
   split
   ·rename_i y hy
    split
    ·obtain ⟨h1,h2⟩:=b9Z h hx hy
     obtain ⟨h3,h4⟩:=b5p c j _ h1;exact ⟨h3,h4.trans h2⟩
    ·exact ⟨h,rfl⟩
   ·exact ⟨h,rfl⟩
  ·exact ⟨h,rfl⟩
theorem a7r (c:D→D→Int)(l:List D):∀ k:Nat,(∀ z∈a9q c l k,z∈l)∧(a9q c l k).length=l.length
 | 0=>⟨fun _ h=>h,rfl⟩
 | k+1=>by
  obtain ⟨h1,h2⟩:=a7r c l k;obtain ⟨h3,h4⟩:=b5p c (k+1) _ h1;rw [b2b];exact ⟨h3,h4.trans h2⟩
theorem d2N {x y:D}(hx:Fr4 x)(hy:Fr4 y):ArePure [x,y]:=by
 obtain ⟨a,b,c,d,rfl,h1,h2,h3,h4⟩:=hx;obtain ⟨a',b',c',d',rfl,h1',h2',h3',h4'⟩:=hy;exact inferInstance
abbrev c0N:D:=.clo (.func 141) [] []
theorem c1B (c:D→D→Int)(l:List D)(N:Nat)(hN:l.length=N)(hl:N≤12)(h4:∀ x∈l,Fr4 x)(hc:∀ x∈l,∀ y∈l,a0b C0 141 [x,y] (i64 (c x y)))(g n:Nat) :
  a0m C0 282 [.osl 303 g 4 0 N,i64 0,i64 N,c0N] [⟨303,g,114,4,l⟩] n (fun d H' _=>d=.tup []∧H'=[⟨303,g,114,4,a9q c l (N - 1)⟩]):=by
 refine a0m.walk w1 c3X rfl fun F=>?_
 refine sR 0 ?_;refine OkS.block ?_;refine OkS.loop (α:=Nat × Nat) (fun p=>⟨[(0,.osl 303 g 4 0 N),(1,i64 0),(2,i64 N),(3,c0N),(8,i64 p.1)],[⟨303,g,114,4,a9q c l (p.1 - 1)⟩],p.2⟩) (fun p=>N - p.1)
  (fun p=>1≤p.1∧(p.1≤N∨p.1=1)) (1,_) ⟨Nat.le_refl _,.inr rfl⟩ wkI ?_
 rintro ⟨i,m⟩ F ⟨h1,h2⟩;dsimp only at h1 h2 ⊢;refine OkS.seq ?_;refine sR 100 ?_;refine ifI ?_
 (refine brI (fun h14=>?_) (fun h14=>?_))<;>(try simp only [Bool.not_eq_true',Bool.not_eq_false'] at h14)<;>(try simp only [h14])
 ·have hi:i<N:=by simpa using h14
  obtain ⟨e1,e2⟩:=a7r c l (i - 1);have ei:a9q c l i=c0w c i (a9q c l (i - 1)):=by
   obtain ⟨k,rfl⟩:∃ k,i=k+1:=⟨i - 1,by omega⟩
   exact b2b c l k
  generalize a9q c l (i - 1)=es at *;have wi:IntKind.i64.wrap ((i:Int)+1)=((i+1:Nat):Int):=wI (by omega) (by omega);refine skI ?_;refine OkS.seq ?_;refine OkS.block ?_;refine sR 300 ?_;refine OkS.block ?_;refine OkS.loop (α:=Nat × List D × Nat) (fun p=>⟨[(0,.osl 303 g 4 0 N),(1,i64 0),(2,i64 N),(3,c0N),(8,i64 i),(9,i64 p.1)],[⟨303,g,114,4,p.2.1⟩],p.2.2⟩) (fun p=>p.1)
   (fun p=>p.1≤i∧(∀ z∈p.2.1,z∈l)∧p.2.1.length=N∧c0w c p.1 p.2.1=a9q c l i) (i,es,_) ⟨Nat.le_refl _,e1,e2.trans hN,ei.symm⟩ wkI ?_
  rintro ⟨j,em,k⟩ F ⟨g1,g2,g3,g4⟩;dsimp only at g1 g2 g3 g4 ⊢;refine OkS.seq ?_;refine OkS.seq ?_;rcases j with _|j
  ·have z0:decide (((0:Nat):Int)>0)=false:=rfl
   refine OkS.regD w1 400 [0,1,2,3,4,5,6,7,8,9,10,11,12,13] [14,15,16] (by kernel_rfl) ?_;refine gwI z0 ?_;refine gwI z0 ?_;refine ifI ?_;refine exI ?_;obtain rfl:em=a9q c l i:=g4;refine OkS.reg w1 200 (by kernel_rfl) ?_;refine nwI wi ?_;refine ⟨(i+1,_),⟨by dsimp only;omega,by dsimp only;omega⟩,by dsimp only;omega,wkI⟩
  ·obtain ⟨x,hx⟩:∃ x,em[j+1]? = some x:=⟨em[j+1],List.getElem?_eq_getElem (by omega)⟩
   obtain ⟨y,hy⟩:∃ y,em[j]? = some y:=⟨em[j],List.getElem?_eq_getElem (by omega)⟩
   have mx:=g2 x (List.mem_of_getElem? hx);have my:=g2 y (List.mem_of_getElem? hy);have ap:=d2N (h4 x mx) (h4 y my);have hcc:=hc x mx y my;have g4':(if c x y<0 then c0w c j ((em.set (j+1) y).set j x) else em)=a9q c l i:=by
    rw [← g4,c0w,hx,hy]
   obtain ⟨a1,a2,a3,a4,rfl,-⟩:=h4 x mx;obtain ⟨b1,b2,b3,b4,rfl,-⟩:=h4 y my;have z1:decide (((j+1:Nat):Int)>0)=true:=decide_eq_true (by omega);have w2:IntKind.i64.wrap (((j+1:Nat):Int) - 1)=(j:Int):=by rw [wI (by omega) (by omega)];omega
   refine OkS.regD w1 400 [0,1,2,3,4,5,6,7,8,9,10,11,12,13] [14,15,16] (by kernel_rfl) ?_;refine gwI (ff6 z1 w2 kN Nat.zero_add hx hy) ?_;refine gcI z1 ?_;refine a0l.same _ hcc ap ?_;refine gwI z1 ?_;refine ifI ?_
   (refine brI (fun h34=>?_) (fun h34=>?_))<;>(try simp only [Bool.not_eq_true',Bool.not_eq_false'] at h34)<;>(try simp only [h34])
   ·have hlt:c (.agg [a1,a2,a3,a4]) (.agg [b1,b2,b3,b4])<0:=by simpa using h34
    rw [if_pos hlt] at g4';refine skI ?_;refine OkS.seq ?_;refine OkS.block ?_;have hxl:j+1<em.length:=(List.getElem?_eq_some_iff.1 hx).1;have hz:(em.set (j+1) (.agg [b1,b2,b3,b4]))[j]? = some (.agg [b1,b2,b3,b4]):=by
     rw [List.getElem?_set_ne (by omega)];exact hy
    refine OkS.regW w1 600 [0,1,2,3,4,5,6,7,8,9,10,11,12,13,14,15] [16,17] 15 [10,11,12,13,8,7,6,5,1,0,9,14] (303) (by kernel_rfl) (by kernel_rfl) ?_;refine dsI ?_;refine gvI (ff6 w2 kN Nat.zero_add hx hy hz) ?_;refine And.intro (Or.inl trivial) ?_;refine gwI (ff6 w2 kN Nat.zero_add hx hy hz) ?_;refine OkS.reg w1 500 (by kernel_rfl) ?_;refine nwI w2 ?_;obtain ⟨q1,q2⟩:=b9Z g2 hx hy;refine ⟨(j,(em.set (j+1) (.agg [b1,b2,b3,b4])).set j (.agg [a1,a2,a3,a4]),_),⟨by dsimp only;omega,q1,q2.trans g3,g4'⟩,by dsimp only;omega,wkI⟩
   ·have hlt:¬ c (.agg [a1,a2,a3,a4]) (.agg [b1,b2,b3,b4])<0:=by simpa using h34
    rw [if_neg hlt] at g4';refine exI ?_;subst g4';refine OkS.reg w1 200 (by kernel_rfl) ?_;refine nwI wi ?_;refine ⟨(i+1,_),⟨by dsimp only;omega,by dsimp only;omega⟩,by dsimp only;omega,wkI⟩
 ·have hi:¬ i<N:=by simpa using h14
  refine exI ?_;have he:a9q c l (i - 1)=a9q c l (N - 1):=by
   rcases h2 with h2|h2
   ·rw [show i=N from by omega]
   ·rw [show N - 1=i - 1 from by omega]
  rw [he];exact ⟨trivial,rfl,rfl⟩
theorem d1H (c:D→D→Int)(l:List D)(N:Nat)(hN:l.length=N)(hl:N≤12)(h4:∀ x∈l,Fr4 x)(hc:∀ x∈l,∀ y∈l,a0b C0 141 [x,y] (i64 (c x y)))(lim:Int)(g n:Nat) :
  a0m C0 250 [.osl 303 g 4 0 N,i64 0,i64 N,i64 lim,c0N] [⟨303,g,114,4,l⟩] n (fun d H' _=>d=.tup []∧H'=[⟨303,g,114,4,a9q c l (N - 1)⟩]):=by
 refine a0m.walk w1 c3S rfl fun F=>?_
 refine sR 0 ?_;refine sR 100 ?_;refine OkS.block ?_;refine OkS.loop (α:=Nat) (fun p=>⟨[(0,.osl 303 g 4 0 N),(1,i64 0),(2,i64 N),(3,i64 lim),(4,c0N)],[⟨303,g,114,4,l⟩],p⟩) (fun p=>0)
  (fun p=>True) (_) trivial wkI ?_
 rintro m F -;refine OkS.block ?_;refine OkS.seq ?_;have w1':IntKind.i64.wrap ((N:Int) - 0)=N:=wI (by omega) (by omega);refine OkS.reg w1 200 (by kernel_rfl) ?_;refine nwI w1' ?_;refine OkS.seq ?_;refine OkS.seq ?_;have w2':decide ((N:Int)≤12)=true:=decide_eq_true (by omega);refine OkS.reg w1 300 (by kernel_rfl) ?_;refine nwI w2' ?_;refine ifI ?_;refine sR 400 ?_;refine a0l.own _ (c1B c l N hN hl h4 hc g _) ?_;rintro d H2 n2 ⟨rfl,rfl⟩;refine stI ?_;refine rtI ?_;exact ⟨rfl,rfl⟩
theorem c5b (N:Nat)(hl:N≤12):∃ z,a0b C0 251 [.prim (.int .u64 (IntKind.u64.wrap N))] (i64 z):=by
 have h:N=0∨N=1∨N=2∨N=3∨N=4∨N=5∨N=6∨N=7∨N=8∨N=9∨N=10∨N=11∨N=12:=by omega
 rcases h with rfl|rfl|rfl|rfl|rfl|rfl|rfl|rfl|rfl|rfl|rfl|rfl|rfl
 ·exact ⟨0,a0b.ev a4c 1000 40 (by kernel_rfl)⟩
 ·exact ⟨1,a0b.ev a4c 1000 40 (by kernel_rfl)⟩
 ·exact ⟨2,a0b.ev a4c 1000 40 (by kernel_rfl)⟩
 ·exact ⟨2,a0b.ev a4c 1000 40 (by kernel_rfl)⟩
 ·exact ⟨3,a0b.ev a4c 1000 40 (by kernel_rfl)⟩
 ·exact ⟨3,a0b.ev a4c 1000 40 (by kernel_rfl)⟩
 ·exact ⟨3,a0b.ev a4c 1000 40 (by kernel_rfl)⟩
 ·exact ⟨3,a0b.ev a4c 1000 40 (by kernel_rfl)⟩
 ·exact ⟨4,a0b.ev a4c 1000 40 (by kernel_rfl)⟩
 ·exact ⟨4,a0b.ev a4c 1000 40 (by kernel_rfl)⟩
 ·exact ⟨4,a0b.ev a4c 1000 40 (by kernel_rfl)⟩
 ·exact ⟨4,a0b.ev a4c 1000 40 (by kernel_rfl)⟩
 ·exact ⟨4,a0b.ev a4c 1000 40 (by kernel_rfl)⟩
theorem c2r (c:D→D→Int)(l:List D)(N:Nat)(hN:l.length=N)(hl:N≤12)(h4:∀ x∈l,Fr4 x)(hc:∀ x∈l,∀ y∈l,a0b C0 141 [x,y] (i64 (c x y)))(g n:Nat) :
  a0m C0 205 [.osl 303 g 4 0 N,c0N] [⟨303,g,114,4,l⟩] n (fun d H' _=>d=.tup []∧H'=[⟨303,g,114,4,a9q c l (N - 1)⟩]):=by
 refine a0m.walk w1 c3x rfl fun F=>?_
 refine sR 0 ?_;refine rI 100 ?_;obtain ⟨z,hz⟩:=c5b N hl;refine a0l.same _ hz inferInstance ?_;refine stI ?_;refine a0l.own _ (d1H c l N hN hl h4 hc z g _) ?_;rintro d H2 n2 ⟨rfl,rfl⟩;refine stI ?_;exact ⟨trivial,rfl,rfl⟩
abbrev fV:Nat:=206
theorem b9h {x:D}(h:Fr4 x):a2c x∧∀ d∈x.cells,a2c d:=by
 obtain ⟨a,b,c,d,rfl,⟨h1⟩,⟨h2⟩,⟨h3⟩,⟨h4⟩⟩:=h
 have:∀ y∈[a,b,c,d],a2c y:=fun y hy=>by
  simp only [List.mem_cons,List.not_mem_nil,or_false] at hy;rcases hy with rfl|rfl|rfl|rfl<;>assumption
 exact ⟨.agg this,this⟩
theorem b0V (b:Bool){l:List D}(h4:∀ x∈l,Fr4 x):a2c (.sl b 4 l):=.sl fun e he=>(b9h (h4 e he)).2
theorem b2u (b:Bool){l:List D}(h4:∀ x∈l,Fr4 x):a2c (.clo (.func fV) [] [.pptr (.sl b 4 l)]) :=
 .clo (by simp) fun d hd=>by
  simp only [List.mem_cons,List.not_mem_nil,or_false] at hd;subst hd;exact .pptr fun d hd=>by
   simp only [D.cells,List.mem_cons,List.not_mem_nil,or_false] at hd;subst hd;exact b0V b h4
theorem c6Y (b:Bool)(l:List D)(h4:∀ x∈l,Fr4 x):a0b C0 143 [.sl b 4 l] (.clo (.func fV) [] [.pptr (.sl b 4 l)]):=by
 refine a0c.walkS w1 c3g rfl fun F=>?_
 refine fR 0 ?_;refine fR 100 ?_;refine rtI ?_;exact ⟨_,.clo1 (.ptr rfl rfl rfl rfl),b2u b h4,rfl⟩
def stV (es:List D)(gb:Nat):Nat→Nat→Hp
 | 0,_=>[⟨0,gb,126,1,[a2d]⟩]
 | k+1,g=>[⟨303,g,114,4,es.take (k+1)⟩,⟨0,gb,126,1,[.osl 303 g 4 0 (k+1)]⟩]
def stE (es:List D)(gb k g2:Nat)(x:D):Option Code→Hp→Nat→Prop:=fun j H' _=>j=none∧∃ g q r,H'=[⟨303,g,114,4,es.take (k+1)⟩,⟨200,q,114,4,[r]⟩,⟨202,g2,114,4,[x]⟩,⟨0,gb,126,1,[.osl 303 g 4 0 (k+1)]⟩]
theorem c2A {E:a3s}{l:Nat}{R:LR}(hE:a3s.ok E)(b:Bool)(es:List D)(N:Nat)(hN:es.length=N)(hl:N≤12)(h4:∀ x∈es,Fr4 x)(gb n0:Nat)
  (hY:∀ k x g g2 n,es[k]? = some x→b1t C0 E l R [x] (⟨202,g2,114,4,[x]⟩::stV es gb k g) n (stE es gb k g2 x)) :
  a7I C0 E fV [.clo (.yield l) [] [],.pptr (.sl b 4 es)] l R (stV es gb 0 0) n0 (fun j _ H' _=>j=none∧∃ g,H'=stV es gb N g):=by
 refine a7I.walk w1 hE c3y rfl fun B F hR=>?_
 subst hN;refine sR 0 ?_;refine OkS.block ?_;refine OkS.loopF (α:=Nat × Nat × Nat) (fun p=>⟨[(0,.clo (.yield l) [] []),(1,.pptr (.sl b 4 es)),(5,.sl b 4 es),(6,i64 es.length),(7,i64 p.1)],stV es gb p.1 p.2.1,p.2.2⟩) (fun p=>es.length - p.1)
  (fun p F=>a9n C0 E B F l R∧p.1≤es.length) (0,0,_) ⟨hR,Nat.zero_le _⟩ wkI ?_
 clear hR;rintro ⟨i,g,m⟩ F ⟨hR,h1⟩;dsimp only at h1 hR ⊢;refine sR 100 ?_;refine OkS.seq ?_;refine ifI ?_
 (refine brI (fun h8=>?_) (fun h8=>?_))<;>(try simp only [Bool.not_eq_true',Bool.not_eq_false'] at h8)<;>(try simp only [h8])
 ·have hi:i<es.length:=by simpa using h8
  have a3:IntKind.i64.wrap ((i:Int)+1)=((i+1:Nat):Int):=wI (by omega) (by omega);obtain ⟨x,hx⟩:∃ x,es[i]? = some x:=⟨es[i],List.getElem?_eq_getElem (by omega)⟩
  obtain ⟨x1,x2,x3,x4,rfl,-⟩:=h4 x (List.mem_of_getElem? hx);have hY':=fun g2 n=>hY i _ g g2 n hx
  refine skI ?_;refine OkS.seq ?_;refine OkS.block ?_;refine OkS.seq ?_;rcases i with _|i
  ·dsimp only [stV] at hY' ⊢
   refine fI 200 ?_;refine ⟨⟨rfl,by omega⟩,_,hx,?_⟩;refine dsI ?_
   try dsimp only [D.cells,spot]
   refine nxI ?_;refine OkS.seq ?_;refine OkS.regY w1 300 [0,1] 2 [3] rfl (by kernel_rfl) hR ?_;refine nxI ?_;refine ⟨rfl,_,hY' _ _,?_,fun c H n h=>absurd h.1 (by simp)⟩;rintro H2 n2 ⟨_,g',q,r,rfl⟩;refine And.intro (by exact sdI) ?_;refine dsI ?_;refine ifI ?_;refine skI ?_;refine OkS.reg w1 400 (by kernel_rfl) ?_;refine mwI a3 ?_;exact ⟨(1,g',_),⟨hR,(by dsimp only;omega)⟩,(by dsimp only;omega),wkI⟩
  ·dsimp only [stV] at hY' ⊢
   refine fI 200 ?_;refine ⟨⟨rfl,by omega⟩,_,hx,?_⟩;refine dsI ?_
   try dsimp only [D.cells,spot]
   refine nxI ?_;refine OkS.seq ?_;refine OkS.regY w1 300 [0,1] 2 [3] rfl (by kernel_rfl) hR ?_;refine nxI ?_;refine ⟨rfl,_,hY' _ _,?_,fun c H n h=>absurd h.1 (by simp)⟩;rintro H2 n2 ⟨_,g',q,r,rfl⟩;refine And.intro (by exact sdI) ?_;refine dsI ?_;refine ifI ?_;refine skI ?_;refine OkS.reg w1 400 (by kernel_rfl) ?_;refine mwI a3 ?_;exact ⟨(i+2,g',_),⟨hR,(by dsimp only;omega)⟩,(by dsimp only;omega),wkI⟩
 ·have hi:i=es.length:=by
   have:¬ i<es.length:=by simpa using h8
   omega
  subst hi;refine exI ?_;exact ⟨none,hR.stat,trivial,rfl,_,rfl⟩
def d4n (es:List D):D→Hp→Nat→Prop:=fun d H' _=>∃ g q,d=.osl 303 g 4 0 es.length∧H'=[⟨303,g,114,4,es⟩,⟨0,q,126,1,[.osl 303 g 4 0 es.length]⟩]
theorem c6Z (b:Bool)(es:List D)(h0:es≠[])(hl:es.length≤12)(h4:∀ x∈es,Fr4 x)(n:Nat) :
  a0m C0 249 [a2d,.clo (.func fV) [] [.pptr (.sl b 4 es)]] [] n (d4n es):=by
 refine a0m.walk w1 c3R rfl fun F=>?_
 refine sR 0 ?_;refine OkS.seq ?_;refine sR 100 ?_;refine OkS.block ?_;refine OkS.rangeFunc (fi:=fV) (first:=[]) (captured:=[.pptr (.sl b 4 es)]) (Ψ:=fun j _ H' _=>j=none∧∃ g,H'=stV es _ es.length g) rfl
  (fun ds H _ Φ=>∃ k x g g2,es[k]? = some x∧ds=[x]∧H=⟨202,g2,114,4,[x]⟩::stV es _ k g∧Φ=stE es _ k g2 x) ?_ (fun E l R hE hY=>c2A hE b es _ rfl hl h4 _ _ (fun k x g g2 n hx=>hY _ _ _ _ ⟨k,x,g,g2,hx,rfl,rfl,rfl⟩)) ?_
 ·rintro l ds H m Φ ⟨k,x,g,g2,hx,rfl,rfl,rfl⟩
  have hk:k<es.length:=(List.getElem?_eq_some_iff.1 hx).1;obtain ⟨x1,x2,x3,x4,rfl,-⟩:=h4 x (List.mem_of_getElem? hx);refine ⟨rfl,fun F=>?_⟩;rcases k with _|k
  ·dsimp only [stV,a9s]
   refine fI 200 ?_;refine ⟨rfl,rfl,fun F'=>?_⟩;refine OkS.block ?_;refine fI 300 ?_;have t1:es.take (0+1)=[.agg [x1,x2,x3,x4]]:=by rw [List.take_add_one,hx];rfl
   unfold stE;rw [t1];exact ⟨rfl,_,_,_,rfl⟩
  ·have t2:es.take (k+1+1)=es.take (k+1)++[.agg [x1,x2,x3,x4]]:=by rw [List.take_add_one,hx];rfl
   have tl:(es.take (k+1)).length=k+1:=by rw [List.length_take];omega
   dsimp only [stV,a9s];generalize es.take (k+1)=t at *;refine fI 200 ?_;refine ⟨rfl,rfl,fun F'=>?_⟩;refine OkS.block ?_;refine fI 300 ?_;unfold stE;rw [t2,List.take_of_length_le (show t.length≤k+1 by omega)];exact ⟨rfl,_,_,_,rfl⟩
 ·rintro j d H' n' F' ⟨rfl,g,rfl⟩
  dsimp only [d2X];obtain ⟨N,hN⟩:∃ N,es.length=N+1:=⟨es.length - 1,by have:=List.length_pos_iff.2 h0;omega⟩
  have ht:es.take (N+1)=es:=by rw [← hN];exact List.take_length
  unfold d4n;rw [hN];dsimp only [stV];rw [ht];refine fR 400 ?_;refine rtI ?_;exact ⟨_,_,rfl,rfl⟩
theorem c5h (b:Bool)(es:List D)(h0:es≠[])(hl:es.length≤12)(h4:∀ x∈es,Fr4 x)(n:Nat) :
  a0m C0 204 [.clo (.func fV) [] [.pptr (.sl b 4 es)]] [] n (d4n es):=by
 refine a0m.walk w1 c3w rfl fun F=>?_
 refine fR 0 ?_;refine fR 100 ?_;refine a0l.own _ (c6Z b es h0 hl h4 _) ?_;rintro d H2 n2 ⟨g,q,rfl,rfl⟩;refine nxI ?_;refine rtI ?_;exact ⟨_,_,rfl,rfl⟩
theorem b9R (c:D→D→Int)(b:Bool)(es:List D)(h0:es≠[])(hl:es.length≤12)(h4:∀ x∈es,Fr4 x)(hc:∀ x∈es,∀ y∈es,a0b C0 141 [x,y] (i64 (c x y))) :
  a0b C0 142 [.clo (.func fV) [] [.pptr (.sl b 4 es)],c0N] (.sl false 4 (a9q c es (es.length - 1))):=by
 refine a0c.walk w1 c3f rfl fun F=>?_
 refine fR 0 ?_;refine fR 100 ?_;refine a0l.own _ (c5h b es h0 hl h4 _) ?_;rintro d H2 n2 ⟨g,q,rfl,rfl⟩;refine nxI ?_;refine OkS.weak ⟨[(5,.osl 303 g 4 0 es.length),(1,c0N)],[⟨303,g,114,4,es⟩],_⟩ wkI ?_;refine fR 200 ?_;refine a0l.own _ (c2r c es _ rfl hl h4 hc g _) ?_;rintro d H2 n3 ⟨rfl,rfl⟩;refine nxI ?_;refine fR 300 ?_;refine rtI ?_;obtain ⟨i1,i2⟩:=a7r c es (es.length - 1);generalize a9q c es (es.length - 1)=m at *;rw [← i2];exact ⟨_,b1T _ _ _ _ _,b0V false fun x hx=>h4 x (i1 x hx),rfl⟩
theorem b8z (c:D→D→Int)(b:Bool)(es:List D)(hl:es.length=3)(h4:∀ x∈es,Fr4 x)(hc:∀ x∈es,∀ y∈es,a0b C0 141 [x,y] (i64 (c x y)))(x:D)(hx:(a9q c es 2)[1]? = some x) :
  a0b C0 64 [.sl b 4 es] x:=by
 refine a0c.walk w1 d0R rfl fun F=>?_
 have h0:es≠[]:=fun h=>by rw [h] at hl;cases hl
 obtain ⟨i1,i2⟩:=a7r c es 2;have q1:=c6Y b es h4;have q2:=b9R c b es h0 (by omega) h4 hc;rw [hl] at q2;have hp:ArePure [.sl b 4 es]:=⟨fun d hd=>by simp at hd;subst hd;exact b0V b h4⟩
 have hp2:ArePure [.clo (.func fV) [] [.pptr (.sl b 4 es)],c0N]:=⟨fun d hd=>by
  simp at hd;rcases hd with rfl|rfl
  ·exact b2u b h4
  ·exact .clo (by simp) (by simp)⟩
 have hxf:=h4 x (i1 x (List.mem_of_getElem? hx));obtain ⟨x1,x2,x3,x4,rfl,-⟩:=id hxf;refine fR 0 ?_;refine fR 100 ?_;refine a0l.same _ q1 hp ?_;refine nxI ?_;refine a0l.same _ q2 hp2 ?_;refine nxI ?_;refine OkS.seq ?_;rw [hl] at i2;refine OkS.reg w1 200 (by kernel_rfl) ?_;have w3:((a9q c es 2).length:Int)=3:=by rw [i2];rfl
 have w4:IntKind.i64.wrap ((3:Int).tdiv 2)=1:=wI (by decide) (by decide);refine gwI (ff2 w3 @w4) ?_;refine ixI kT hx ?_;refine stI ?_;refine rtI ?_;exact a0a rfl (b9h hxf).1
def d2E:List (Nat × List D × D):=[(39,[a1C,.sl true 1 [.prim (.string ⟨#[54,55,47,53]⟩),.prim (.string ⟨#[55,57]⟩)]],.tup [.prim (.int .i64 1),.prim (.int .i64 0)]),(41,[a1C,.sl true 1 [.prim (.string ⟨#[54,55,47,53]⟩),.prim (.string ⟨#[55,57]⟩)]],.tup [.sl false 1 [.prim (.int .i64 0)],.prim (.int .i64 0)]),(42,[a1C,.prim (.int .i64 0),.sl true 1 [.prim (.string ⟨#[54,55,47,53]⟩),.prim (.string ⟨#[55,57]⟩)],.sl true 3 [.agg [.prim (.int .i64 0),.prim (.string ⟨#[49,47,50]⟩),.prim (.string ⟨#[51]⟩)]]],.tup [.prim (.string ⟨#[51]⟩),.prim (.int .i64 0)]),(43,[a1C,.sl true 2 [.agg [.prim (.string ⟨#[49,53]⟩),.prim (.string ⟨#[49,55]⟩)],.agg [.prim (.string ⟨#[55,55]⟩),.prim (.string ⟨#[56,48]⟩)]]],.tup [.sl false 1 [.prim (.int .i64 2),.prim (.int .i64 3)],.prim (.int .i64 0)]),(20,[b1L,.prim (.string ⟨#[49,51,52,52,57,47,49,48,48,48]⟩)],.tup [.prim (.string ⟨#[54,55,47,53]⟩),.agg [.prim (.string ⟨#[54,54,47,53]⟩),.prim (.string ⟨#[54,56,47,53]⟩)],.prim (.int .i64 0)]),(22,[b1L,.sl true 1 [.prim (.string ⟨#[54,55,47,53]⟩),.prim (.string ⟨#[54,57,47,53]⟩),.prim (.string ⟨#[54,56,47,53]⟩)]],.tup [.prim (.string ⟨#[54,56,47,53]⟩),.prim (.int .i64 0)]),(16,[.sl true 1 [.sl true 2 [.agg [.prim (.string ⟨#[49,50]⟩),.prim (.string ⟨#[49,51]⟩)]],.sl true 2 [.agg [.prim (.string ⟨#[49,52]⟩),.prim (.string ⟨#[49,53]⟩)]]],.sl true 1 [.prim (.int .i64 1),.prim (.int .i64 3)]],.tup [.sl false 2 [.agg [.prim (.string ⟨#[50,55,47,50]⟩),.prim (.string ⟨#[50,57,47,50]⟩)]],.prim (.int .i64 0)]),(12,[.prim (.string ⟨#[113,117,105,110,99,117,110,120]⟩),.prim (.int .i64 5),.prim (.int .i64 400),.prim (.int .i64 200)],.tup [a8B,.prim (.int .i64 0)]),(30,[a8B,.prim (.int .i64 400),.prim (.int .i64 200)],.tup [.prim (.string ⟨#[49,50,53,48,48]⟩),.prim (.int .i64 0)])]
instance d5b:IsPure a1C:=⟨a6F⟩
instance d4o:IsPure b1L:=⟨a0T (n:=30) (by kernel_rfl)⟩
instance d4p:IsPure a8B:=⟨a0T (n:=30) (by kernel_rfl)⟩
theorem c6O (K:Kn):∀ e∈d2E,a0b C0 e.1 e.2.1 e.2.2∧ArePure e.2.1:=by
 intro e he;simp only [d2E,List.mem_cons,List.not_mem_nil,or_false] at he;rcases he with rfl|rfl|rfl|rfl|rfl|rfl|rfl|rfl|rfl
 ·exact ⟨d5r K,inferInstance⟩
 ·exact ⟨d5s K,inferInstance⟩
 ·exact ⟨d5t K,inferInstance⟩
 ·exact ⟨d5u K,inferInstance⟩
 ·exact ⟨d5o K,inferInstance⟩
 ·exact ⟨d5p K,inferInstance⟩
 ·exact ⟨d5n K,inferInstance⟩
 ·exact ⟨d5m K,inferInstance⟩
 ·exact ⟨d5q K,inferInstance⟩
noncomputable def X3:EV:=⟨tt2,xbt.get,fbt.get,fun _=>false,b3p d2E,mtA,b6x⟩
theorem d5h (K:Kn):a9k C0 X3:=⟨d2g,b3Q,ftab,a7p d2E (c6O K),by kernel_rfl,b2l,a5w⟩
theorem c0G (K:Kn):a0b C0 9 [] (boo true):=a0b.ev (d5h K) 1000 40 (by kernel_rfl)
def d5y (x y:D):Int:=match asQ x with
 | some p=>match asQ y with
  | some q=>a6e (p.n*q.d) (q.n*p.d)
  | none=>0
 | none=>0
theorem d5F (p:Q2):Fr4 p.D:=⟨_,_,_,_,rfl,inferInstance,inferInstance,inferInstance,inferInstance⟩
theorem b3D {x:D}(h:x∈c7r):∃ p:Q2,x=p.D∧Sm p.n∧p.d=5∧Sm (p.n*5):=by
 simp only [c7r,List.mem_cons,List.not_mem_nil,or_false] at h;rcases h with rfl|rfl|rfl
 ·exact ⟨⟨67,5⟩,rfl,a0C rfl,rfl,a0C rfl⟩
 ·exact ⟨⟨69,5⟩,rfl,a0C rfl,rfl,a0C rfl⟩
 ·exact ⟨⟨68,5⟩,rfl,a0C rfl,rfl,a0C rfl⟩
theorem d4d:Kn:=by
 refine ⟨b6Y,fun b=>b8z d5y b c7r rfl (fun x hx=>?_) (fun x hx y hy=>?_) d4f rfl⟩
 ·obtain ⟨p,rfl,_⟩:=b3D hx
  exact d5F p
 ·obtain ⟨p,rfl,h1,h2,h3⟩:=b3D hx
  obtain ⟨q,rfl,g1,g2,g3⟩:=b3D hy
  have:=b7G p q h1 g1 (by rw [h2];exact a0C rfl) (by rw [g2];exact a0C rfl) (by rw [g2];exact h3) (by rw [h2];exact g3)
  exact this
abbrev BB:Nat:=18446744073709551616
def a0e (n:Nat):List Nat:=if _h:n=0 then [] else (n%BB)::a0e (n / BB)
termination_by n
decreasing_by exact Nat.div_lt_self (Nat.pos_of_ne_zero _h) (by decide)
def a0i:List Nat→Nat
 | []=>0
 | a::l=>a+BB*a0i l
def Wd (l:List Nat):Prop:=∀ a∈l,a<BB
theorem a0K:a0e 0=[]:=by unfold a0e;rfl
theorem a1b {n:Nat}(h:n≠0):a0e n=(n%BB)::a0e (n / BB):=by rw [a0e,dif_neg h]
theorem a1e (n:Nat):Wd (a0e n):=by
 induction n using Nat.strongRecOn with
 | ind n ih =>
  by_cases h:n=0
  ·subst h;rw [a0K];intro a ha;cases ha
  ·rw [a1b h]
   intro a ha;rcases List.mem_cons.1 ha with rfl|ha
   ·exact Nat.mod_lt _ (by decide)
   ·exact ih _ (Nat.div_lt_self (Nat.pos_of_ne_zero h) (by decide)) a ha
theorem a0J (n:Nat):a0i (a0e n)=n:=by
 induction n using Nat.strongRecOn with
 | ind n ih =>
  by_cases h:n=0
  ·subst h;rw [a0K];rfl
  ·rw [a1b h,a0i,ih _ (Nat.div_lt_self (Nat.pos_of_ne_zero h) (by decide))]
   exact Nat.mod_add_div n BB
theorem a1H (l m:List Nat):a0i (l++m)=a0i l+BB^l.length*a0i m:=by
 induction l with
 | nil=>simp [a0i]
 | cons a l ih =>
  simp only [List.cons_append,a0i,ih,List.length_cons,Nat.pow_succ,Nat.mul_add];rw [Nat.mul_comm (BB^l.length) BB,Nat.mul_assoc,Nat.add_assoc]
theorem Wd.tail {a:Nat}{l:List Nat}(h:Wd (a::l)):Wd l:=fun b hb=>h b (List.mem_cons_of_mem _ hb)
theorem Wd.head {a:Nat}{l:List Nat}(h:Wd (a::l)):a<BB:=h a List.mem_cons_self
theorem Wd.append {l m:List Nat}(h:Wd l)(k:Wd m):Wd (l++m):=fun a ha=>(List.mem_append.1 ha).elim (h a) (k a)
theorem Wd.take {l:List Nat}(h:Wd l)(n:Nat):Wd (l.take n):=fun a ha=>h a (List.mem_of_mem_take ha)
theorem a2H:∀ {l:List Nat},Wd l→a0i l<BB^l.length
 | [],_=>by simp [a0i]
 | a::l,h=>by
  have h1:=a2H h.tail;have h2:=h.head;rw [a0i,List.length_cons,Nat.pow_succ]
  calc a+BB*a0i l<BB+BB*a0i l:=by omega
   _=BB*(a0i l+1):=by rw [Nat.mul_add,Nat.mul_one,Nat.add_comm]
   _≤BB*BB^l.length:=Nat.mul_le_mul_left _ h1
   _=_:=Nat.mul_comm _ _
theorem b2h:∀ {l:List Nat},Wd l→(∀ a∈l.getLast?,a≠0)→a0e (a0i l)=l
 | [],_,_=>a0K
 | [a],h,hl=>by
  have ha:a≠0:=hl a (by simp);have hb:=h.head;rw [show a0i [a]=a from by simp [a0i],a1b ha,Nat.mod_eq_of_lt hb,Nat.div_eq_of_lt hb,a0K]
 | a::b::l,h,hl=>by
  have ih:=b2h h.tail (fun x hx=>hl x (by simpa using hx));have hb:=h.head;have hv:a0i (b::l)≠0:=by
   intro h0;rw [h0,a0K] at ih;cases ih
  have e1:a0i (a::b::l)%BB=a:=by rw [a0i,Nat.add_mul_mod_self_left,Nat.mod_eq_of_lt hb]
  have e2:a0i (a::b::l) / BB=a0i (b::l):=by
   rw [a0i,Nat.add_mul_div_left _ _ (by decide),Nat.div_eq_of_lt hb,Nat.zero_add]
  have hne:a0i (a::b::l)≠0:=by
   intro h0;rw [h0] at e2;exact hv (by rw [← e2];rfl)
  rw [a1b hne,e1,e2,ih]
theorem a4V:∀ (k:Nat),a0i (List.replicate k 0)=0
 | 0=>rfl
 | k+1=>by rw [List.replicate_succ,a0i,a4V k,Nat.mul_zero]
theorem a9S {l:List Nat}(h:Wd l)(n:Nat)(hz:∀ j,n≤j→∀ a,l[j]? = some a→a=0)(hn:n≤l.length)(hl:∀ m,n=m+1→∀ a,l[m]? = some a→a≠0):l.take n=a0e (a0i l):=by
 have hd:l.drop n=List.replicate (l.length - n) 0:=by
  refine List.ext_getElem? fun i=>?_
  rw [List.getElem?_drop,List.getElem?_replicate];split
  ·rename_i hi
   rw [List.getElem?_eq_getElem (by omega)]
   congr 1
   exact hz _ (Nat.le_add_right _ _) _ (List.getElem?_eq_getElem (by omega))
  ·exact List.getElem?_eq_none (by omega)
 have hv:a0i l=a0i (l.take n):=by
  conv=>lhs;rw [← List.take_append_drop n l]
  rw [a1H,hd,a4V,Nat.mul_zero,Nat.add_zero]
 rw [hv];refine (b2h (h.take n) fun a ha=>?_).symm
 match n,hl,hn with
 | 0,_,_=>simp at ha
 | m+1,hl,hn =>
  refine hl m rfl a ?_;rw [List.getLast?_eq_getElem?,List.length_take,Nat.min_eq_left hn,List.getElem?_take,if_pos (by omega)] at ha;simpa using ha
abbrev a0h (n:Nat):D:=u64 (n:Int)
def wL (l:List Nat):D:=.sl false 1 (l.map a0h)
def wD (n:Nat):D:=wL (a0e n)
theorem a4v (l:List Nat):a2c (wL l):=.sl fun e he d hd=>by
 obtain ⟨a,_,rfl⟩:=List.mem_map.1 he;simp only [D.cells,List.mem_cons,List.not_mem_nil,or_false] at hd;subst hd;exact .prim _
instance  (l:List Nat):IsPure (wL l):=⟨a4v l⟩
instance  (n:Nat):IsPure (wD n):=⟨a4v _⟩
theorem a1i {l:List Nat}{i a:Nat}(h:l[i]? = some a):(l.map a0h)[i]? = some (a0h a):=by rw [List.getElem?_map,h];rfl
theorem trim_ok (l:List Nat)(h:Wd l)(hlen:l.length<4000000000):a0b C0 234 [wL l] (wD (a0i l)):=by
 refine a0c.walk w1 c3J rfl fun F=>?_
 unfold wL;refine sR 0 ?_;refine sR 100 ?_;refine OkS.seq ?_;refine OkS.block ?_;have hml:((l.map a0h).length:Int)=(l.length:Int):=by rw [List.length_map]
 rw [hml];refine OkS.loop (α:=Nat × Nat) (fun p=>⟨[(0,.sl false 1 (l.map a0h)),(3,i64 p.1)],[],p.2⟩) (fun p=>p.1)
  (fun p=>p.1≤l.length∧∀ j,p.1≤j→∀ a,l[j]? = some a→a=0) (l.length,_) ⟨Nat.le_refl _,fun j hj a ha=>by rw [List.getElem?_eq_none hj] at ha;cases ha⟩ wkI ?_
 rintro ⟨n,m⟩ F ⟨h1,h2⟩;dsimp only at h1 h2 ⊢;refine OkS.seq ?_;refine OkS.seq ?_;rcases n with _|n
 ·have z0:decide (((0:Nat):Int)>0)=false:=rfl
  refine OkS.reg w1 200 (by kernel_rfl) ?_;refine gwI z0 ?_;refine ifI ?_;refine exI ?_;have ht:=a9S h 0 h2 (Nat.zero_le _) (by simp);refine sR 400 ?_;refine rtI ?_;refine a0a (d0:=wL (l.take 0)) ?_ IsPure.out;rw [ht];rfl
 ·obtain ⟨a,ha⟩:∃ a,l[n]? = some a:=⟨l[n],List.getElem?_eq_getElem (by omega)⟩
  have hx:=a1i ha;have z1:decide (((n+1:Nat):Int)>0)=true:=decide_eq_true (by omega);have w2:IntKind.i64.wrap (((n+1:Nat):Int) - 1)=(n:Int):=by rw [wI (by omega) (by omega)];omega
  refine OkS.reg w1 200 (by kernel_rfl) ?_;refine gwI (ff2 z1 w2) ?_;refine ixI z1 hx ?_;refine gwI (ff2 z1 w2) ?_;refine ifI ?_
  (refine brI (fun h15=>?_) (fun h15=>?_))<;>(try simp only [Bool.not_eq_true',Bool.not_eq_false'] at h15)<;>(try simp only [h15])
  ·have ha0:a=0:=by
    have:(a:Int)=0:=by simpa using h15
    omega
   subst ha0;refine skI ?_;refine OkS.block ?_;refine OkS.reg w1 300 (by kernel_rfl) ?_;refine nwI w2 ?_;refine ⟨(n,_),⟨by dsimp only;omega,fun j hj b hb=>?_⟩,by dsimp only;omega,wkI⟩;rcases Nat.eq_or_lt_of_le hj with rfl|hlt
   ·exact Option.some.inj (hb.symm.trans ha)
   ·exact h2 j hlt b hb
  ·have ha0:a≠0:=by
    intro h0;subst h0;simp at h15
   refine exI ?_;have ht:=a9S h (n+1) h2 h1 (fun m hm b hb=>by
    obtain rfl:n=m:=by omega
    rw [ha] at hb;cases hb;exact ha0)
   refine sR 400 ?_;refine rtI ?_;have e4:List.take ((((n+1:Nat):Int)).toNat - 0) (List.drop 0 (l.map a0h))=(l.take (n+1)).map a0h:=by
    rw [List.map_take];simp
   rw [e4];refine a0a (d0:=wL (l.take (n+1))) ?_ IsPure.out;rw [ht];rfl
theorem a0A (b:Nat):∀ a,b≤a→(a0e b).length≤(a0e a).length:=by
 induction b using Nat.strongRecOn with
 | ind b ih =>
  intro a h
  by_cases hb:b=0
  ·subst hb;rw [a0K];exact Nat.zero_le _
  ·rw [a1b hb,a1b (n:=a) (by omega),List.length_cons,List.length_cons]
   exact Nat.succ_le_succ (ih _ (Nat.div_lt_self (Nat.pos_of_ne_zero hb) (by decide)) _ (Nat.div_le_div_right h))
theorem a6O {a b:Nat}(h:(a0e a).length<(a0e b).length):a<b:=by
 rcases Nat.lt_or_ge a b with h1|h1
 ·exact h1
 ·have:=a0A b a h1;omega
theorem a4G {l:List Nat}{k a:Nat}(h:l[k]? = some a):a0i l=a0i (l.take k)+BB^k*(a+BB*a0i (l.drop (k+1))):=by
 have hk:k<l.length:=(List.getElem?_eq_some_iff.1 h).1
 conv=>lhs;rw [← List.take_append_drop k l]
 rw [a1H,List.length_take,Nat.min_eq_left (by omega)]
 have:l.drop k=a::l.drop (k+1):=by
  rw [List.drop_eq_getElem_cons hk]
  congr 1
  exact (List.getElem?_eq_some_iff.1 h).2
 rw [this,a0i]
theorem b0n {l m:List Nat}{k a b:Nat}(hl:Wd l)(ha:l[k]? = some a)(hb:m[k]? = some b)(hd:l.drop (k+1)=m.drop (k+1))(hab:a<b):a0i l<a0i m:=by
 have hk:k<l.length:=(List.getElem?_eq_some_iff.1 ha).1;rw [a4G ha,a4G hb,hd];have h1:=a2H (hl.take k);rw [List.length_take,Nat.min_eq_left (by omega)] at h1;generalize a0i (m.drop (k+1))=r;have h2:BB^k*(a+BB*r)+BB^k≤BB^k*(b+BB*r):=by
  rw [← Nat.mul_succ];exact Nat.mul_le_mul_left _ (by omega)
 omega
theorem b0z (a b:Nat)(ha:(a0e a).length<4000000000)(hb:(a0e b).length<4000000000):a0b C0 224 [wD a,wD b] (i64 (a6e a b)):=by
 refine a0c.walk w1 c3E rfl fun F=>?_
 have hwa:=a1e a;have hwb:=a1e b;have va:=a0J a;have vb:=a0J b;have hlt:=@a6O a b;have hgt:=@a6O b a;unfold wD wL a6e;generalize a0e a=la at *;generalize a0e b=lb at *;have ea:(((la.map a0h).length:Nat):Int)=(la.length:Int):=by rw [List.length_map]
 have eb:(((lb.map a0h).length:Nat):Int)=(lb.length:Int):=by rw [List.length_map]
 refine sR 0 ?_;refine OkS.seq ?_;refine sZ 100 ?_;refine nwI (ff2 ea eb) ?_;refine ifI ?_
 (refine brI (fun h10=>?_) (fun h10=>?_))<;>(try simp only [Bool.not_eq_true',Bool.not_eq_false'] at h10)<;>(try simp only [h10])
 ·have hne:la.length≠lb.length:=by
   have:(la.length:Int)≠lb.length:=by simpa using h10
   omega
  refine OkS.seq ?_;refine sZ 200 ?_;refine nwI (ff2 ea eb) ?_;refine ifI ?_
  (refine brI (fun h15=>?_) (fun h15=>?_))<;>(try simp only [Bool.not_eq_true',Bool.not_eq_false'] at h15)<;>(try simp only [h15])
  ·have h1:la.length<lb.length:=by
    have:(la.length:Int)<lb.length:=by simpa using h15
    omega
   rw [if_pos (by have:=hlt h1;omega)];refine sR 300 ?_;refine rtI ?_;exact a0a rfl IsPure.out
  ·have h1:lb.length<la.length:=by
    have:¬ (la.length:Int)<lb.length:=by simpa using h15
    omega
   have h2:=hgt h1;rw [if_neg (by omega),if_pos (by omega)];refine skI ?_;refine sR 400 ?_;refine rtI ?_;exact a0a rfl IsPure.out
 ·have hl:la.length=lb.length:=by
   have:(la.length:Int)=lb.length:=by simpa using h10
   omega
  clear hlt hgt;refine skI ?_;refine OkS.seq ?_;refine sZ 500 ?_;refine nwI ea ?_;refine OkS.block ?_;have w0:IntKind.i64.wrap ((la.length:Int) - 1)=(la.length:Int) - 1:=wI (by omega) (by omega);rw [w0];refine OkS.loop (α:=Nat × Nat) (fun p=>⟨[(0,.sl false 1 (la.map a0h)),(1,.sl false 1 (lb.map a0h)),(5,i64 ((p.1:Int) - 1))],[],p.2⟩) (fun p=>p.1)
   (fun p=>p.1≤la.length∧la.drop p.1=lb.drop p.1) (la.length,_) ⟨Nat.le_refl _,by rw [List.drop_length,hl,List.drop_length]⟩ wkI ?_
  rintro ⟨k,m⟩ F ⟨h1,h2⟩;dsimp only at h1 h2 ⊢;refine OkS.seq ?_;refine sR 600 ?_;refine ifI ?_
  (refine brI (fun h20=>?_) (fun h20=>?_))<;>(try simp only [Bool.not_eq_true',Bool.not_eq_false'] at h20)<;>(try simp only [h20])
  ·obtain ⟨j,rfl⟩:∃ j,k=j+1:=⟨k - 1,by
    have:(k:Int) - 1≥0:=by simpa using h20
    omega⟩
   have wj:((j+1:Nat):Int) - 1=(j:Int):=by omega
   obtain ⟨x,hx⟩:∃ x,la[j]? = some x:=⟨la[j],List.getElem?_eq_getElem (by omega)⟩
   obtain ⟨y,hy⟩:∃ y,lb[j]? = some y:=⟨lb[j],List.getElem?_eq_getElem (by omega)⟩
   have hx':=a1i hx;have hy':=a1i hy;rw [wj];refine skI ?_;refine OkS.seq ?_;refine OkS.block ?_;refine OkS.seq ?_;refine OkS.regD w1 800 [0,1,2,3,4,5,6,7] [8] (by kernel_rfl) ?_;refine gwI kN ?_;refine ixI kT hx' ?_;refine gwI kN ?_;refine ixI kT hy' ?_;refine gwI kN ?_;refine gwI kN ?_;refine ifI ?_
   (refine brI (fun h31=>?_) (fun h31=>?_))<;>(try simp only [Bool.not_eq_true',Bool.not_eq_false'] at h31)<;>(try simp only [h31])
   ·have hne:x≠y:=by
     intro h0;subst h0;simp at h31
    refine OkS.seq ?_;refine OkS.seq ?_;refine OkS.regD w1 900 [0,1,2,3,4,5,6,7] [8] (by kernel_rfl) ?_;refine gwI kN ?_;refine ixI kT hx' ?_;refine gwI kN ?_;refine ixI kT hy' ?_;refine gwI kN ?_;refine gwI kN ?_;refine ifI ?_
    (refine brI (fun h40=>?_) (fun h40=>?_))<;>(try simp only [Bool.not_eq_true',Bool.not_eq_false'] at h40)<;>(try simp only [h40])
    ·have hxy:x<y:=by
      have:(x:Int)<y:=by simpa using h40
      omega
     have:=b0n hwa hx hy h2 hxy
     rw [if_pos (by omega)];refine sR 1000 ?_;refine rtI ?_;exact a0a rfl IsPure.out
    ·have hxy:y<x:=by
      have:¬ (x:Int)<y:=by simpa using h40
      omega
     have:=b0n hwb hy hx h2.symm hxy
     rw [if_neg (by omega),if_pos (by omega)];refine skI ?_;refine sR 1100 ?_;refine rtI ?_;exact a0a rfl IsPure.out
   ·have hxy:x=y:=by
     have:(x:Int)=y:=by simpa using h31
     omega
    subst hxy;have w5:IntKind.i64.wrap ((j:Int) - 1)=(j:Int) - 1:=wI (by omega) (by omega);refine skI ?_;refine OkS.reg w1 700 (by kernel_rfl) ?_;refine nwI w5 ?_;have hj:=(List.getElem?_eq_some_iff.1 hx)
    have hj':=(List.getElem?_eq_some_iff.1 hy)
    refine ⟨(j,_),⟨by dsimp only;omega,?_⟩,by dsimp only;omega,wkI⟩;dsimp only;rw [List.drop_eq_getElem_cons hj.1,List.drop_eq_getElem_cons hj'.1,hj.2,hj'.2,h2]
  ·have hk:k=0:=by
    have:¬ ((k:Int) - 1≥0):=by simpa using h20
    omega
   subst hk;have hab:a=b:=by
    rw [← va,← vb]
    have:la=lb:=by simpa using h2
    rw [this]
   subst hab;rw [if_neg (by omega),if_neg (by omega)];refine exI ?_;refine sR 1200 ?_;refine rtI ?_;exact a0a rfl IsPure.out
theorem b3Z {a b c:Nat}(hc:c≤1):b6x 254 [a0h a,a0h b,a0h c]=some (.tup [a0h ((a+b+c)%BB),a0h ((a+b+c) / BB)]):=by
 show (match Nat.ble c 1 with
  | true=>some (D.tup [.prim (.int .u64 (((a+b+c)%18446744073709551616:Nat):Int)),.prim (.int .u64 (((a+b+c) / 18446744073709551616:Nat):Int))])
  | false=>none)=_
 have h1:Nat.ble c 1=true:=by rw [Nat.ble_eq];exact hc
 rw [h1]
theorem a0O {l:List Nat}{i a:Nat}(h:l[i]? = some a):l.take (i+1)=l.take i++[a]:=by rw [List.take_add_one,h];rfl
theorem a7z {l:List Nat}{i a:Nat}(h:i<l.length):(l.set i a).take (i+1)=l.take i++[a]:=by
 rw [a0O (l:=l.set i a) (i:=i) (a:=a) (by simp [h]),List.take_set_of_le (Nat.le_refl _)]
theorem a1l {l:List Nat}{i a:Nat}(hi:l.length=i):a0i (l++[a])=a0i l+BB^i*a:=by rw [a1H,hi];simp [a0i]
theorem map_set {l:List Nat}{i a:Nat}:(l.map a0h).set i (a0h a)=(l.set i a).map a0h:=List.map_set.symm
theorem Wd.set {l:List Nat}(h:Wd l){i a:Nat}(ha:a<BB):Wd (l.set i a):=fun b hb=>by
 rcases List.mem_or_eq_of_mem_set hb with h1|rfl
 ·exact h b h1
 ·exact ha
theorem a4W (n:Nat):Wd (List.replicate n 0):=fun a ha=>by rw [List.eq_of_mem_replicate ha];decide
theorem c0n {env:Env}{t K g n N:Nat}{z:List Nat}{T:Nat}(hl:z.length=N)(he:env.get t=.osl K g 1 0 N:=by exact rfl):Wk ⟨env,[⟨K,g,T,1,z.map a0h⟩],n⟩ ⟨[(t,.sl false 1 (z.map a0h))],[],n⟩:=by
 subst hl;refine ⟨.drop .nil,⟨?_,trivial⟩,Nat.le_refl _⟩;dsimp only;rw [he]
 have:=b1T K g T 1 (z.map a0h)
 rwa [List.length_map] at this
theorem c4X (la lb:List Nat)(ha:Wd la)(hb:Wd lb)(hla:la.length<4000000)(hlb:lb.length<4000000):a0b C0 223 [wL la,wL lb] (wD (a0i la+a0i lb)):=by
 refine a0c.walk w1 c3D rfl fun F=>?_
 unfold wL;have ea:(((la.map a0h).length:Nat):Int)=(la.length:Int):=by rw [List.length_map]
 have eb:(((lb.map a0h).length:Nat):Int)=(lb.length:Int):=by rw [List.length_map]
 obtain ⟨x,y,hsw,hle,hx,hy,hlx,hv⟩:∃ x y:List Nat,(la.length<lb.length∧x=lb∧y=la∨¬ la.length<lb.length∧x=la∧y=lb)∧y.length≤x.length∧Wd x∧Wd y∧x.length<4000000∧a0i la+a0i lb=a0i x+a0i y:=by
  by_cases h:la.length<lb.length
  ·exact ⟨lb,la,.inl ⟨h,rfl,rfl⟩,by omega,hb,ha,hlb,by omega⟩
  ·exact ⟨la,lb,.inr ⟨h,rfl,rfl⟩,by omega,ha,hb,hla,rfl⟩
 rw [hv];refine sR 0 ?_;refine OkS.seqW ⟨[(0,.sl false 1 (x.map a0h)),(1,.sl false 1 (y.map a0h)),(4,a2d)],[],20⟩ ?_ ?_
 ·refine sZ 100 ?_
  refine nwI (ff2 ea eb) ?_;refine ifI ?_;rcases hsw with ⟨h,rfl,rfl⟩|⟨h,rfl,rfl⟩
  ·have e1:decide ((y.length:Int)<(x.length:Int))=true:=decide_eq_true (by omega)
   rw [e1];refine rI 200 ?_;exact And.intro (by trivial) (wkI)
  ·have e1:decide ((x.length:Int)<(y.length:Int))=false:=decide_eq_false (by omega)
   rw [e1];refine skI ?_;exact And.intro (by trivial) (wkI)
 clear hsw ea eb;have ex:(((x.map a0h).length:Nat):Int)=(x.length:Int):=by rw [List.length_map]
 have ey:(((y.map a0h).length:Nat):Int)=(y.length:Int):=by rw [List.length_map]
 have w3:IntKind.i64.wrap ((x.length:Int)+1)=((x.length+1:Nat):Int):=by rw [wI (by omega) (by omega)];omega
 have r3:List.replicate (x.length+1) (ofV (.int .u64 0))=(List.replicate (x.length+1) 0).map a0h:=by rw [List.map_replicate];rfl
 refine sZ 300 ?_;refine nwI (ff3 ex w3 kN) ?_;refine sR 400 ?_;refine OkS.seq ?_;refine sZ 500 ?_;refine nwI ex ?_;refine OkS.block ?_;refine OkS.loop (α:=Nat × Nat × List Nat × Nat) (fun p=>⟨[(0,.sl false 1 (x.map a0h)),(1,.sl false 1 (y.map a0h)),(4,a2d),(5,.osl 303 23 1 0 (x.length+1)),(6,a0h p.2.1),(21,i64 x.length),(22,i64 p.1)],[⟨303,23,260,1,p.2.2.1.map a0h⟩],p.2.2.2⟩) (fun p=>x.length - p.1)
  (fun p=>p.1≤x.length∧p.2.1≤1∧p.2.2.1.length=x.length+1∧Wd p.2.2.1∧a0i (p.2.2.1.take p.1)+BB^p.1*p.2.1=a0i (x.take p.1)+a0i (y.take p.1)) (0,0,List.replicate (x.length+1) 0,_)
  ⟨Nat.zero_le _,Nat.zero_le _,by simp,a4W _,by simp [a0i]⟩ (by rw [← r3];exact wkI) ?_
 rintro ⟨i,c,o,m⟩ F ⟨h1,h2,h3,h4,h5⟩;dsimp only at h1 h2 h3 h4 h5 ⊢;refine sR 600 ?_;refine OkS.seq ?_;refine ifI ?_
 (refine brI (fun h23=>?_) (fun h23=>?_))<;>(try simp only [Bool.not_eq_true',Bool.not_eq_false'] at h23)<;>(try simp only [h23])
 ·have hi:i<x.length:=by simpa using h23
  obtain ⟨a,hxa⟩:∃ a,x[i]? = some a:=⟨x[i],List.getElem?_eq_getElem hi⟩
  have ha:=a1i hxa;obtain ⟨v,hvl,hvv⟩:∃ v,v<BB∧(i<y.length∧y[i]? = some v∨y.length≤i∧v=0):=by
   by_cases h:i<y.length
   ·exact ⟨y[i],hy _ (List.getElem_mem h),.inl ⟨h,List.getElem?_eq_getElem h⟩⟩
   ·exact ⟨0,by decide,.inr ⟨by omega,rfl⟩⟩
  have hal:a<BB:=hx a (List.mem_of_getElem? hxa);have hyv:a0i (y.take (i+1))=a0i (y.take i)+BB^i*v:=by
   rcases hvv with ⟨h,hh⟩|⟨h,rfl⟩
   ·rw [a0O hh,a1l (i:=i) (by rw [List.length_take];omega)]
   ·rw [List.take_of_length_le (by omega),List.take_of_length_le h];simp
  have hoi:i<o.length:=by omega
  obtain ⟨oi,hoa⟩:∃ a,o[i]? = some a:=⟨o[i],List.getElem?_eq_getElem hoi⟩
  have hob:=a1i hoa;have hadd:=b3Z (a:=a) (b:=v) h2;have wi:IntKind.i64.wrap ((i:Int)+1)=((i+1:Nat):Int):=wI (by omega) (by omega);refine skI ?_;refine OkS.seq ?_;refine OkS.block ?_;refine sR 700 ?_;refine sR 800 ?_;refine OkS.seqW ⟨[(0,.sl false 1 (x.map a0h)),(1,.sl false 1 (y.map a0h)),(4,a2d),(5,.osl 303 23 1 0 (x.length+1)),(6,a0h c),(7,i64 i),(8,a0h v),(21,i64 x.length),(22,i64 i)],[⟨303,23,260,1,o.map a0h⟩],m+30⟩ ?_ ?_
  ·refine sZ 900 ?_
   refine nwI ey ?_;refine ifI ?_;rcases hvv with ⟨h,hh⟩|⟨h,rfl⟩
   ·have hy':=a1i hh
    have e1:decide ((i:Int)<(y.length:Int))=true:=decide_eq_true (by omega);rw [e1];refine rI 1000 ?_;refine gwI kN ?_;refine ixI kT hy' ?_;refine stI ?_;exact And.intro (by trivial) (wkI)
   ·have e1:decide ((i:Int)<(y.length:Int))=false:=decide_eq_false (by omega)
    rw [e1];refine skI ?_;exact And.intro (by trivial) (wkI)
  refine rI 1100 ?_;refine gwI kN ?_;refine ixI kT ha ?_;refine gwI kN ?_
  first|(refine a0r rfl rfl ?_;refine b1o rfl rfl (hadd) ?_)|(refine a0w rfl rfl ?_;refine a9e rfl rfl (hadd) ?_)
  refine gwI (ff3 kN Nat.zero_add hob) ?_;have hs:(a+v+c)%BB<BB:=Nat.mod_lt _ (by decide);have hc':(a+v+c) / BB≤1:=by
   have:a+v+c<2*BB:=by omega
   exact Nat.le_of_lt_succ (Nat.div_lt_of_lt_mul (by rw [Nat.mul_comm];exact this))
  rw [map_set];refine OkS.reg w1 1200 (by kernel_rfl) ?_;refine nwI wi ?_;refine ⟨(i+1,(a+v+c) / BB,o.set i ((a+v+c)%BB),_),⟨hi,hc',by dsimp only;rw [List.length_set];exact h3,h4.set hs,?_⟩,by dsimp only;omega,wkI⟩;dsimp only;rw [a7z hoi,a1l (i:=i) (by rw [List.length_take];omega),a0O hxa,a1l (i:=i) (by rw [List.length_take];omega),hyv];have hm:=Nat.mod_add_div (a+v+c) BB;rw [Nat.pow_succ,Nat.mul_assoc,Nat.add_assoc,← Nat.mul_add,hm,Nat.mul_add,Nat.mul_add];omega
 ·have hi:i=x.length:=by
   have:¬ i<x.length:=by simpa using h23
   omega
  subst hi;obtain ⟨oi,hoa⟩:∃ a,o[x.length]? = some a:=⟨o[x.length],List.getElem?_eq_getElem (by omega)⟩
  have hob:=a1i hoa;refine exI ?_;refine sZ 1300 ?_;refine gwI (ff4 ex kN Nat.zero_add hob) ?_;rw [map_set];have ho:o.set x.length c=o.take x.length++[c]:=by
   have:=a7z (l:=o) (i:=x.length) (a:=c) (by omega)
   rwa [List.take_of_length_le (by rw [List.length_set];omega)] at this
  have hov:a0i (o.set x.length c)=a0i x+a0i y:=by
   rw [ho,a1l (i:=x.length) (by rw [List.length_take];omega),h5,List.take_of_length_le (Nat.le_refl _),List.take_of_length_le hle]
  have how:Wd (o.set x.length c):=h4.set (Nat.lt_of_le_of_lt h2 (by decide));have hol:(o.set x.length c).length=x.length+1:=by rw [List.length_set];exact h3
  generalize o.set x.length c=z at *;refine OkS.weak ⟨[(5,.sl false 1 (z.map a0h))],[],_⟩ (c0n hol) ?_;refine sR 1400 ?_;refine a0l.same _ (trim_ok z how (by omega)) inferInstance ?_;refine stI ?_;refine rtI ?_;exact a0a (by rw [hov]) IsPure.out
theorem b1f {a b c:Nat}(hc:c≤1):b6x 255 [a0h a,a0h b,a0h c]=some (.tup [a0h ((a+BB - b - c)%BB),a0h (if a<b+c then 1 else 0)]):=by
 show (match Nat.ble c 1 with
  | true=>some (D.tup [.prim (.int .u64 (((a+18446744073709551616 - b - c)%18446744073709551616:Nat):Int)),.prim (.int .u64 ((if a<b+c then 1 else 0:Nat):Int))])
  | false=>none)=_
 have h1:Nat.ble c 1=true:=by rw [Nat.ble_eq];exact hc
 rw [h1]
theorem a8X {a v c:Nat}(ha:a<BB)(hv:v<BB)(hc:c≤1):(a+BB - v - c)%BB+v+c=a+BB*(if a<v+c then 1 else 0):=by
 by_cases h:a<v+c
 ·rw [if_pos h,Nat.mod_eq_of_lt (by omega)];omega
 ·rw [if_neg h]
  have:a+BB - v - c=(a - v - c)+BB:=by omega
  rw [this,Nat.add_mod_right,Nat.mod_eq_of_lt (by omega)];omega
theorem c6M (x y:List Nat)(hx:Wd x)(hy:Wd y)(hlx:x.length<4000000)(hle:y.length≤x.length)(hv:a0i y≤a0i x):a0b C0 225 [wL x,wL y] (wD (a0i x - a0i y)):=by
 refine a0c.walk w1 c3F rfl fun F=>?_
 unfold wL;have ex:(((x.map a0h).length:Nat):Int)=(x.length:Int):=by rw [List.length_map]
 have ey:(((y.map a0h).length:Nat):Int)=(y.length:Int):=by rw [List.length_map]
 have r3:List.replicate x.length (ofV (.int .u64 0))=(List.replicate x.length 0).map a0h:=by rw [List.map_replicate];rfl
 refine sR 0 ?_;refine sZ 100 ?_;refine nwI (ff2 ex kN) ?_;refine sR 200 ?_;refine OkS.seq ?_;refine sZ 300 ?_;refine nwI ex ?_;refine OkS.block ?_;refine OkS.loop (α:=Nat × Nat × List Nat × Nat) (fun p=>⟨[(0,.sl false 1 (x.map a0h)),(1,.sl false 1 (y.map a0h)),(4,a2d),(5,.osl 102 3 1 0 x.length),(6,a0h p.2.1),(13,i64 x.length),(14,i64 p.1)],[⟨102,3,260,1,p.2.2.1.map a0h⟩],p.2.2.2⟩) (fun p=>x.length - p.1)
  (fun p=>p.1≤x.length∧p.2.1≤1∧p.2.2.1.length=x.length∧Wd p.2.2.1∧a0i (p.2.2.1.take p.1)+a0i (y.take p.1)=a0i (x.take p.1)+BB^p.1*p.2.1) (0,0,List.replicate x.length 0,_)
  ⟨Nat.zero_le _,Nat.zero_le _,by simp,a4W _,by simp [a0i]⟩ (by rw [← r3];exact wkI) ?_
 rintro ⟨i,c,o,m⟩ F ⟨h1,h2,h3,h4,h5⟩;dsimp only at h1 h2 h3 h4 h5 ⊢;refine sR 400 ?_;refine OkS.seq ?_;refine ifI ?_
 (refine brI (fun h23=>?_) (fun h23=>?_))<;>(try simp only [Bool.not_eq_true',Bool.not_eq_false'] at h23)<;>(try simp only [h23])
 ·have hi:i<x.length:=by simpa using h23
  obtain ⟨a,hxa⟩:∃ a,x[i]? = some a:=⟨x[i],List.getElem?_eq_getElem hi⟩
  have ha:=a1i hxa;obtain ⟨v,hvl,hvv⟩:∃ v,v<BB∧(i<y.length∧y[i]? = some v∨y.length≤i∧v=0):=by
   by_cases h:i<y.length
   ·exact ⟨y[i],hy _ (List.getElem_mem h),.inl ⟨h,List.getElem?_eq_getElem h⟩⟩
   ·exact ⟨0,by decide,.inr ⟨by omega,rfl⟩⟩
  have hal:a<BB:=hx a (List.mem_of_getElem? hxa);have hyv:a0i (y.take (i+1))=a0i (y.take i)+BB^i*v:=by
   rcases hvv with ⟨h,hh⟩|⟨h,rfl⟩
   ·rw [a0O hh,a1l (i:=i) (by rw [List.length_take];omega)]
   ·rw [List.take_of_length_le (by omega),List.take_of_length_le h];simp
  have hoi:i<o.length:=by omega
  obtain ⟨oi,hoa⟩:∃ a,o[i]? = some a:=⟨o[i],List.getElem?_eq_getElem hoi⟩
  have hob:=a1i hoa;have hsub:=b1f (a:=a) (b:=v) h2;have hdig:=a8X hal hvl h2;have hc':(if a<v+c then 1 else 0)≤1:=by split<;>decide
  have hs:(a+BB - v - c)%BB<BB:=Nat.mod_lt _ (by decide);generalize (if a<v+c then 1 else 0)=c' at *;generalize (a+BB - v - c)%BB=d at *;have wi:IntKind.i64.wrap ((i:Int)+1)=((i+1:Nat):Int):=wI (by omega) (by omega);refine skI ?_;refine OkS.seq ?_;refine OkS.block ?_;refine sR 500 ?_;refine sR 600 ?_;refine OkS.seqW ⟨[(0,.sl false 1 (x.map a0h)),(1,.sl false 1 (y.map a0h)),(4,a2d),(5,.osl 102 3 1 0 x.length),(6,a0h c),(7,i64 i),(8,a0h v),(13,i64 x.length),(14,i64 i)],[⟨102,3,260,1,o.map a0h⟩],m+30⟩ ?_ ?_
  ·refine sZ 700 ?_
   refine nwI ey ?_;refine ifI ?_;rcases hvv with ⟨h,hh⟩|⟨h,rfl⟩
   ·have hy':=a1i hh
    have e1:decide ((i:Int)<(y.length:Int))=true:=decide_eq_true (by omega);rw [e1];refine rI 800 ?_;refine gwI kN ?_;refine ixI kT hy' ?_;refine stI ?_;exact And.intro (by trivial) (wkI)
   ·have e1:decide ((i:Int)<(y.length:Int))=false:=decide_eq_false (by omega)
    rw [e1];refine skI ?_;exact And.intro (by trivial) (wkI)
  refine rI 900 ?_;refine gwI kN ?_;refine ixI kT ha ?_;refine gwI kN ?_
  first|(refine a0r rfl rfl ?_;refine b1o rfl rfl (hsub) ?_)|(refine a0w rfl rfl ?_;refine a9e rfl rfl (hsub) ?_)
  refine gwI (ff3 kN Nat.zero_add hob) ?_;rw [map_set];refine OkS.reg w1 1000 (by kernel_rfl) ?_;refine nwI wi ?_;refine ⟨(i+1,c',o.set i d,_),⟨hi,hc',by dsimp only;rw [List.length_set];exact h3,h4.set hs,?_⟩,by dsimp only;omega,wkI⟩;dsimp only;rw [a7z hoi,a1l (i:=i) (by rw [List.length_take];omega),a0O hxa,a1l (i:=i) (by rw [List.length_take];omega),hyv];have h6:BB^i*d+BB^i*v+BB^i*c=BB^i*a+BB^(i+1)*c':=by
   rw [Nat.pow_succ,Nat.mul_assoc,← Nat.mul_add,← Nat.mul_add,← Nat.mul_add,hdig]
  omega
 ·have hi:i=x.length:=by
   have:¬ i<x.length:=by simpa using h23
   omega
  subst hi;rw [List.take_of_length_le (Nat.le_of_eq h3),List.take_of_length_le (Nat.le_refl _),List.take_of_length_le hle] at h5;have hlt:=a2H h4;rw [h3] at hlt;have hc0:c=0:=by
   rcases Nat.eq_zero_or_pos c with h|h
   ·exact h
   ·have:c=1:=by omega
    subst this;rw [Nat.mul_one] at h5;omega
  subst hc0;have hov:a0i o=a0i x - a0i y:=by
   rw [Nat.mul_zero] at h5;omega
  refine exI ?_;refine OkS.weak ⟨[(5,.sl false 1 (o.map a0h))],[],_⟩ (c0n h3) ?_;refine sR 1100 ?_;refine a0l.same _ (trim_ok o h4 (by omega)) inferInstance ?_;refine stI ?_;refine rtI ?_;exact a0a (by rw [hov]) IsPure.out
theorem a2O:∀ {l:List Nat} {k o d:Nat},l[k]? = some o→a0i (l.set k d)+BB^k*o=a0i l+BB^k*d
 | a::l,0,o,d,h=>by
  simp only [List.getElem?_cons_zero,Option.some.injEq] at h;subst h;simp only [List.set_cons_zero,a0i,Nat.pow_zero,Nat.one_mul];omega
 | a::l,k+1,o,d,h=>by
  simp only [List.getElem?_cons_succ] at h;have ih:=a2O (d:=d) h;simp only [List.set_cons_succ,a0i];have h1:BB^(k+1)*o=BB*(BB^k*o):=by rw [Nat.pow_succ,Nat.mul_comm (BB^k) BB,Nat.mul_assoc]
  have h2:BB^(k+1)*d=BB*(BB^k*d):=by rw [Nat.pow_succ,Nat.mul_comm (BB^k) BB,Nat.mul_assoc]
  have h3:BB*a0i (l.set k d)+BB*(BB^k*o)=BB*a0i l+BB*(BB^k*d):=by rw [← Nat.mul_add,← Nat.mul_add,ih]
  omega
theorem b8E {x y o c:Nat}(hx:x<BB)(hy:y<BB)(ho:o<BB)(hc:c<BB) :
  ∃ hi lo c1 lo1 hi1 c2 lo2 c',hi=x*y / BB∧lo=x*y%BB∧lo1=(lo+o+0)%BB∧c1=(lo+o+0) / BB∧hi1=hi+c1∧hi1<BB∧lo2=(lo1+c+0)%BB∧c2=(lo1+c+0) / BB∧c'=hi1+c2∧c'<BB∧lo2<BB ∧
   lo2+BB*c'=x*y+o+c:=by
 refine ⟨_,_,_,_,_,_,_,_,rfl,rfl,rfl,rfl,rfl,?_,rfl,rfl,rfl,?_,Nat.mod_lt _ (by decide),?_⟩
 all_goals
  unfold BB at *;have e1:=Nat.mod_add_div (x*y) 18446744073709551616;have e2:=Nat.mod_add_div (x*y%18446744073709551616+o+0) 18446744073709551616;have e3:=Nat.mod_add_div ((x*y%18446744073709551616+o+0)%18446744073709551616+c+0) 18446744073709551616;have hxy:x*y≤(18446744073709551616 - 1)*(18446744073709551616 - 1):=Nat.mul_le_mul (by omega) (by omega);have hk:(18446744073709551616 - 1)*(18446744073709551616 - 1)=340282366920938463426481119284349108225:=by decide
  rw [hk] at hxy;have l1:=Nat.mod_lt (x*y) (show 18446744073709551616>0 by decide);have l2:=Nat.mod_lt (x*y%18446744073709551616+o+0) (show 18446744073709551616>0 by decide);have l3:=Nat.mod_lt ((x*y%18446744073709551616+o+0)%18446744073709551616+c+0) (show 18446744073709551616>0 by decide);generalize x*y=p at *;generalize hA:p / 18446744073709551616=A at *;generalize hB:p%18446744073709551616=B at *;generalize hC:(B+o+0) / 18446744073709551616=C at *;generalize hD:(B+o+0)%18446744073709551616=D at *;generalize hE:(D+c+0) / 18446744073709551616=E at *;generalize hF:(D+c+0)%18446744073709551616=F at *;omega
theorem wU' {n:Nat}(h:n<BB):IntKind.u64.wrap (n:Int)=(n:Int):=wU (by omega) (by unfold BB at h;omega)
theorem c6c (a b:List Nat)(ha:Wd a)(hb:Wd b)(hla:a.length<1000000)(hlb:b.length<1000000):a0b C0 229 [wL a,wL b] (wD (a0i a*a0i b)):=by
 refine a0c.walk w1 c3H rfl fun F=>?_
 unfold wL;have ea:(((a.map a0h).length:Nat):Int)=(a.length:Int):=by rw [List.length_map]
 have eb:(((b.map a0h).length:Nat):Int)=(b.length:Int):=by rw [List.length_map]
 have wl:IntKind.i64.wrap ((a.length:Int)+(b.length:Int))=((a.length+b.length:Nat):Int):=by rw [wI (by omega) (by omega)];omega
 have r3:List.replicate (a.length+b.length) (ofV (.int .u64 0))=(List.replicate (a.length+b.length) 0).map a0h:=by rw [List.map_replicate];rfl
 refine sR 0 ?_;refine sZ 100 ?_;refine nwI (ff4 ea eb wl kN) ?_;refine OkS.seq ?_;refine sZ 200 ?_;refine nwI ea ?_;refine OkS.block ?_;refine OkS.loop (α:=Nat × List Nat × Nat) (fun p=>⟨[(0,.sl false 1 (a.map a0h)),(1,.sl false 1 (b.map a0h)),(4,a2d),(5,.osl 105 6 1 0 (a.length+b.length)),(20,.sl false 1 (a.map a0h)),(21,i64 a.length),(22,i64 p.1)],[⟨105,6,260,1,p.2.1.map a0h⟩],p.2.2⟩) (fun p=>a.length - p.1)
  (fun p=>p.1≤a.length∧p.2.1.length=a.length+b.length∧Wd p.2.1∧a0i p.2.1=a0i (a.take p.1)*a0i b∧∀ k,p.1+b.length≤k→∀ d,p.2.1[k]? = some d→d=0) (0,List.replicate (a.length+b.length) 0,_)
  ⟨Nat.zero_le _,by simp,a4W _,by simp [a0i,a4V],fun k _ d hd=>List.eq_of_mem_replicate (List.mem_of_getElem? hd)⟩ (by rw [← r3];exact wkI) ?_
 rintro ⟨i,o,m⟩ F ⟨h1,h2,h3,h4,h5⟩;dsimp only at h1 h2 h3 h4 h5 ⊢;refine sR 300 ?_;refine OkS.seq ?_;refine ifI ?_
 (refine brI (fun h23=>?_) (fun h23=>?_))<;>(try simp only [Bool.not_eq_true',Bool.not_eq_false'] at h23)<;>(try simp only [h23])
 ·have hi:i<a.length:=by simpa using h23
  obtain ⟨x,hx⟩:∃ x,a[i]? = some x:=⟨a[i],List.getElem?_eq_getElem hi⟩
  have hx':=a1i hx;have hxl:x<BB:=ha x (List.mem_of_getElem? hx);have wi:IntKind.i64.wrap ((i:Int)+1)=((i+1:Nat):Int):=wI (by omega) (by omega);have hax:a0i (a.take (i+1))=a0i (a.take i)+BB^i*x:=by rw [a0O hx,a1l (i:=i) (by rw [List.length_take];omega)]
  refine skI ?_;refine OkS.seq ?_;refine OkS.block ?_;refine sR 400 ?_;refine ixI kT hx' ?_;refine stI ?_;refine sR 500 ?_;refine OkS.seq ?_;refine sZ 600 ?_;refine nwI eb ?_;refine OkS.block ?_;refine OkS.loop (α:=Nat × Nat × List Nat × Nat) (fun p=>⟨[(0,.sl false 1 (a.map a0h)),(1,.sl false 1 (b.map a0h)),(4,a2d),(5,.osl 105 6 1 0 (a.length+b.length)),(6,i64 i),(7,a0h x),(8,a0h p.2.1),(20,.sl false 1 (a.map a0h)),(21,i64 a.length),(22,i64 i),(27,.sl false 1 (b.map a0h)),(28,i64 b.length),(29,i64 p.1)],[⟨105,6,260,1,p.2.2.1.map a0h⟩],p.2.2.2⟩) (fun p=>b.length - p.1)
   (fun p=>p.1≤b.length∧p.2.1<BB∧p.2.2.1.length=a.length+b.length∧Wd p.2.2.1∧a0i p.2.2.1+BB^(i+p.1)*p.2.1=a0i (a.take i)*a0i b+BB^i*x*a0i (b.take p.1)∧∀ k,i+b.length≤k→∀ d,p.2.2.1[k]? = some d→d=0) (0,0,o,_)
   ⟨Nat.zero_le _,show 0<BB by decide,h2,h3,by simp [a0i,h4],h5⟩ wkI ?_
  rintro ⟨j,c,q,m2⟩ F ⟨g1,g2,g3,g4,g5,g6⟩;dsimp only at g1 g2 g3 g4 g5 g6 ⊢;clear h2 h3 h4 h5 r3 wl;refine sR 700 ?_;refine OkS.seq ?_;refine ifI ?_
  (refine brI (fun h30=>?_) (fun h30=>?_))<;>(try simp only [Bool.not_eq_true',Bool.not_eq_false'] at h30)<;>(try simp only [h30])
  ·have hj:j<b.length:=by simpa using h30
   obtain ⟨y,hy⟩:∃ y,b[j]? = some y:=⟨b[j],List.getElem?_eq_getElem hj⟩
   have hy':=a1i hy;have hyl:y<BB:=hb y (List.mem_of_getElem? hy);obtain ⟨z,hz⟩:∃ z,q[i+j]? = some z:=⟨q[i+j],List.getElem?_eq_getElem (by omega)⟩
   have hz':=a1i hz;have hzl:z<BB:=g4 z (List.mem_of_getElem? hz);have wj:IntKind.i64.wrap ((j:Int)+1)=((j+1:Nat):Int):=wI (by omega) (by omega);have wij:IntKind.i64.wrap ((i:Int)+(j:Int))=((i+j:Nat):Int):=by rw [wI (by omega) (by omega)];omega
   have hbx:a0i (b.take (j+1))=a0i (b.take j)+BB^j*y:=by rw [a0O hy,a1l (i:=j) (by rw [List.length_take];omega)]
   have cm:=a4P x y hxl hyl;obtain ⟨hi',lo,c1,lo1,hi1,c2,lo2,c',e1,e2,e3,e4,e5,e6,e7,e8,e9,e10,e11,e12⟩:=b8E hxl hyl hzl g2;rw [show x*y / 18446744073709551616=hi' from e1.symm,show x*y%18446744073709551616=lo from e2.symm] at cm;have e3':(lo+z+0)%18446744073709551616=lo1:=e3.symm;have e4':(lo+z+0) / 18446744073709551616=c1:=e4.symm;have e7':(lo1+c+0)%18446744073709551616=lo2:=e7.symm;have e8':(lo1+c+0) / 18446744073709551616=c2:=e8.symm;have w6:IntKind.u64.wrap ((hi':Int)+(c1:Int))=(hi1:Int):=by rw [← Int.natCast_add,← e5];exact wU' e6
   have w7:IntKind.u64.wrap ((hi1:Int)+(c2:Int))=(c':Int):=by rw [← Int.natCast_add,← e9];exact wU' e10
   refine skI ?_;refine OkS.seq ?_;refine OkS.block ?_;refine sR 800 ?_;refine ixI kT hy' ?_;refine stI ?_;refine sR 900 ?_;refine a0l.same _ cm inferInstance ?_;refine stI ?_;refine sR 1000 ?_;refine sZ 1100 ?_;refine gwI (ff6 wij kN Nat.zero_add hz' e3' e4') ?_;refine sZ 1200 ?_;refine nwI w6 ?_;refine sZ 1300 ?_;refine nwI (ff2 e7' e8') ?_;refine OkS.reg w1 1400 (by kernel_rfl) ?_;refine gwI (ff5 wij w7 kN Nat.zero_add hz') ?_;rw [show (D.prim (Value.int IntKind.u64 (lo2:Int)))=a0h lo2 from rfl,map_set];refine OkS.reg w1 1500 (by kernel_rfl) ?_;refine nwI wj ?_;refine ⟨(j+1,c',q.set (i+j) lo2,_),⟨hj,e10,by dsimp only;rw [List.length_set];exact g3,g4.set e11,?_,fun k hk d hd=>?_⟩,by dsimp only;omega,wkI⟩
   ·dsimp only
    have hs:=a2O (d:=lo2) hz;rw [hbx,Nat.mul_add,← Nat.add_assoc (a0i (a.take i)*a0i b),← g5];have h6:BB^(i+j)*lo2+BB^(i+(j+1))*c'=BB^i*x*(BB^j*y)+BB^(i+j)*z+BB^(i+j)*c:=by
     have:BB^i*x*(BB^j*y)=BB^(i+j)*(x*y):=by
      rw [Nat.pow_add,Nat.mul_assoc,Nat.mul_assoc,Nat.mul_left_comm x]
     rw [this,← Nat.add_assoc i j 1,Nat.pow_succ,Nat.mul_assoc,← Nat.mul_add,← Nat.mul_add,← Nat.mul_add,e12]
    omega
   ·dsimp only at hk hd
    rw [List.getElem?_set_ne (by omega)] at hd;exact g6 k hk d hd
  ·have hj:j=b.length:=by
    have:¬ j<b.length:=by simpa using h30
    omega
   subst hj;obtain ⟨z,hz⟩:∃ z,q[i+b.length]? = some z:=⟨q[i+b.length],List.getElem?_eq_getElem (by omega)⟩
   have hz0:z=0:=g6 _ (Nat.le_refl _) _ hz;subst hz0;have hz':=a1i hz;have wij:IntKind.i64.wrap ((i:Int)+(b.length:Int))=((i+b.length:Nat):Int):=by rw [wI (by omega) (by omega)];omega
   have wij0:IntKind.i64.wrap ((i:Int)+(((b.map a0h).length:Nat):Int))=((i+b.length:Nat):Int):=by rw [eb];exact wij
   refine exI ?_;refine OkS.reg w1 1600 (by kernel_rfl) ?_;refine gwI (ff5 eb wij kN Nat.zero_add hz') ?_;rw [map_set];refine OkS.reg w1 1700 (by kernel_rfl) ?_;refine nwI wi ?_;refine ⟨(i+1,q.set (i+b.length) c,_),⟨hi,by dsimp only;rw [List.length_set];exact g3,g4.set g2,?_,fun k hk d hd=>?_⟩,by dsimp only;omega,wkI⟩
   ·dsimp only
    have hs:=a2O (d:=c) hz;rw [List.take_of_length_le (Nat.le_refl _)] at g5;rw [hax,Nat.add_mul];omega
   ·dsimp only at hk hd
    rw [List.getElem?_set_ne (by omega)] at hd;exact g6 k (by omega) d hd
 ·have hi:i=a.length:=by
   have:¬ i<a.length:=by simpa using h23
   omega
  subst hi;rw [List.take_of_length_le (Nat.le_refl _)] at h4;refine exI ?_;refine OkS.weak ⟨[(5,.sl false 1 (o.map a0h))],[],_⟩ (c0n h2) ?_;refine sR 1800 ?_;refine a0l.same _ (trim_ok o h3 (by omega)) inferInstance ?_;refine stI ?_;refine rtI ?_;exact a0a (by rw [h4]) IsPure.out
structure GI where
 z:Int
 sm:Bool
def GI.wf (x:GI):Prop:=(x.sm=true→-9223372036854775808≤x.z∧x.z<9223372036854775808)∧(x.sm=false→¬ Sm x.z)
def GI.s (x:GI):Int:=match x.sm with
 | true=>x.z
 | false=>if x.z<0 then -1 else 1
def GI.w (x:GI):D:=match x.sm with
 | true=>a2d
 | false=>wD x.z.natAbs
abbrev GI.D (x:GI):D:=.agg [i64 x.s,x.w]
theorem d1O (x:GI):a2c x.w:=by
 unfold GI.w;split
 ·exact .prim _
 ·exact a4v _
instance  (x:GI):IsPure x.w:=⟨d1O x⟩
instance  (z:Int):Decidable (Sm z):=inferInstanceAs (Decidable (_∧_))
def mkG (z:Int):GI:=⟨z,decide (Sm z)⟩
theorem a0H (z:Int):(mkG z).wf:=by
 refine ⟨fun h=>?_,fun h=>?_⟩
 ·have h:Sm z:=of_decide_eq_true h
  exact ⟨Int.le_of_lt h.1,h.2⟩
 ·exact of_decide_eq_false h
theorem a5U {z:Int}(h:Sm z):mkG z=⟨z,true⟩:=by unfold mkG;rw [decide_eq_true h]
theorem b8B {z:Int}(h:¬ Sm z):mkG z=⟨z,false⟩:=by unfold mkG;rw [decide_eq_false h]
theorem a3C {n:Nat}(h0:n≠0)(h:n<BB):a0e n=[n]:=by
 rw [a1b h0,Nat.mod_eq_of_lt h,Nat.div_eq_of_lt h,a0K]
theorem a1S {n:Nat}(h:n≠0):(a0e n).map a0h≠[]:=by rw [a1b h];simp
theorem c4B (x:GI)(h:x.wf):(x.s<0)=(x.z<0):=by
 obtain ⟨z,sm⟩:=x;cases sm with
 | true=>rfl
 | false =>
  unfold GI.s;dsimp only;split<;>simp<;>omega
theorem d3Z {H Hf:Hp}(n:Nat)(h0:n≠0)(h:n<BB):Fz H Hf (.sl true 1 [a0h n]) (wD n):=by
 unfold wD wL;rw [a3C h0 h];exact .nn true 1 _
theorem c4J {H Hf:Hp}{a b c d:D}(h:Fz H Hf a c)(k:Fz H Hf b d):Fz H Hf (.tup [a,b]) (.tup [c,d]):=.tup rfl fun i x y hx hy=>by
 match i with
 | 0=>simp at hx hy;subst hx;subst hy;exact h
 | 1=>simp at hx hy;subst hx;subst hy;exact k
 | i+2=>simp at hx
instance  (a b:Nat):IsPure (.tup [wD a,wD b]):=inferInstance
theorem c2q:a0b C0 228 [i64 (-9223372036854775808)] (a0h 9223372036854775808):=a0b.ev a4c 1000 40 (by kernel_rfl)
theorem b2D {z:Int}(h1 : -9223372036854775808≤z)(h2:z<9223372036854775808):a0b C0 228 [i64 z] (a0h z.natAbs):=by
 by_cases h:z = -9223372036854775808
 ·subst h;exact c2q
 ·exact b3O z ⟨by omega,h2⟩
theorem a2M (x:GI)(h:x.wf):a0b C0 184 [x.D] (.tup [boo (decide (x.z<0)),wD x.z.natAbs]):=by
 refine a0c.walk w1 c3p rfl fun F=>?_
 obtain ⟨z,sm⟩:=x;obtain ⟨h1,h2⟩:=h;unfold GI.D GI.s GI.w;cases sm with
 | true =>
  obtain ⟨h3,h4⟩:=h1 rfl;dsimp only at h3 h4 ⊢;have cs:=b2D h3 h4;refine sR 0 ?_;refine OkS.seq ?_;refine OkS.block ?_;refine sR 100 ?_;refine ifI ?_;refine sR 300 ?_;refine ifI ?_
  (refine brI (fun h13=>?_) (fun h13=>?_))<;>(try simp only [Bool.not_eq_true',Bool.not_eq_false'] at h13)<;>(try simp only [h13])
  ·have hz:z=0:=by simpa using h13
   subst hz;refine sR 400 ?_;refine rtI ?_;refine ⟨_,c4J (.refl _) (c:=boo (decide ((0:Int)<0))) (d:=wD (Int.natAbs 0)) ?_,IsPure.out,rfl⟩;show Fz _ _ a2d (wD 0);unfold wD wL;rw [a0K];exact .nil 1
  ·have hz:z≠0:=by simpa using h13
   refine skI ?_;refine OkS.seq ?_;refine OkS.regD w1 500 [0,1,2,3,4,5,6,7] [8] (by kernel_rfl) ?_;refine gwI kN ?_;refine a0n.same _ cs inferInstance ?_;refine stI ?_;refine rtI ?_;refine ⟨_,c4J (.refl _) (c:=boo (decide (z<0))) (d3Z z.natAbs (by omega) (by unfold BB;omega)),IsPure.out,rfl⟩
 | false =>
  have hb:=h2 rfl;have hs:=c4B ⟨z,false⟩ ⟨h1,h2⟩;unfold GI.s at hs;dsimp only at hb hs ⊢;have hne:=a1S (n:=z.natAbs) (by intro h0;apply hb;exact ⟨by omega,by omega⟩);have hp:a2c (.sl false 1 ((a0e z.natAbs).map a0h)):=a4v _;unfold wD wL;generalize (a0e z.natAbs).map a0h=l at *;generalize (if z<0 then (-1:Int) else 1)=sg at *;refine sR 0 ?_;refine OkS.seq ?_;refine OkS.block ?_;refine sZ 100 ?_;refine nwI (ff3 (@ne_eq (List D)) hne not_false_eq_true) ?_;refine ifI ?_;refine OkS.seq ?_;refine OkS.regD w1 200 [0,1,2,3,4,5] [6] (by kernel_rfl) ?_;refine stI ?_;refine rtI ?_;refine a0a ?_ (.tup fun d hd=>?_)
  ·simp only [hs]
  ·simp only [List.mem_cons,List.not_mem_nil,or_false] at hd
   rcases hd with rfl|rfl
   ·exact .prim _
   ·exact hp
def a7h (neg:Bool)(n:Nat):Int:=match neg with
 | true=>-(n:Int)
 | false=>n
theorem a5v (neg:Bool)(n:Nat)(hlen:(a0e n).length<4000000):a0b C0 222 [boo neg,wD n] (mkG (a7h neg n)).D:=by
 refine a0c.walk w1 c3C rfl fun F=>?_
 by_cases h0:n=0
 ·subst h0
  have e:mkG (a7h neg 0)=⟨0,true⟩:=by cases neg<;>exact a5U ⟨by decide,by decide⟩
  rw [e];unfold wD wL GI.D GI.s GI.w;rw [a0K];dsimp only [List.map];refine sR 0 ?_;refine OkS.seq ?_;refine OkS.block ?_;refine sR 100 ?_;refine ifI ?_;refine sR 200 ?_;refine rtI ?_;exact a0a rfl IsPure.out
 ·by_cases h1:n<BB
  ·have hl:=a3C h0 h1
   have b1:(((1:Nat):Int)==0)=false:=rfl;have b2:(((1:Nat):Int)==1)=true:=rfl;have hx:[a0h n][(0:Int).toNat]? = some (a0h n):=rfl
   by_cases h2:n≤9223372036854775807
   ·have b3:decide ((n:Int)≤9223372036854775807)=true:=decide_eq_true (by omega)
    have hsm:Sm (a7h neg n):=by unfold a7h;split<;>exact ⟨by omega,by omega⟩
    rw [a5U hsm];unfold wD wL GI.D GI.s GI.w;rw [hl];dsimp only [List.map];have w1':IntKind.i64.wrap (n:Int)=(n:Int):=wN h2;have w2':IntKind.i64.wrap (0 - (n:Int)) = -(n:Int):=by rw [wI (by omega) (by omega)];omega
    cases neg with
    | true =>
     unfold a7h;dsimp only;refine sR 0 ?_;refine OkS.seq ?_;refine OkS.block ?_;refine sZ 100 ?_;refine nwI b1 ?_;refine ifI ?_;refine sZ 300 ?_;refine gwI (ff2 b2 b3) ?_;refine gwI (ff2 b2 b3) ?_;refine ixI b2 hx ?_;refine gwI (ff2 b2 b3) ?_;refine gwI (ff2 b2 b3) ?_;refine ifI ?_;refine sZ 400 ?_;refine gwI b2 ?_;refine ixI b2 hx ?_;refine gwI (ff2 w1' w2') ?_;refine rtI ?_;exact a0a rfl IsPure.out
    | false =>
     unfold a7h;dsimp only;refine sR 0 ?_;refine OkS.seq ?_;refine OkS.block ?_;refine sZ 100 ?_;refine nwI b1 ?_;refine ifI ?_;refine sZ 300 ?_;refine gwI (ff2 b2 b3) ?_;refine gwI (ff2 b2 b3) ?_;refine ixI b2 hx ?_;refine gwI (ff2 b2 b3) ?_;refine gwI (ff2 b2 b3) ?_;refine ifI ?_;refine sZ 500 ?_;refine gwI (ff2 b2 b3) ?_;refine gwI (ff2 b2 b3) ?_;refine ixI b2 hx ?_;refine gwI (ff2 b2 b3) ?_;refine gwI (ff2 b2 b3) ?_;refine ifI ?_;refine sZ 600 ?_;refine gwI b2 ?_;refine ixI b2 hx ?_;refine gwI (ff2 w1' w2') ?_;refine rtI ?_;exact a0a rfl IsPure.out
   ·have b3:decide ((n:Int)≤9223372036854775807)=false:=decide_eq_false (by omega)
    have hsm:¬ Sm (a7h neg n):=by
     intro hs;have h3:=hs.1;have h4:=hs.2
     revert h3 h4
     unfold a7h;split<;>intro h3 h4<;>omega
    rw [b8B hsm];have ha:(a7h neg n).natAbs=n:=by unfold a7h;split<;>omega
    unfold GI.D GI.s GI.w;dsimp only;rw [ha];unfold wD wL;rw [hl];dsimp only [List.map];cases neg with
    | true =>
     have hs:(if a7h true n<0 then (-1:Int) else 1) = -1:=if_pos (by show -(n:Int)<0;omega);rw [hs];refine sR 0 ?_;refine OkS.seq ?_;refine OkS.block ?_;refine sZ 100 ?_;refine nwI b1 ?_;refine ifI ?_;refine sZ 300 ?_;refine gwI (ff2 b2 b3) ?_;refine gwI (ff2 b2 b3) ?_;refine ixI b2 hx ?_;refine gwI (ff2 b2 b3) ?_;refine gwI (ff2 b2 b3) ?_;refine ifI ?_;refine sZ 500 ?_;refine gwI (ff2 b2 b3) ?_;refine gwI (ff2 b2 b3) ?_;refine ixI b2 hx ?_;refine gwI (ff2 b2 b3) ?_;refine gwI (ff2 b2 b3) ?_;refine ifI ?_;refine sR 700 ?_;refine ifI ?_;refine sR 800 ?_;refine rtI ?_;exact a0a rfl IsPure.out
    | false =>
     have hs:(if a7h false n<0 then (-1:Int) else 1)=1:=if_neg (by show ¬ (n:Int)<0;omega);rw [hs];refine sR 0 ?_;refine OkS.seq ?_;refine OkS.block ?_;refine sZ 100 ?_;refine nwI b1 ?_;refine ifI ?_;refine sZ 300 ?_;refine gwI (ff2 b2 b3) ?_;refine gwI (ff2 b2 b3) ?_;refine ixI b2 hx ?_;refine gwI (ff2 b2 b3) ?_;refine gwI (ff2 b2 b3) ?_;refine ifI ?_;refine sZ 500 ?_;refine gwI (ff2 b2 b3) ?_;refine gwI (ff2 b2 b3) ?_;refine ixI b2 hx ?_;refine gwI (ff2 b2 b3) ?_;refine gwI (ff2 b2 b3) ?_;refine ifI ?_;refine sR 700 ?_;refine ifI ?_;refine skI ?_;refine sR 900 ?_;refine rtI ?_;exact a0a rfl IsPure.out
  ·have hl2:2≤(a0e n).length:=by
    rw [a1b h0,a1b (n:=n / BB) (by
     intro h
     have:=Nat.div_add_mod n BB
     have:=Nat.mod_lt n (show BB>0 by decide)
     rw [h] at *;omega)]
    simp
   have hsm:¬ Sm (a7h neg n):=by
    intro hs;have h3:=hs.1;have h4:=hs.2;have h5:BB≤n:=by omega
    unfold BB at h5
    revert h3 h4
    unfold a7h;split<;>intro h3 h4<;>omega
   rw [b8B hsm];have ha:(a7h neg n).natAbs=n:=by unfold a7h;split<;>omega
   have hp:IsPure (.sl false 1 ((a0e n).map a0h)):=⟨a4v _⟩
   unfold GI.D GI.s GI.w;dsimp only;rw [ha];unfold wD wL;have hel:((((a0e n).map a0h).length:Nat):Int)=((a0e n).length:Int):=by rw [List.length_map]
   generalize (a0e n).map a0h=l at *;generalize hL:(a0e n).length=L at *;have b1:((L:Int)==0)=false:=beq_eq_false_iff_ne.2 (by omega);have b2:((L:Int)==1)=false:=beq_eq_false_iff_ne.2 (by omega);cases neg with
   | true =>
    have hs:(if a7h true n<0 then (-1:Int) else 1) = -1:=if_pos (by show -(n:Int)<0;omega);rw [hs];refine sR 0 ?_;refine OkS.seq ?_;refine OkS.block ?_;refine sZ 100 ?_;refine nwI (ff2 hel b1) ?_;refine ifI ?_;refine sZ 300 ?_;refine nwI (ff2 hel b2) ?_;refine gwI (ff2 hel b2) ?_;refine gwI (ff2 hel b2) ?_;refine ifI ?_;refine sZ 500 ?_;refine nwI (ff2 hel b2) ?_;refine gwI (ff2 hel b2) ?_;refine ifI ?_;refine sR 700 ?_;refine ifI ?_;refine sR 800 ?_;refine rtI ?_;exact a0a rfl IsPure.out
   | false =>
    have hs:(if a7h false n<0 then (-1:Int) else 1)=1:=if_neg (by show ¬ (n:Int)<0;omega);rw [hs];refine sR 0 ?_;refine OkS.seq ?_;refine OkS.block ?_;refine sZ 100 ?_;refine nwI (ff2 hel b1) ?_;refine ifI ?_;refine sZ 300 ?_;refine nwI (ff2 hel b2) ?_;refine gwI (ff2 hel b2) ?_;refine gwI (ff2 hel b2) ?_;refine ifI ?_;refine sZ 500 ?_;refine nwI (ff2 hel b2) ?_;refine gwI (ff2 hel b2) ?_;refine ifI ?_;refine sR 700 ?_;refine ifI ?_;refine skI ?_;refine sR 900 ?_;refine rtI ?_;exact a0a rfl IsPure.out
theorem b0j (x:GI)(h:x.wf):a0b C0 144 [x.D] (i64 (max (-1) (min 1 x.z))):=by
 refine a0c.walk w1 b7W rfl fun F=>?_
 have e:max (-1) (min 1 x.s)=max (-1) (min 1 x.z):=by
  obtain ⟨z,sm⟩:=x;cases sm with
  | true=>rfl
  | false =>
   have hb:=h.2 rfl;unfold GI.s;dsimp only at hb ⊢;unfold Sm at hb;split<;>omega
 refine fR 0 ?_;refine fR 100 ?_;rw [e];refine rtI ?_;exact a0a rfl IsPure.out
theorem c2l (z:Int):a7h (!decide (z<0)) z.natAbs = -z:=by
 by_cases h:z<0
 ·rw [decide_eq_true h];show ((z.natAbs:Nat):Int) = -z;omega
 ·rw [decide_eq_false h];show -((z.natAbs:Nat):Int) = -z;omega
def GI.few (x:GI):Prop:=(a0e x.z.natAbs).length<1000000
theorem b5S (x:GI)(h:x.wf)(hf:x.few):a0b C0 177 [x.D] (mkG (-x.z)).D:=by
 by_cases hs:x.sm=true∧x.z ≠ -9223372036854775808
 ·obtain ⟨z,sm⟩:=x
  obtain ⟨rfl,hz⟩:=hs;have h1:=h.1 rfl;dsimp only at h1 hz ⊢;have hsm:Sm z:=⟨by omega,h1.2⟩
  have:=b2o z hsm
  rw [a5U ⟨by have:=hsm.2;omega,by have:=hsm.1;omega⟩];exact this
 ·refine a0c.walk w1 b7Z rfl fun F=>?_
  have cp:=a2M x h;have cm:=a5v (!decide (x.z<0)) x.z.natAbs (Nat.lt_trans hf (by decide));rw [c2l] at cm;have hpr:IsPure (mkG (-x.z)).w:=inferInstance;dsimp only [GI.D] at cp cm ⊢;generalize (mkG (-x.z)).s=rs at *;generalize (mkG (-x.z)).w=rw at *;obtain ⟨z,sm⟩:=x;unfold GI.s GI.w at *;cases sm with
  | true =>
   have hz:z = -9223372036854775808:=Classical.byContradiction fun h0=>hs ⟨rfl,h0⟩
   subst hz;dsimp only at cp cm ⊢;refine fR 0 ?_;refine OkS.seq ?_;refine sZ 100 ?_
   repeat' (first|(refine And.intro (by exact sdI) ?_;refine dsI ?_)|((refine brI (fun hb=>?_) (fun hb=>?_))<;>(try simp only [Bool.not_eq_true',Bool.not_eq_false'] at hb)<;>(try simp only [hb])<;>(refine dsI ?_)))
   refine ifI ?_;refine skI ?_;refine fR 300 ?_;refine dI cp ?_;refine fR 400 ?_;refine dI cm ?_;refine rtI ?_;exact a0a rfl IsPure.out
  | false =>
   have hne:=a1S (n:=z.natAbs) (by
    intro h0
    have:=h.2 rfl
    apply this;exact ⟨by dsimp only;omega,by dsimp only;omega⟩)
   dsimp only at cp cm ⊢;unfold wD wL at *;have hp:IsPure (.sl false 1 ((a0e z.natAbs).map a0h)):=⟨a4v _⟩
   generalize (a0e z.natAbs).map a0h=l at *;generalize (if z<0 then (-1:Int) else 1)=sg at *;generalize decide (z<0)=nb at *;refine fR 0 ?_;refine OkS.seq ?_;refine OkS.seq ?_;refine OkS.reg w1 100 (by kernel_rfl) ?_;refine nwI (ff3 (@ne_eq (List D)) hne not_false_eq_true) ?_;refine gwI kT ?_;refine gwI kT ?_;refine ifI ?_;refine skI ?_;refine fR 300 ?_;refine dI cp ?_;refine fR 400 ?_;refine dI cm ?_;refine rtI ?_;exact a0a rfl IsPure.out
theorem d5k (a b:Nat)(ha:(a0e a).length<1000000)(hb:(a0e b).length<1000000):a0b C0 223 [wD a,wD b] (wD (a+b)):=by
 have:=c4X (a0e a) (a0e b) (a1e a) (a1e b) (Nat.lt_trans ha (by decide)) (Nat.lt_trans hb (by decide))
 rwa [a0J,a0J] at this
theorem d5d (a b:Nat)(h:b≤a)(ha:(a0e a).length<1000000):a0b C0 225 [wD a,wD b] (wD (a - b)):=by
 have:=c6M (a0e a) (a0e b) (a1e a) (a1e b) (Nat.lt_trans ha (by decide)) (a0A b a h) (by rw [a0J,a0J];exact h)
 rwa [a0J,a0J] at this
theorem d5L (a b:Nat)(ha:(a0e a).length<1000000)(hb:(a0e b).length<1000000):a0b C0 229 [wD a,wD b] (wD (a*b)):=by
 have:=c6c (a0e a) (a0e b) (a1e a) (a1e b) ha hb
 rwa [a0J,a0J] at this
theorem a0G {n k:Nat}(h:n<BB^k):(a0e n).length≤k:=by
 induction k generalizing n with
 | zero =>
  have:n=0:=by simpa using h
  subst this;rw [a0K];exact Nat.le_refl _
 | succ k ih =>
  by_cases h0:n=0
  ·subst h0;rw [a0K];exact Nat.zero_le _
  ·rw [a1b h0,List.length_cons]
   exact Nat.succ_le_succ (ih (Nat.div_lt_of_lt_mul (by rw [Nat.mul_comm,← Nat.pow_succ];exact h)))
theorem a2L (n:Nat):n<BB^(a0e n).length:=by
 have:=a2H (a1e n)
 rwa [a0J] at this
theorem b2f (a b:Nat):(a0e (a+b)).length≤max (a0e a).length (a0e b).length+1:=by
 refine a0G ?_;have h1:=a2L a;have h2:=a2L b;have m1:BB^(a0e a).length≤BB^max (a0e a).length (a0e b).length:=Nat.pow_le_pow_right (by decide) (Nat.le_max_left _ _);have m2:BB^(a0e b).length≤BB^max (a0e a).length (a0e b).length:=Nat.pow_le_pow_right (by decide) (Nat.le_max_right _ _);rw [Nat.pow_succ];generalize BB^max (a0e a).length (a0e b).length=q at *;unfold BB;omega
theorem b2g (a b:Nat):(a0e (a - b)).length≤(a0e a).length:=a0A _ _ (Nat.sub_le _ _)
def a7k (x y:GI):GI:=if x.sm=true∧y.sm=true∧x.z+y.z = -9223372036854775808 then ⟨x.z+y.z,true⟩ else mkG (x.z+y.z)
theorem a9z (x y:GI):(a7k x y).z=x.z+y.z:=by unfold a7k;split<;>rfl
theorem a6h (x y:GI):(a7k x y).wf:=by
 unfold a7k;split
 ·rename_i h
  refine ⟨fun _=>?_,fun h=>by cases h⟩;dsimp only;rw [h.2.2];decide
 ·exact a0H _
theorem b6H (x y:GI)(hx:x.sm=true)(hy:y.sm=true)(h1 : -9223372036854775808≤x.z+y.z)(h2:x.z+y.z<9223372036854775808):a0b C0 178 [x.D,y.D] (a7k x y).D:=by
 obtain ⟨a,sa⟩:=x;obtain ⟨b,sb⟩:=y;dsimp only at hx hy h1 h2;subst hx;subst hy;have e:(a7k ⟨a,true⟩ ⟨b,true⟩).D=smI (a+b):=by
  unfold a7k;dsimp only;split
  ·rfl
  ·rename_i h
   have h3:¬ a+b = -9223372036854775808:=fun h0=>h ⟨rfl,rfl,h0⟩
   rw [a5U ⟨by omega,h2⟩];rfl
 rw [e];show a0b C0 _ [smI a,smI b] _;refine a0c.walk w1 b4v rfl fun F=>?_
 refine fR 0 ?_;refine OkS.seq ?_;refine sZ 100 ?_
 repeat' (first|(refine And.intro (by exact sdI) ?_;refine dsI ?_)|((refine brI (fun hb=>?_) (fun hb=>?_))<;>(try simp only [Bool.not_eq_true',Bool.not_eq_false'] at hb)<;>(try simp only [hb])<;>(refine dsI ?_)))
 refine ifI ?_;have e1:IntKind.i64.wrap (a+b)=a+b:=wI (by omega) (by omega);have e2:(decide (a+b>a)==decide (b>0))=true:=by
  rw [beq_iff_eq,decide_eq_decide];omega
 refine sZ 200 ?_;refine mwI e1 ?_;refine fR 300 ?_;rw [e2];refine ifI ?_;refine fR 400 ?_;refine rtI ?_;exact a0a rfl IsPure.out
theorem c4W (x y:GI)(hx:x.wf)(hy:y.wf)(fx:x.few)(fy:y.few)(hn:¬ (x.sm=true∧y.sm=true∧-9223372036854775808≤x.z+y.z∧x.z+y.z<9223372036854775808)):a0b C0 178 [x.D,y.D] (mkG (x.z+y.z)).D:=by
 refine a0c.walk w1 b4v rfl fun F=>?_
 have cx:=a2M x hx;have cy:=a2M y hy;have hpr:IsPure (mkG (x.z+y.z)).w:=inferInstance;have hpx:IsPure x.w:=inferInstance;have hpy:IsPure y.w:=inferInstance;have la:=b2f x.z.natAbs y.z.natAbs;have ls:=b2g x.z.natAbs y.z.natAbs;have ls':=b2g y.z.natAbs x.z.natAbs;unfold GI.few at fx fy;dsimp only [GI.D] at *;refine fR 0 ?_;refine OkS.seqW ⟨[(2,.optr 0 0 2 0 0),(3,.optr 1 1 2 0 0),(4,.optr 2 2 2 0 0)],[⟨2,2,112,2,[smI 0]⟩,⟨1,1,112,2,[.agg [i64 y.s,y.w]]⟩,⟨0,0,112,2,[.agg [i64 x.s,x.w]]⟩],60⟩ ?_ ?_
 ·obtain ⟨a,sa⟩:=x
  obtain ⟨b,sb⟩:=y;clear cx cy la ls ls' hpr;have nx:sa=false→(a0e a.natAbs).map a0h≠[]:=fun h=>a1S (by
   intro h0;subst h;exact hx.2 rfl ⟨by dsimp only;omega,by dsimp only;omega⟩)
  have ny:sb=false→(a0e b.natAbs).map a0h≠[]:=fun h=>a1S (by
   intro h0;subst h;exact hy.2 rfl ⟨by dsimp only;omega,by dsimp only;omega⟩)
  unfold GI.s GI.w wD wL at *;dsimp only at *;generalize (a0e a.natAbs).map a0h=ka at *;generalize (a0e b.natAbs).map a0h=kb at *;cases sa with
  | false =>
   have nx:=nx rfl;dsimp only at *;generalize (if a<0 then (-1:Int) else 1)=sg at *;generalize (match sb with|true=>b|false=>if b<0 then (-1:Int) else 1)=sh at *;generalize (match sb with|true=>a2d|false=>D.sl false 1 kb)=wy at *;refine OkS.seq ?_;refine OkS.reg w1 100 (by kernel_rfl) ?_;refine nwI (ff3 (@ne_eq (List D)) nx not_false_eq_true) ?_;refine gwI kT ?_;refine gwI kT ?_;refine ifI ?_;refine skI ?_;exact And.intro (by trivial) (wkI)
  | true =>
   dsimp only at *;cases sb with
   | false =>
    have ny:=ny rfl;dsimp only at *;generalize (if b<0 then (-1:Int) else 1)=sh at *;refine OkS.seq ?_;refine OkS.reg w1 100 (by kernel_rfl) ?_;refine nwI (ff3 (@ne_eq (List D)) ny not_false_eq_true) ?_;refine gwI (ff4 kT (@ne_eq (List D)) ny not_false_eq_true) ?_;refine gwI (ff4 kT (@ne_eq (List D)) ny not_false_eq_true) ?_;refine ifI ?_;refine skI ?_;exact And.intro (by trivial) (wkI)
   | true =>
    have ra:=hx.1 rfl;have rb:=hy.1 rfl;dsimp only at *;have e2:(decide (IntKind.i64.wrap (a+b)>a)==decide (b>0))=false:=by
     have hov:¬ (-9223372036854775808≤a+b∧a+b<9223372036854775808):=fun h=>hn ⟨rfl,rfl,h.1,h.2⟩
     have ew:IntKind.i64.wrap (a+b)=a+b - 18446744073709551616∧9223372036854775808≤a+b∨IntKind.i64.wrap (a+b)=a+b+18446744073709551616∧a+b < -9223372036854775808:=by
      have e1:(2:Int)^IntKind.i64.bits=18446744073709551616:=rfl;have e2:(2:Int)^(IntKind.i64.bits - 1)=9223372036854775808:=rfl;have e3:IntKind.i64.signed=true:=rfl;unfold IntKind.wrap;simp only [e1,e2,e3,Bool.true_and,decide_eq_true_eq];split<;>omega
     rw [beq_eq_false_iff_ne,ne_eq,decide_eq_decide];omega
    refine sZ 100 ?_
    repeat' (first|(refine And.intro (by exact sdI) ?_;refine dsI ?_)|((refine brI (fun hb=>?_) (fun hb=>?_))<;>(try simp only [Bool.not_eq_true',Bool.not_eq_false'] at hb)<;>(try simp only [hb])<;>(refine dsI ?_)))
    refine ifI ?_;refine fR 200 ?_;refine fR 300 ?_;rw [e2];refine ifI ?_;refine skI ?_;exact And.intro (by trivial) (wkI)
 ·refine fR 500 ?_
  refine dI cx ?_;refine fR 600 ?_;refine dI cy ?_;refine OkS.seq ?_;refine OkS.block ?_;refine fR 700 ?_
  by_cases hs:(decide (x.z<0))=(decide (y.z<0))
  ·have e1:(decide (x.z<0)==decide (y.z<0))=true:=beq_iff_eq.2 hs
   rw [e1];have ca:=d5k x.z.natAbs y.z.natAbs fx fy;have cm:=a5v (decide (x.z<0)) (x.z.natAbs+y.z.natAbs) (by omega);have ez:a7h (decide (x.z<0)) (x.z.natAbs+y.z.natAbs)=x.z+y.z:=by
    rw [decide_eq_decide] at hs
    by_cases h:x.z<0
    ·rw [decide_eq_true h];have:=hs.1 h;show -(((x.z.natAbs+y.z.natAbs:Nat)):Int)=_;omega
    ·rw [decide_eq_false h];have:¬ y.z<0:=fun h0=>h (hs.2 h0);show (((x.z.natAbs+y.z.natAbs:Nat)):Int)=_;omega
   rw [ez] at cm;dsimp only [GI.D] at cm;refine ifI ?_;refine fR 800 ?_;refine dI ca ?_;refine dI cm ?_;refine rtI ?_;exact a0a rfl IsPure.out
  ·have e1:(decide (x.z<0)==decide (y.z<0))=false:=beq_eq_false_iff_ne.2 hs
   rw [e1];have cc:=b0z x.z.natAbs y.z.natAbs (by omega) (by omega);refine ifI ?_;refine fR 900 ?_;refine dI cc ?_
   by_cases hc:y.z.natAbs≤x.z.natAbs
   ·have e2:decide (a6e (x.z.natAbs:Nat) (y.z.natAbs:Nat)≥0)=true:=decide_eq_true (by unfold a6e;split<;>(try split)<;>omega)
    rw [e2];have ca:=d5d x.z.natAbs y.z.natAbs hc fx;have cm:=a5v (decide (x.z<0)) (x.z.natAbs - y.z.natAbs) (by omega);have ez:a7h (decide (x.z<0)) (x.z.natAbs - y.z.natAbs)=x.z+y.z:=by
     rw [decide_eq_decide] at hs
     by_cases h:x.z<0
     ·rw [decide_eq_true h];have:¬ y.z<0:=fun h0=>hs ⟨fun _=>h0,fun _=>h⟩;show -(((x.z.natAbs - y.z.natAbs:Nat)):Int)=_;omega
     ·rw [decide_eq_false h];have:y.z<0:=Classical.byContradiction fun h0=>hs ⟨fun h1=>absurd h1 h,fun h1=>absurd h1 h0⟩;show (((x.z.natAbs - y.z.natAbs:Nat)):Int)=_;omega
    rw [ez] at cm;dsimp only [GI.D] at cm;refine ifI ?_;refine fR 1000 ?_;refine dI ca ?_;refine dI cm ?_;refine rtI ?_;exact a0a rfl IsPure.out
   ·have e2:decide (a6e (x.z.natAbs:Nat) (y.z.natAbs:Nat)≥0)=false:=decide_eq_false (by unfold a6e;split<;>(try split)<;>omega)
    rw [e2];have ca:=d5d y.z.natAbs x.z.natAbs (by omega) fy;have cm:=a5v (decide (y.z<0)) (y.z.natAbs - x.z.natAbs) (by omega);have ez:a7h (decide (y.z<0)) (y.z.natAbs - x.z.natAbs)=x.z+y.z:=by
     rw [decide_eq_decide] at hs
     by_cases h:y.z<0
     ·rw [decide_eq_true h];have:¬ x.z<0:=fun h0=>hs ⟨fun _=>h,fun _=>h0⟩;show -(((y.z.natAbs - x.z.natAbs:Nat)):Int)=_;omega
     ·rw [decide_eq_false h];have:x.z<0:=Classical.byContradiction fun h0=>hs ⟨fun h1=>absurd h1 h0,fun h1=>absurd h1 h⟩;show (((y.z.natAbs - x.z.natAbs:Nat)):Int)=_;omega
    rw [ez] at cm;dsimp only [GI.D] at cm;refine ifI ?_;refine skI ?_;refine fR 1100 ?_;refine dI ca ?_;refine dI cm ?_;refine rtI ?_;exact a0a rfl IsPure.out
theorem b6F (x y:GI)(hx:x.wf)(hy:y.wf)(fx:x.few)(fy:y.few):a0b C0 178 [x.D,y.D] (a7k x y).D:=by
 by_cases h:x.sm=true∧y.sm=true∧-9223372036854775808≤x.z+y.z∧x.z+y.z<9223372036854775808
 ·exact b6H x y h.1 h.2.1 h.2.2.1 h.2.2.2
 ·have:=c4W x y hx hy fx fy h
  have e:a7k x y=mkG (x.z+y.z):=by
   unfold a7k;rw [if_neg];rintro ⟨h1,h2,h3⟩;exact h ⟨h1,h2,by omega,by omega⟩
  rw [e];exact this
theorem b7I {z:Int}(h:(a0e z.natAbs).length<1000000):(mkG (-z)).few:=by
 show (a0e (-z).natAbs).length<1000000;rw [Int.natAbs_neg];exact h
def b9X (x y:GI):GI:=a7k x (mkG (-y.z))
theorem c4E (x y:GI):(b9X x y).z=x.z - y.z:=by unfold b9X;rw [a9z];show x.z + -y.z=_;omega
theorem b9Y (x y:GI):(b9X x y).wf:=a6h _ _
theorem d2e (x y:GI)(hx:x.wf)(hy:y.wf)(fx:x.few)(fy:y.few):a0b C0 246 [x.D,y.D] (b9X x y).D:=by
 refine a0c.walk w1 c3Q rfl fun F=>?_
 have c1:=b5S y hy fy;have c2:=b6F x (mkG (-y.z)) hx (a0H _) fx (b7I fy);unfold b9X;refine fR 0 ?_;refine OkS.seq ?_;refine OkS.regD w1 100 [0,1,2] [3,4] (by kernel_rfl) ?_;refine nxI ?_;refine a0n.same _ (c1) inferInstance ?_;refine nxI ?_;refine dI c2 ?_;refine rtI ?_;exact a0a rfl IsPure.out
theorem d2P (x y:GI)(hx:x.wf)(hy:y.wf)(fx:x.few)(fy:y.few):a0b C0 203 [x.D,y.D] (i64 (a6e x.z y.z)):=by
 by_cases h:x.sm=true∧y.sm=true
 ·obtain ⟨a,sa⟩:=x
  obtain ⟨b,sb⟩:=y;obtain ⟨h1,h2⟩:=h;dsimp only at h1 h2;subst h1;subst h2;exact b8n a b
 ·have cs:=d2e x y hx hy fx fy
  have cg:=b0j (b9X x y) (b9Y x y);rw [c4E] at cg;have e:max (-1) (min 1 (x.z - y.z))=a6e x.z y.z:=by unfold a6e;split<;>(try split)<;>omega
  rw [e] at cg;have hpr:IsPure (b9X x y).w:=inferInstance;have hpx:IsPure x.w:=inferInstance;have hpy:IsPure y.w:=inferInstance;dsimp only [GI.D] at *;generalize (b9X x y).s=rs at *;generalize (b9X x y).w=rw at *;generalize a6e x.z y.z=r at *;refine a0c.walk w1 b8a rfl fun F=>?_
  obtain ⟨a,sa⟩:=x;obtain ⟨b,sb⟩:=y;have nx:sa=false→(a0e a.natAbs).map a0h≠[]:=fun h=>a1S (by
   intro h0;subst h;exact hx.2 rfl ⟨by dsimp only;omega,by dsimp only;omega⟩)
  have ny:sb=false→(a0e b.natAbs).map a0h≠[]:=fun h=>a1S (by
   intro h0;subst h;exact hy.2 rfl ⟨by dsimp only;omega,by dsimp only;omega⟩)
  unfold GI.s GI.w wD wL at *;dsimp only at *;generalize (a0e a.natAbs).map a0h=ka at *;generalize (a0e b.natAbs).map a0h=kb at *;cases sa with
  | false =>
   have nx:=nx rfl;dsimp only at *;generalize (if a<0 then (-1:Int) else 1)=sg at *;generalize (match sb with|true=>b|false=>if b<0 then (-1:Int) else 1)=sh at *;generalize (match sb with|true=>a2d|false=>D.sl false 1 kb)=wy at *;refine fR 0 ?_;refine OkS.seq ?_;refine OkS.seq ?_;refine OkS.reg w1 100 (by kernel_rfl) ?_;refine nwI (ff3 (@ne_eq (List D)) nx not_false_eq_true) ?_;refine gwI kT ?_;refine gwI kT ?_;refine ifI ?_;refine skI ?_;refine fR 700 ?_;refine dI cs ?_;refine dI cg ?_;refine rtI ?_;exact a0a rfl IsPure.out
  | true =>
   dsimp only at *;cases sb with
   | false =>
    have ny:=ny rfl;dsimp only at *;generalize (if b<0 then (-1:Int) else 1)=sh at *;refine fR 0 ?_;refine OkS.seq ?_;refine OkS.seq ?_;refine OkS.reg w1 100 (by kernel_rfl) ?_;refine nwI (ff3 (@ne_eq (List D)) ny not_false_eq_true) ?_;refine gwI (ff4 kT (@ne_eq (List D)) ny not_false_eq_true) ?_;refine gwI (ff4 kT (@ne_eq (List D)) ny not_false_eq_true) ?_;refine ifI ?_;refine skI ?_;refine fR 700 ?_;refine dI cs ?_;refine dI cg ?_;refine rtI ?_;exact a0a rfl IsPure.out
   | true=>exact absurd ⟨rfl,rfl⟩ h
theorem a2V (a b:Nat):(a0e (a*b)).length≤(a0e a).length+(a0e b).length:=by
 refine a0G ?_;rw [Nat.pow_add];exact Nat.mul_lt_mul'' (a2L a) (a2L b)
theorem c2k (a b:Int):a7h (decide (a<0) != decide (b<0)) (a.natAbs*b.natAbs)=a*b:=by
 rw [← Int.natAbs_mul]
 by_cases h1:a<0<;>by_cases h2:b<0
 ·rw [decide_eq_true h1,decide_eq_true h2]
  have:0≤a*b:=Int.mul_nonneg_of_nonpos_of_nonpos (by omega) (by omega)
  show (((a*b).natAbs:Nat):Int)=a*b;omega
 ·rw [decide_eq_true h1,decide_eq_false h2]
  have:a*b≤0:=Int.mul_nonpos_of_nonpos_of_nonneg (by omega) (by omega)
  show -(((a*b).natAbs:Nat):Int)=a*b;omega
 ·rw [decide_eq_false h1,decide_eq_true h2]
  have:a*b≤0:=Int.mul_nonpos_of_nonneg_of_nonpos (by omega) (by omega)
  show -(((a*b).natAbs:Nat):Int)=a*b;omega
 ·rw [decide_eq_false h1,decide_eq_false h2]
  have:0≤a*b:=Int.mul_nonneg (by omega) (by omega)
  show (((a*b).natAbs:Nat):Int)=a*b;omega
theorem c6a (x y:GI)(hx:x.wf)(hy:y.wf)(fx:(a0e x.z.natAbs).length<400000)(fy:(a0e y.z.natAbs).length<400000)(hn:¬ (x.sm=true∧y.sm=true∧(x.z*y.z).natAbs≤9223372036854775807)):a0b C0 180 [x.D,y.D] (mkG (x.z*y.z)).D:=by
 refine a0c.walk w1 b4w rfl fun F=>?_
 have cx:=a2M x hx;have cy:=a2M y hy;have hpr:IsPure (mkG (x.z*y.z)).w:=inferInstance;have hpx:IsPure x.w:=inferInstance;have hpy:IsPure y.w:=inferInstance;have lm:=a2V x.z.natAbs y.z.natAbs;have ca:=d5L x.z.natAbs y.z.natAbs (by omega) (by omega);have cm:=a5v (decide (x.z<0) != decide (y.z<0)) (x.z.natAbs*y.z.natAbs) (by omega);rw [c2k] at cm;dsimp only [GI.D] at *;refine fR 0 ?_;refine OkS.seqW ⟨[(2,.optr 0 0 2 0 0),(3,.optr 1 1 2 0 0),(4,.optr 2 2 2 0 0)],[⟨2,2,112,2,[smI 0]⟩,⟨1,1,112,2,[.agg [i64 y.s,y.w]]⟩,⟨0,0,112,2,[.agg [i64 x.s,x.w]]⟩],90⟩ ?_ ?_
 ·obtain ⟨a,sa⟩:=x
  obtain ⟨b,sb⟩:=y;clear cx cy lm ca cm hpr;have nx:sa=false→(a0e a.natAbs).map a0h≠[]:=fun h=>a1S (by
   intro h0;subst h;exact hx.2 rfl ⟨by dsimp only;omega,by dsimp only;omega⟩)
  have ny:sb=false→(a0e b.natAbs).map a0h≠[]:=fun h=>a1S (by
   intro h0;subst h;exact hy.2 rfl ⟨by dsimp only;omega,by dsimp only;omega⟩)
  unfold GI.s GI.w wD wL at *;dsimp only at *;generalize (a0e a.natAbs).map a0h=ka at *;generalize (a0e b.natAbs).map a0h=kb at *;cases sa with
  | false =>
   have nx:=nx rfl;dsimp only at *;generalize (if a<0 then (-1:Int) else 1)=sg at *;generalize (match sb with|true=>b|false=>if b<0 then (-1:Int) else 1)=sh at *;generalize (match sb with|true=>a2d|false=>D.sl false 1 kb)=wy at *;refine OkS.seq ?_;refine OkS.reg w1 100 (by kernel_rfl) ?_;refine nwI (ff3 (@ne_eq (List D)) nx not_false_eq_true) ?_;refine gwI kT ?_;refine gwI kT ?_;refine ifI ?_;refine skI ?_;exact And.intro (by trivial) (wkI)
  | true =>
   dsimp only at *;cases sb with
   | false =>
    have ny:=ny rfl;dsimp only at *;generalize (if b<0 then (-1:Int) else 1)=sh at *;refine OkS.seq ?_;refine OkS.reg w1 100 (by kernel_rfl) ?_;refine nwI (ff3 (@ne_eq (List D)) ny not_false_eq_true) ?_;refine gwI (ff4 kT (@ne_eq (List D)) ny not_false_eq_true) ?_;refine gwI (ff4 kT (@ne_eq (List D)) ny not_false_eq_true) ?_;refine ifI ?_;refine skI ?_;exact And.intro (by trivial) (wkI)
   | true =>
    have ra:=hx.1 rfl;have rb:=hy.1 rfl;dsimp only at *;have sa:=b2D ra.1 ra.2;have sb:=b2D rb.1 rb.2;have la:a.natAbs<BB:=by unfold BB;omega
    have lb:b.natAbs<BB:=by unfold BB;omega
    have c0:=a4P a.natAbs b.natAbs la lb;have hab:a.natAbs*b.natAbs=(a*b).natAbs:=(Int.natAbs_mul a b).symm;have hbig:9223372036854775807<(a*b).natAbs:=Classical.byContradiction fun h=>hn ⟨rfl,rfl,by omega⟩
    rw [hab] at c0;generalize (a*b).natAbs=p at *;refine sZ 100 ?_
    repeat' (first|(refine And.intro (by exact sdI) ?_;refine dsI ?_)|((refine brI (fun hb=>?_) (fun hb=>?_))<;>(try simp only [Bool.not_eq_true',Bool.not_eq_false'] at hb)<;>(try simp only [hb])<;>(refine dsI ?_)))
    refine ifI ?_;refine OkS.seq ?_;refine OkS.regD w1 200 [0,1,2,3,4,5,6,7,8,9,10] [11] (by kernel_rfl) ?_;refine nxI ?_;refine a0n.same _ (sa) inferInstance ?_;refine nxI ?_;refine a0n.same _ (sb) inferInstance ?_;refine nxI ?_;refine a0n.same _ (c0) inferInstance ?_;refine nxI ?_;refine OkS.seq ?_
    by_cases h0:p / 18446744073709551616=0
    ·rw [h0]
     have h1:p%18446744073709551616=p:=by omega
     rw [h1];have e3:decide ((p:Int)≤9223372036854775807)=false:=decide_eq_false (by omega);refine OkS.reg w1 300 (by kernel_rfl) ?_
     repeat' (first|(refine And.intro (by exact sdI) ?_;refine dsI ?_)|((refine brI (fun hb=>?_) (fun hb=>?_))<;>(try simp only [Bool.not_eq_true',Bool.not_eq_false'] at hb)<;>(try simp only [hb])<;>(refine dsI ?_)))
     rw [e3];refine ifI ?_;refine skI ?_;exact And.intro (by trivial) (wkI)
    ·have e3:(((p / 18446744073709551616:Nat):Int)==0)=false:=beq_eq_false_iff_ne.2 (by omega)
     refine OkS.reg w1 300 (by kernel_rfl) ?_;refine nwI e3 ?_;refine gwI e3 ?_;refine gwI e3 ?_;refine ifI ?_;refine skI ?_;exact And.intro (by trivial) (wkI)
 ·refine fR 700 ?_
  refine dI cx ?_;refine fR 800 ?_;refine dI cy ?_;refine fR 900 ?_;refine dI ca ?_;refine dI cm ?_;refine rtI ?_;exact a0a rfl IsPure.out
theorem b8F (a b:Int)(hc:Sm (a*b))(ha : -9223372036854775808≤a∧a<9223372036854775808)(hb : -9223372036854775808≤b∧b<9223372036854775808):a0b C0 180 [smI a,smI b] (smI (a*b)):=by
 refine a0c.walk w1 b4w rfl fun F=>?_
 have hab:a.natAbs*b.natAbs=(a*b).natAbs:=(Int.natAbs_mul a b).symm;have h1:a.natAbs*b.natAbs / 18446744073709551616=0:=by rw [hab];have:=hc.1;have:=hc.2;omega
 have h2:a.natAbs*b.natAbs%18446744073709551616=(a*b).natAbs:=by rw [hab];have:=hc.1;have:=hc.2;omega
 have c0:=a4P a.natAbs b.natAbs (by omega) (by omega);rw [h1,h2] at c0;refine fR 0 ?_;refine OkS.seq ?_;refine sZ 100 ?_
 repeat' (first|(refine And.intro (by exact sdI) ?_;refine dsI ?_)|((refine brI (fun hb=>?_) (fun hb=>?_))<;>(try simp only [Bool.not_eq_true',Bool.not_eq_false'] at hb)<;>(try simp only [hb])<;>(refine dsI ?_)))
 refine ifI ?_;refine OkS.seq ?_;refine OkS.regD w1 200 [0,1,2,3,4,5,6,7,8,9,10] [11] (by kernel_rfl) ?_;refine nxI ?_;refine a0n.same _ (b2D ha.1 ha.2) inferInstance ?_;refine nxI ?_;refine a0n.same _ (b2D hb.1 hb.2) inferInstance ?_;refine nxI ?_;refine a0n.same _ (c0) inferInstance ?_;refine nxI ?_;refine sZ 300 ?_
 repeat' (first|(refine And.intro (by exact sdI) ?_;refine dsI ?_)|((refine brI (fun hb=>?_) (fun hb=>?_))<;>(try simp only [Bool.not_eq_true',Bool.not_eq_false'] at hb)<;>(try simp only [hb])<;>(refine dsI ?_)))
 have e3:decide ((((a*b).natAbs:Nat):Int)≤9223372036854775807)=true:=decide_eq_true (by have:=hc.1;have:=hc.2;omega);rw [e3];refine ifI ?_;refine OkS.seq ?_;refine fR 400 ?_;refine ifI ?_;have e4:IntKind.i64.wrap (((a*b).natAbs:Nat):Int)=((a*b).natAbs:Nat):=wN (by have:=hc.1;have:=hc.2;omega)
 (refine brI (fun h41=>?_) (fun h41=>?_))<;>(try simp only [Bool.not_eq_true',Bool.not_eq_false'] at h41)<;>(try simp only [h41])
 ·have e5:IntKind.i64.wrap (0 - (((a*b).natAbs:Nat):Int)) = -((a*b).natAbs:Nat):=by
   rw [wI (by have:=hc.1;have:=hc.2;omega) (by have:=hc.1;have:=hc.2;omega)];omega
  have e6 : -(((a*b).natAbs:Nat):Int)=a*b:=by
   have hs:(a<0)≠(b<0):=by simpa using h41
   have:a*b≤0:=by
    by_cases h1:a<0
    ·have h2:¬ b<0:=fun h2=>hs (by simp [h1,h2])
     exact Int.mul_nonpos_of_nonpos_of_nonneg (by omega) (by omega)
    ·have h2:b<0:=Classical.byContradiction fun h2=>hs (by simp [h1,h2])
     exact Int.mul_nonpos_of_nonneg_of_nonpos (by omega) (by omega)
   omega
  refine sZ 500 ?_;refine mwI (ff3 e4 e5 e6) ?_;refine rtI ?_;exact a0a rfl IsPure.out
 ·have e6:(((a*b).natAbs:Nat):Int)=a*b:=by
   have hs:¬ ((a<0)≠(b<0)):=by simpa using h41
   have:0≤a*b:=by
    by_cases h1:a<0
    ·have h2:b<0:=Classical.byContradiction fun h2=>hs (by simp [h1,h2])
     exact Int.mul_nonneg_of_nonpos_of_nonpos (by omega) (by omega)
    ·have h2:¬ b<0:=fun h2=>hs (by simp [h1,h2])
     exact Int.mul_nonneg (by omega) (by omega)
   omega
  rw [e6] at e4;refine skI ?_;refine sZ 600 ?_;refine mwI (ff2 e6 e4) ?_;refine rtI ?_;exact a0a rfl IsPure.out
theorem d1s (x y:GI)(hx:x.wf)(hy:y.wf)(fx:(a0e x.z.natAbs).length<400000)(fy:(a0e y.z.natAbs).length<400000):a0b C0 180 [x.D,y.D] (mkG (x.z*y.z)).D:=by
 by_cases h:x.sm=true∧y.sm=true∧(x.z*y.z).natAbs≤9223372036854775807
 ·obtain ⟨a,sa⟩:=x
  obtain ⟨b,sb⟩:=y;obtain ⟨h1,h2,h3⟩:=h;dsimp only at h1 h2 h3;subst h1;subst h2;have hs:Sm (a*b):=⟨by omega,by omega⟩
  dsimp only;rw [a5U hs];exact b8F a b hs (hx.1 rfl) (hy.1 rfl)
 ·exact c6a x y hx hy fx fy h
def c4T (x:GI):GI:=if x.z<0 then mkG (-x.z) else x
theorem c7G (x:GI):(c4T x).z=(x.z.natAbs:Nat):=by
 unfold c4T;split
 ·show -x.z=_;omega
 ·omega
theorem c4U (x:GI)(h:x.wf):(c4T x).wf:=by
 unfold c4T;split
 ·exact a0H _
 ·exact h
theorem c7H (x:GI)(h:x.wf)(hf:x.few):a0b C0 196 [x.D] (c4T x).D:=by
 refine a0c.walk w1 b4y rfl fun F=>?_
 have hs:=c4B x h;have cn:=b5S x h hf;have hpx:IsPure x.w:=inferInstance;have hpr:IsPure (mkG (-x.z)).w:=inferInstance;unfold c4T
 by_cases hz:x.z<0
 ·have e:decide (x.s<0)=true:=decide_eq_true (by rw [hs];exact hz)
  rw [if_pos hz];dsimp only [GI.D] at *;refine fR 0 ?_;refine OkS.seq ?_;refine fR 100 ?_;rw [e];refine ifI ?_;refine fR 200 ?_;refine dI cn ?_;refine rtI ?_;exact a0a rfl IsPure.out
 ·have e:decide (x.s<0)=false:=decide_eq_false (by rw [hs];exact hz)
  rw [if_neg hz];dsimp only [GI.D] at *;refine fR 0 ?_;refine OkS.seq ?_;refine fR 100 ?_;rw [e];refine ifI ?_;refine skI ?_;refine fR 300 ?_;refine rtI ?_;exact a0a rfl IsPure.out
structure a3J (B Y u1 u0:Nat)(q r:Nat):Prop where
 eq:q*(Y / B)+r=u1
 up:u1*B+u0<(q+1)*Y
 q2:q≤B+1
theorem a8L {B Y u1 u0:Nat}(hB:0<B)(hY:B*B≤2*Y)(hY2:Y<B*B)(hev:B%2=0)(hu:u1<Y)(h0:u0<B) :
  a3J B Y u1 u0 (u1 / (Y / B)) (u1 - u1 / (Y / B)*(Y / B))∧u1 - u1 / (Y / B)*(Y / B)<B:=by
 have e:=Nat.div_add_mod Y B;have m:=Nat.mod_lt Y hB;generalize hg:Y / B=y1 at *;generalize Y%B=y0 at *;have hy1:y1<B:=by
  rcases Nat.lt_or_ge y1 B with h|h
  ·exact h
  ·have:=Nat.mul_le_mul_left B h
   omega
 have hy2:B≤2*y1:=by
  rcases Nat.lt_or_ge (2*y1) B with h|h
  ·exfalso
   have h1:2*y1+2≤B:=by omega
   have h2:=Nat.mul_le_mul_left B h1;have h3:B*(2*y1+2)=2*(B*y1)+2*B:=by
    rw [Nat.mul_add,Nat.mul_left_comm,Nat.mul_comm B 2]
   omega
  ·exact h
 have e1:=Nat.div_add_mod u1 y1;have m1:=Nat.mod_lt u1 (show 0<y1 by omega);have c1:y1*(u1 / y1)=u1 / y1*y1:=Nat.mul_comm _ _;refine ⟨⟨by rw [hg];omega,?_,?_⟩,by omega⟩
 ·generalize hq:u1 / y1=q at *
  have h1:u1+1≤(q+1)*y1:=by rw [Nat.add_mul];omega
  have h2:=Nat.mul_le_mul_right B h1;have h3:(q+1)*Y=(q+1)*y1*B+(q+1)*y0:=by
   rw [← e,Nat.mul_add,Nat.mul_comm B y1,Nat.mul_assoc]
  rw [Nat.add_mul] at h2;omega
 ·rcases Nat.lt_or_ge (B+1) (u1 / y1) with h|h
  ·exfalso
   have h1:=Nat.mul_le_mul_left y1 (show B+2≤u1 / y1 by omega);have h2:y1*(B+2)=B*y1+2*y1:=by rw [Nat.mul_add,Nat.mul_comm y1 B,Nat.mul_comm y1 2]
   omega
  ·exact h
theorem b0e {B Y u1 u0 q r:Nat}(hB:0<B)(hu:u1<Y)(h0:u0<B)(I:a3J B Y u1 u0 q r)
  (c:B≤q∨B*r+u0<q*(Y%B)):0<q∧a3J B Y u1 u0 (q - 1) (r+Y / B):=by
 have e:=Nat.div_add_mod Y B;obtain ⟨i1,i2,i3⟩:=I;generalize hg:Y / B=y1 at *;generalize Y%B=y0 at *;have hq:0<q:=by
  rcases c with c|c
  ·omega
  ·rcases Nat.eq_zero_or_pos q with h|h
   ·subst h;omega
   ·exact h
 obtain ⟨p,rfl⟩:∃ p,q=p+1:=⟨q - 1,by omega⟩
 refine ⟨hq,⟨?_,?_,?_⟩⟩
 ·rw [Nat.add_sub_cancel,hg,Nat.mul_comm p];rw [Nat.add_mul,Nat.mul_comm p] at i1;omega
 ·rw [Nat.add_sub_cancel]
  rcases c with c|c
  ·have h1:=Nat.mul_le_mul_right Y c
   have h2:(u1+1)*B≤Y*B:=Nat.mul_le_mul_right B hu;rw [Nat.add_mul] at h2;rw [Nat.mul_comm Y B] at h2;omega
  ·have h3:(p+1)*Y=(p+1)*y1*B+(p+1)*y0:=by
    rw [← e,Nat.mul_add,Nat.mul_comm B y1,Nat.mul_assoc]
   have h4:u1*B=(p+1)*y1*B+r*B:=by rw [← i1,Nat.add_mul]
   rw [Nat.mul_comm r B] at h4;omega
 ·omega
theorem a8K {B Y u1 u0 q r:Nat}(I:a3J B Y u1 u0 q r)
  (c:q*(Y%B)≤B*r+u0):q=(u1*B+u0) / Y:=by
 have e:=Nat.div_add_mod Y B;obtain ⟨i1,i2,i3⟩:=I;have h3:q*Y=q*(Y / B)*B+q*(Y%B):=by
  conv=>lhs;rw [← e]
  rw [Nat.mul_add,Nat.mul_comm B (Y / B),Nat.mul_assoc]
 have h4:u1*B=q*(Y / B)*B+r*B:=by rw [← i1,Nat.add_mul]
 rw [Nat.mul_comm r B] at h4;have h5:0<Y:=by
  rcases Nat.eq_zero_or_pos Y with h|h
  ·subst h;omega
  ·exact h
 symm
 apply Nat.div_eq_of_lt_le
 ·omega
 ·exact i2
theorem a8J {B Y u1 u0 q r:Nat}(hB:0<B)(I:a3J B Y u1 u0 q r)(hq:q≤B)(hr:B≤r) :
  q=(u1*B+u0) / Y:=by
 refine a8K I ?_;have m:=Nat.mod_lt Y hB;have h1:q*(Y%B)≤B*B:=Nat.mul_le_mul hq (by omega);have h2:=Nat.mul_le_mul_left B hr;omega
theorem b6j {B N S y u32 u1 u0 v:Nat}(hS:0<S)(hy:0<y)(hN:N*S=u32*(B*B)+(u1*B+u0))(hv:v=(u32*B+u1)%(y*S)) :
  (u32*B+u1) / (y*S)*B+(v*B+u0) / (y*S)=N / y∧(v*B+u0)%(y*S) / S=N%y:=by
 have hY0:0<y*S:=Nat.mul_pos hy hS;have e1:=Nat.div_add_mod (u32*B+u1) (y*S);have e2:=Nat.div_add_mod (v*B+u0) (y*S);have m2:=Nat.mod_lt (v*B+u0) hY0;rw [← hv] at e1;have dY:N*S / (y*S)=N / y:=Nat.mul_div_mul_right _ _ hS;have mY:N*S%(y*S)=N%y*S:=Nat.mul_mod_mul_right _ _ _;generalize (u32*B+u1) / (y*S)=q1 at *;generalize (v*B+u0) / (y*S)=q0 at *;generalize (v*B+u0)%(y*S)=r at *;generalize y*S=Y at *;have hT:N*S=r+Y*(q1*B+q0):=by
  have c1:u32*(B*B)+u1*B=Y*q1*B+v*B:=by
   rw [← Nat.mul_assoc,← Nat.add_mul,← e1,Nat.add_mul]
  rw [hN,Nat.mul_add,← Nat.mul_assoc Y q1 B];omega
 refine ⟨?_,?_⟩
 ·rw [← dY,hT,Nat.add_mul_div_left _ _ hY0,Nat.div_eq_of_lt m2,Nat.zero_add]
 ·rw [hT,Nat.add_mul_mod_self_left,Nat.mod_eq_of_lt m2] at mY
  rw [mY,Nat.mul_div_cancel _ hS]
theorem c1L {hi lo y s:Nat}(hs:s≤63)(h1:hi<y)(hlo:lo<18446744073709551616) :
  lo / 2^(64 - s)<2^s∧hi*2^s+lo / 2^(64 - s)<y*2^s ∧
   (hi*18446744073709551616+lo)*2^s=(hi*2^s+lo / 2^(64 - s))*18446744073709551616+lo*2^s%18446744073709551616:=by
 have hp:0<2^s:=Nat.two_pow_pos s;have hpp:2^(64 - s)*2^s=18446744073709551616:=by
  rw [← Nat.pow_add,show 64 - s+s=64 by omega]
 have hl:lo*2^s / 18446744073709551616=lo / 2^(64 - s):=by
  rw [← hpp,Nat.mul_div_mul_right _ _ hp]
 have hl2:lo / 2^(64 - s)<2^s:=Nat.div_lt_of_lt_mul (by rw [hpp];exact hlo);refine ⟨hl2,?_,?_⟩
 ·have:(hi+1)*2^s≤y*2^s:=Nat.mul_le_mul_right _ h1
  rw [Nat.add_mul] at this;omega
 ·have e:=Nat.div_add_mod (lo*2^s) 18446744073709551616
  rw [hl] at e;rw [Nat.add_mul,Nat.add_mul,Nat.mul_right_comm];omega
theorem b8T {a b s:Nat}(h:b<2^s):(a*2^s) ||| b=a*2^s+b:=by
 rw [Nat.mul_comm,Nat.two_pow_add_eq_or_of_lt h]
theorem d1o (x:Nat)(hx:x<BB):a0b C0 235 [a0h x] (i64 (64 - (Lib.bitLen x:Int))):=by
 refine ⟨⟨_,_,Tryz.func235,rfl,by kernel_rfl⟩,fun Y w vs hG hnG hX hvs hr=>?_⟩
 have:=a7x hvs hr
 subst this;refine (Tryz.bits_LeadingZeros64 x w (by omega) (by unfold BB at hx;omega)).mono ?_;rintro e w' ⟨rfl,rfl⟩;exact ⟨_,_,rfl,.refl _ _,rfl,.prim _⟩
theorem a9A {x:Nat}(h0:x≠0)(hx:x<BB):∃ s,s≤63∧(64 - (Lib.bitLen x:Int))=(s:Nat)∧9223372036854775808≤x*2^s∧x*2^s<18446744073709551616:=by
 obtain ⟨h1,h2,h3⟩:=Lib.bitLenAux_bounds 64 x hx h0;have h4:=Lib.bitLen_le x 64 (Nat.le_refl _) hx;have h5:Lib.bitLenAux 64 x=Lib.bitLen x:=rfl;rw [h5] at h1 h2 h3;refine ⟨64 - Lib.bitLen x,by omega,by omega,?_,?_⟩
 ·have:=Nat.mul_le_mul_right (2^(64 - Lib.bitLen x)) h2
  rw [← Nat.pow_add,show Lib.bitLen x - 1+(64 - Lib.bitLen x)=63 by omega] at this;exact this
 ·have:=(Nat.mul_lt_mul_right (Nat.two_pow_pos (64 - Lib.bitLen x))).2 h3
  rw [← Nat.pow_add,show Lib.bitLen x+(64 - Lib.bitLen x)=64 by omega] at this;exact this
theorem a1R (n:Nat):IntKind.u64.wrap (n:Int)=((n%18446744073709551616:Nat):Int):=by
 have e1:(2:Int)^IntKind.u64.bits=18446744073709551616:=rfl;unfold IntKind.wrap;simp only [e1];have e3:IntKind.u64.signed=false:=rfl;rw [e3];simp only [Bool.false_and,Bool.false_eq_true,if_false];omega
theorem b9G (x s:Nat)(hs:s≤63):c4C .u64 (x:Int) (s:Int)=((x*2^s%18446744073709551616:Nat):Int):=by
 have hm:min ((s:Int)).toNat (IntKind.bits .u64)=s:=by
  have:IntKind.bits .u64=64:=rfl
  rw [this];omega
 unfold c4C;rw [hm]
 have:(x:Int)*2^s=((x*2^s:Nat):Int):=by simp
 rw [this];exact a1R _
theorem b6e (x s:Nat)(hs:s≤64):c6F .u64 (x:Int) (s:Int)=((x / 2^s:Nat):Int):=by
 have hm:min ((s:Int)).toNat (IntKind.bits .u64)=s:=by
  have:IntKind.bits .u64=64:=rfl
  rw [this];omega
 unfold c6F;rw [hm]
 have:(2:Int)^s=((2^s:Nat):Int):=by simp
 rw [this,Int.fdiv_eq_ediv_of_nonneg _ (Int.natCast_nonneg _)];exact (Int.natCast_ediv _ _).symm
theorem d2s (a:Nat)(ha:a<18446744073709551616):(BitVec.ofInt (IntKind.bits .u64) (a:Int)).toNat=a:=by
 rw [show IntKind.bits .u64=64 from rfl,BitVec.ofInt_natCast,BitVec.toNat_ofNat];exact Nat.mod_eq_of_lt ha
theorem d4k (a b:Nat)(ha:a<18446744073709551616)(hb:b<18446744073709551616):a1J .or .u64 (a:Int) (b:Int)=((a ||| b:Nat):Int):=by
 have h:a ||| b<2^64:=Nat.or_lt_two_pow ha hb;show IntKind.u64.wrap ((BitVec.ofInt (IntKind.bits .u64) (a:Int) ||| BitVec.ofInt (IntKind.bits .u64) (b:Int)).toNat:Int)=_;rw [BitVec.toNat_or,d2s a ha,d2s b hb,a1R];exact congrArg Nat.cast (Nat.mod_eq_of_lt h)
theorem c7J (a:Nat)(ha:a<18446744073709551616):a1J .and .u64 (a:Int) 4294967295=((a%4294967296:Nat):Int):=by
 show IntKind.u64.wrap ((BitVec.ofInt (IntKind.bits .u64) (a:Int) &&& BitVec.ofInt (IntKind.bits .u64) ((4294967295:Nat):Int)).toNat:Int)=_;rw [BitVec.toNat_and,d2s a ha,d2s _ (by decide),a1R,show (4294967295:Nat)=2^32 - 1 from rfl,Nat.and_two_pow_sub_one_eq_mod];exact congrArg Nat.cast (Nat.mod_eq_of_lt (by omega))
theorem c0b (a b:Nat):IntKind.u64.wrap ((a:Int).tdiv (b:Int))=((a / b%18446744073709551616:Nat):Int):=by
 rw [← Int.ofNat_tdiv];exact a1R _
theorem c4F {a b:Nat}(h:b≤a)(ha:a<18446744073709551616):IntKind.u64.wrap ((a:Int) - (b:Int))=((a - b:Nat):Int):=by
 rw [← Int.natCast_sub h,a1R];exact congrArg Nat.cast (Nat.mod_eq_of_lt (by omega))
section
variable {C:Ctx} {B F:Fra} {s:St} {rd:Option Nat} {Q:Exit→Fra→St→Prop}
theorem OkS.seqWn {a b:Code}(S:Nat→St)(h1:OkS C B rd F a s (fun e F1 s1=>a9r (F1=F∧∃ n,Wk s1 (S n)) (fun e=>Q e F1 s1) e))(h2:∀ n,OkS C B rd F b (S n) Q):OkS C B rd F (.seq a b) s Q :=
 OkS.seq (h1.mono fun e F1 s1 h=>by
  cases e with
  | normal =>
   obtain ⟨h0,n,h3⟩:=(show F1=F∧∃ n,Wk s1 (S n) from h)
   rw [h0];exact OkS.weak (S n) h3 (h2 n)
  | ret=>exact h
  | exit j=>exact h
  | goto l=>exact h
  | panic c=>exact h
  | outgrown=>exact h)
end
theorem a6G (z:Int):IntKind.u64.wrap z=z%18446744073709551616:=by
 have e1:(2:Int)^IntKind.u64.bits=18446744073709551616:=rfl;unfold IntKind.wrap;simp only [e1];have e3:IntKind.u64.signed=false:=rfl;rw [e3];simp only [Bool.false_and,Bool.false_eq_true,if_false]
theorem b3B (a b:Nat)(ha:a<4294967296)(hb:b<4294967296):IntKind.u64.wrap (IntKind.u64.wrap ((a:Int)*4294967296)+(b:Int))=((a*4294967296+b:Nat):Int):=by
 rw [a6G,a6G];omega
theorem b2e (a c q Y:Nat)(hY:0<Y)(hY2:Y<18446744073709551616)(hq:q=(a*4294967296+c) / Y) :
  IntKind.u64.wrap (IntKind.u64.wrap (IntKind.u64.wrap ((a:Int)*4294967296)+(c:Int)) - IntKind.u64.wrap ((q:Int)*(Y:Int)))=(((a*4294967296+c)%Y:Nat):Int):=by
 have e:=Nat.div_add_mod (a*4294967296+c) Y;have m:=Nat.mod_lt (a*4294967296+c) hY;rw [← hq,Nat.mul_comm Y q] at e;generalize (a*4294967296+c)%Y=v at *;rw [← Int.natCast_mul q Y];generalize q*Y=Q at *;rw [a6G,a6G,a6G,a6G];omega
structure c7z (hi lo y s Y u u10:Nat):Prop where
 s63:s≤63
 eY:Y=y*2^s
 big:9223372036854775808≤Y
 Yl:Y<18446744073709551616
 uY:u<Y
 u10l:u10<18446744073709551616
 N:(hi*BB+lo)*2^s=u*18446744073709551616+u10
 e8:c4C .u64 (y:Int) (s:Int)=(Y:Int)
 e9:c6F .u64 (Y:Int) 32=((Y / 4294967296:Nat):Int)
 e10:a1J .and .u64 (Y:Int) 4294967295=((Y%4294967296:Nat):Int)
 ew:IntKind.u64.wrap (64 - (s:Int))=((64 - s:Nat):Int)
 e11:a1J .or .u64 (c4C .u64 (hi:Int) (s:Int)) (c6F .u64 (lo:Int) ((64 - s:Nat):Int))=(u:Int)
 e12:c4C .u64 (lo:Int) (s:Int)=(u10:Int)
 e13:c6F .u64 (u10:Int) 32=((u10 / 4294967296:Nat):Int)
 e14:a1J .and .u64 (u10:Int) 4294967295=((u10%4294967296:Nat):Int)
theorem c1D {hi lo y s:Nat}(h1:hi<y)(hlo:lo<BB)(hs:s≤63)(t1:9223372036854775808≤y*2^s)(t2:y*2^s<18446744073709551616) :
  ∃ Y u u10,c7z hi lo y s Y u u10:=by
 obtain ⟨m1,m2,m3⟩:=c1L hs h1 hlo;have hpos:0<2^s:=Nat.two_pow_pos s;have hh:hi*2^s<18446744073709551616:=Nat.lt_of_le_of_lt (Nat.le_add_right _ _) (Nat.lt_trans m2 t2);have hl:lo / 2^(64 - s)<18446744073709551616:=Nat.lt_of_le_of_lt (Nat.div_le_self _ _) hlo;refine ⟨_,_,_,hs,rfl,t1,t2,m2,Nat.mod_lt _ (by decide),m3,?_,b6e _ 32 (by decide),c7J _ t2,?_,?_,b9G lo s hs,b6e _ 32 (by decide),c7J _ (Nat.mod_lt _ (by decide))⟩
 ·rw [b9G y s hs,Nat.mod_eq_of_lt t2]
 ·rw [wU (by omega) (by omega)];omega
 ·rw [b9G hi s hs,Nat.mod_eq_of_lt hh,b6e lo (64 - s) (by omega),d4k _ _ hh hl,b8T m1]
theorem b4l (hi lo y:Nat)(h1:hi<y)(hlo:lo<BB)(hy:y<BB):a0b C0 233 [a0h hi,a0h lo,a0h y] (.tup [a0h ((hi*BB+lo) / y),a0h ((hi*BB+lo)%y)]):=by
 refine a0c.walk w1 c3I rfl fun F=>?_
 have y0:¬ (y:Int)=0:=by omega
 have c1:((y:Int)==0)=false:=by simp;omega
 have c2:decide ((y:Int)≤(hi:Int))=false:=decide_eq_false (by omega);refine sR 0 ?_;refine OkS.seq ?_;refine sZ 100 ?_;refine nwI c1 ?_;refine ifI ?_;refine skI ?_;refine OkS.seq ?_;refine sZ 300 ?_;refine nwI c2 ?_;refine ifI ?_;refine skI ?_;refine OkS.seq ?_;refine sR 500 ?_;refine ifI ?_
 (refine brI (fun h27=>?_) (fun h27=>?_))<;>(try simp only [Bool.not_eq_true',Bool.not_eq_false'] at h27)<;>(try simp only [h27])
 ·have hi0:hi=0:=by simpa using h27
  subst hi0;refine OkS.seq ?_;refine OkS.regD w1 600 [0,1,2,3,4,5,6] [7] (by kernel_rfl) ?_;refine stI ?_;refine rtI ?_;refine a0a ?_ IsPure.out;have l1:lo / y<18446744073709551616:=Nat.lt_of_le_of_lt (Nat.div_le_self _ _) hlo;rw [c0b,Nat.mod_eq_of_lt l1,Nat.zero_mul,Nat.zero_add];rfl
 ·obtain ⟨s,hs,es,t1,t2⟩:=a9A (x:=y) (by omega) hy
  have cl:=d1o y hy;rw [es] at cl;have ws:IntKind.u64.wrap (s:Int)=(s:Int):=wU (by omega) (by omega);obtain ⟨Y,u,u10,L⟩:=c1D h1 hlo hs t1 t2;have ew0:(0:Int)≤IntKind.u64.wrap (64 - (s:Int)):=by rw [L.ew];omega
  refine skI ?_;refine sR 700 ?_;refine cI cl ?_;rw [ws];refine sZ 800 ?_;refine nwI L.e8 ?_;refine sZ 900 ?_;refine nwI L.e9 ?_;refine sZ 1000 ?_;refine nwI L.e10 ?_;refine sZ 1100 ?_;refine gwI (ff2 L.ew L.e11) ?_;refine sZ 1200 ?_;refine nwI L.e12 ?_;refine sZ 1300 ?_;refine nwI L.e13 ?_;refine sZ 1400 ?_;refine nwI L.e14 ?_;have hB:2147483648≤Y / 4294967296:=by have:=L.big;omega
  have hB2:Y / 4294967296<4294967296:=by have:=L.Yl;omega
  have n0:¬ ((Y / 4294967296:Nat):Int)=0:=by omega
  obtain ⟨I0,r0⟩:=a8L (B:=4294967296) (u0:=u10 / 4294967296) (by decide) (by have:=L.big;omega) L.Yl (by decide) L.uY (by have:=L.u10l;omega);have q0l:=I0.q2;have hu64:u<18446744073709551616:=Nat.lt_trans L.uY L.Yl;have hqy:=Nat.div_mul_le_self u (Y / 4294967296);have e15:IntKind.u64.wrap ((u:Int).tdiv ((Y / 4294967296:Nat):Int))=((u / (Y / 4294967296):Nat):Int):=by
   rw [c0b,Nat.mod_eq_of_lt (by omega)]
  have e16:IntKind.u64.wrap ((u:Int) - IntKind.u64.wrap (((u / (Y / 4294967296):Nat):Int)*((Y / 4294967296:Nat):Int)))=((u - u / (Y / 4294967296)*(Y / 4294967296):Nat):Int):=by
   rw [← Int.natCast_mul,a1R,Nat.mod_eq_of_lt (by omega),c4F hqy hu64]
  refine sZ 1500 ?_;refine nwI e15 ?_;refine sZ 1600 ?_;refine nwI e16 ?_;have hu1:u10 / 4294967296<4294967296:=by have:=L.u10l;omega
  have hy0:Y%4294967296<4294967296:=Nat.mod_lt _ (by decide);generalize hu1e:u10 / 4294967296=u1 at *;generalize hu0e:u10%4294967296=u0 at *;refine OkS.seqWn (fun n=>⟨[(2,a0h Y),(6,u64 0),(7,u64 0),(8,a0h s),(9,a0h (Y / 4294967296)),(10,a0h (Y%4294967296)),(11,a0h u),(13,a0h u1),(14,a0h u0),(15,a0h ((u*4294967296+u1) / Y))],[],n⟩) ?_ fun n=>?_
  ·refine OkS.block ?_
   refine OkS.loopF (α:=Nat × Nat × Nat) (fun p=>⟨[(2,a0h Y),(6,u64 0),(7,u64 0),(8,a0h s),(9,a0h (Y / 4294967296)),(10,a0h (Y%4294967296)),(11,a0h u),(13,a0h u1),(14,a0h u0),(15,a0h p.1),(16,a0h p.2.1)],[],p.2.2⟩) (fun p=>p.1)
    (fun p F'=>F'=F∧a3J 4294967296 Y u u1 p.1 p.2.1∧p.2.1<4294967296) (_,_,_)
    ⟨rfl,I0,r0⟩ wkI ?_
   rintro ⟨q,r,m⟩ F' ⟨rfl,I,hr⟩;dsimp only at I hr ⊢;have hq2:=I.q2;refine OkS.seq ?_;obtain ⟨b,hbt⟩:∃ b:Bool,b=decide (4294967296≤q∨4294967296*r+u1<q*(Y%4294967296)):=⟨_,rfl⟩
   refine OkS.seqW ⟨[(2,a0h Y),(6,u64 0),(7,u64 0),(8,a0h s),(9,a0h (Y / 4294967296)),(10,a0h (Y%4294967296)),(11,a0h u),(13,a0h u1),(14,a0h u0),(15,a0h q),(16,a0h r),(78,boo b)],[],m+30⟩ ?_ ?_
   ·rcases Nat.lt_or_ge q 4294967296 with hq|hq
    ·have e1:decide ((q:Int)≥4294967296)=false:=decide_eq_false (by omega)
     have hqy:q*(Y%4294967296)≤4294967295*4294967295:=Nat.mul_le_mul (by omega) (by omega);have k1:IntKind.u64.wrap ((q:Int)*((Y%4294967296:Nat):Int))=((q*(Y%4294967296):Nat):Int):=by
      rw [← Int.natCast_mul,a1R,Nat.mod_eq_of_lt (by omega)]
     have k2:IntKind.u64.wrap (4294967296*(r:Int))=((4294967296*r:Nat):Int):=by rw [wU (by omega) (by omega)];omega
     have k3:IntKind.u64.wrap (((4294967296*r:Nat):Int)+(u1:Int))=((4294967296*r+u1:Nat):Int):=by rw [wU (by omega) (by omega)];omega
     have k4:decide (((q*(Y%4294967296):Nat):Int)>((4294967296*r+u1:Nat):Int))=b:=by
      rw [hbt];exact decide_eq_decide.2 ⟨fun h=>Or.inr (by omega),fun h=>by rcases h with h|h<;>omega⟩
     refine OkS.reg w1 1700 (by kernel_rfl) ?_;refine gwI e1 ?_;refine gwI (ff5 kF k1 k2 k3 k4) ?_;exact And.intro (by trivial) (wkI)
    ·have e1:decide ((q:Int)≥4294967296)=true:=decide_eq_true (by omega)
     have hb:b=true:=by rw [hbt];exact decide_eq_true (Or.inl hq)
     subst hb;refine OkS.reg w1 1700 (by kernel_rfl) ?_;refine gwI e1 ?_;refine gwI kT ?_;exact And.intro (by trivial) (wkI)
   ·cases b
    ·have hc:=of_decide_eq_false hbt.symm
     have hq:=a8K I (by omega);subst hq;refine ifI ?_;refine exI ?_;exact ⟨rfl,_,wkI⟩
    ·have hc:=of_decide_eq_true hbt.symm
     obtain ⟨hq0,I2⟩:=b0e (by decide) L.uY hu1 I hc;have hq3:=I2.q2;have k1:IntKind.u64.wrap ((q:Int) - 1)=((q - 1:Nat):Int):=by rw [wU (by omega) (by omega)];omega
     have k2:IntKind.u64.wrap ((r:Int)+((Y / 4294967296:Nat):Int))=((r+Y / 4294967296:Nat):Int):=by rw [wU (by omega) (by omega)];omega
     refine ifI ?_;refine skI ?_;refine OkS.block ?_;refine sZ 1800 ?_;refine nwI k1 ?_;refine sZ 1900 ?_;refine nwI k2 ?_;refine sR 2000 ?_;refine ifI ?_
     (refine brI (fun h85=>?_) (fun h85=>?_))<;>(try simp only [Bool.not_eq_true',Bool.not_eq_false'] at h85)<;>(try simp only [h85])
     ·have hq:=a8J (by decide) I2 (by omega) (by have:=of_decide_eq_true h85;omega)
      rw [hq];refine exI ?_;exact ⟨rfl,_,wkI⟩
     ·refine skI ?_
      refine ⟨(q - 1,r+Y / 4294967296,_),⟨rfl,I2,by have:=of_decide_eq_false h85;dsimp only;omega⟩,by dsimp only;omega,wkI⟩
  ·have hY0:0<Y:=by have:=L.big;omega
   have e21:=b2e u u1 _ Y hY0 L.Yl rfl;have q1l:(u*4294967296+u1) / Y<4294967296:=by
    refine Nat.div_lt_of_lt_mul ?_
    have:(u+1)*4294967296≤Y*4294967296:=Nat.mul_le_mul_right _ L.uY
    rw [Nat.add_mul] at this;omega
   have hvY:(u*4294967296+u1)%Y<Y:=Nat.mod_lt _ hY0;have tr:=b6j (B:=4294967296) (N:=hi*BB+lo) (S:=2^s) (y:=y) (u32:=u) (u1:=u1) (u0:=u0) (v:=(u*4294967296+u1)%Y) (Nat.two_pow_pos s) (by omega) (by rw [L.N];omega) (by rw [L.eY]);rw [← L.eY] at tr;clear e15 e16 I0 r0 q0l hqy;obtain ⟨q1,hq1e⟩:∃ x,x=(u*4294967296+u1) / Y:=⟨_,rfl⟩
   rw [← hq1e] at e21 q1l tr ⊢;obtain ⟨v,hve⟩:∃ x,x=(u*4294967296+u1)%Y:=⟨_,rfl⟩
   rw [← hve] at e21 hvY tr;have hu0:u0<4294967296:=by rw [← hu0e];exact Nat.mod_lt _ (by decide)
   obtain ⟨J0,s0⟩:=a8L (B:=4294967296) (u0:=u0) (by decide) (by have:=L.big;omega) L.Yl (by decide) hvY hu0;have q0l:=J0.q2;have hv64:v<18446744073709551616:=Nat.lt_trans hvY L.Yl;have hqy:=Nat.div_mul_le_self v (Y / 4294967296);have e22:IntKind.u64.wrap ((v:Int).tdiv ((Y / 4294967296:Nat):Int))=((v / (Y / 4294967296):Nat):Int):=by
    rw [c0b,Nat.mod_eq_of_lt (by omega)]
   have e23:IntKind.u64.wrap ((v:Int) - IntKind.u64.wrap (((v / (Y / 4294967296):Nat):Int)*((Y / 4294967296:Nat):Int)))=((v - v / (Y / 4294967296)*(Y / 4294967296):Nat):Int):=by
    rw [← Int.natCast_mul,a1R,Nat.mod_eq_of_lt (by omega),c4F hqy hv64]
   refine sZ 2100 ?_;refine nwI e21 ?_;refine sZ 2200 ?_;refine nwI e22 ?_;refine sZ 2300 ?_;refine nwI e23 ?_;refine OkS.seqWn (fun n=>⟨[(2,a0h Y),(6,u64 0),(7,u64 0),(8,a0h s),(9,a0h (Y / 4294967296)),(10,a0h (Y%4294967296)),(11,a0h u),(13,a0h u1),(14,a0h u0),(15,a0h q1),(17,a0h v),(18,a0h ((v*4294967296+u0) / Y))],[],n⟩) ?_ fun n=>?_
   ·refine OkS.block ?_
    refine OkS.loopF (α:=Nat × Nat × Nat) (fun p=>⟨[(2,a0h Y),(6,u64 0),(7,u64 0),(8,a0h s),(9,a0h (Y / 4294967296)),(10,a0h (Y%4294967296)),(11,a0h u),(13,a0h u1),(14,a0h u0),(15,a0h q1),(17,a0h v),(18,a0h p.1),(16,a0h p.2.1)],[],p.2.2⟩) (fun p=>p.1)
     (fun p F'=>F'=F∧a3J 4294967296 Y v u0 p.1 p.2.1∧p.2.1<4294967296) (_,_,_)
     ⟨rfl,J0,s0⟩ wkI ?_
    rintro ⟨q,r,m⟩ F' ⟨rfl,I,hr⟩;dsimp only at I hr ⊢;have hq2:=I.q2;refine OkS.seq ?_;obtain ⟨b,hbt⟩:∃ b:Bool,b=decide (4294967296≤q∨4294967296*r+u0<q*(Y%4294967296)):=⟨_,rfl⟩
    refine OkS.seqW ⟨[(2,a0h Y),(6,u64 0),(7,u64 0),(8,a0h s),(9,a0h (Y / 4294967296)),(10,a0h (Y%4294967296)),(11,a0h u),(13,a0h u1),(14,a0h u0),(15,a0h q1),(17,a0h v),(18,a0h q),(16,a0h r),(113,boo b)],[],m+30⟩ ?_ ?_
    ·rcases Nat.lt_or_ge q 4294967296 with hq|hq
     ·have e1:decide ((q:Int)≥4294967296)=false:=decide_eq_false (by omega)
      have hqy:q*(Y%4294967296)≤4294967295*4294967295:=Nat.mul_le_mul (by omega) (by omega);have k1:IntKind.u64.wrap ((q:Int)*((Y%4294967296:Nat):Int))=((q*(Y%4294967296):Nat):Int):=by
       rw [← Int.natCast_mul,a1R,Nat.mod_eq_of_lt (by omega)]
      have k2:IntKind.u64.wrap (4294967296*(r:Int))=((4294967296*r:Nat):Int):=by rw [wU (by omega) (by omega)];omega
      have k3:IntKind.u64.wrap (((4294967296*r:Nat):Int)+(u0:Int))=((4294967296*r+u0:Nat):Int):=by rw [wU (by omega) (by omega)];omega
      have k4:decide (((q*(Y%4294967296):Nat):Int)>((4294967296*r+u0:Nat):Int))=b:=by
       rw [hbt];exact decide_eq_decide.2 ⟨fun h=>Or.inr (by omega),fun h=>by rcases h with h|h<;>omega⟩
      refine OkS.reg w1 2400 (by kernel_rfl) ?_;refine gwI e1 ?_;refine gwI (ff5 kF k1 k2 k3 k4) ?_;exact And.intro (by trivial) (wkI)
     ·have e1:decide ((q:Int)≥4294967296)=true:=decide_eq_true (by omega)
      have hb:b=true:=by rw [hbt];exact decide_eq_true (Or.inl hq)
      subst hb;refine OkS.reg w1 2400 (by kernel_rfl) ?_;refine gwI e1 ?_;refine gwI kT ?_;exact And.intro (by trivial) (wkI)
    ·cases b
     ·have hc:=of_decide_eq_false hbt.symm
      have hq:=a8K I (by omega);subst hq;refine ifI ?_;refine exI ?_;exact ⟨rfl,_,wkI⟩
     ·have hc:=of_decide_eq_true hbt.symm
      obtain ⟨hq0,I2⟩:=b0e (by decide) hvY hu0 I hc;have hq3:=I2.q2;have k1:IntKind.u64.wrap ((q:Int) - 1)=((q - 1:Nat):Int):=by rw [wU (by omega) (by omega)];omega
      have k2:IntKind.u64.wrap ((r:Int)+((Y / 4294967296:Nat):Int))=((r+Y / 4294967296:Nat):Int):=by rw [wU (by omega) (by omega)];omega
      refine ifI ?_;refine skI ?_;refine OkS.block ?_;refine sZ 2500 ?_;refine nwI k1 ?_;refine sZ 2600 ?_;refine nwI k2 ?_;refine sR 2700 ?_;refine ifI ?_
      (refine brI (fun h120=>?_) (fun h120=>?_))<;>(try simp only [Bool.not_eq_true',Bool.not_eq_false'] at h120)<;>(try simp only [h120])
      ·have hq:=a8J (by decide) I2 (by omega) (by have:=of_decide_eq_true h120;omega)
       rw [hq];refine exI ?_;exact ⟨rfl,_,wkI⟩
      ·refine skI ?_
       refine ⟨(q - 1,r+Y / 4294967296,_),⟨rfl,I2,by have:=of_decide_eq_false h120;dsimp only;omega⟩,by dsimp only;omega,wkI⟩
   ·have e28:=b2e v u0 _ Y hY0 L.Yl rfl
    have hm28:(v*4294967296+u0)%Y<Y:=Nat.mod_lt _ hY0;have q2l:(v*4294967296+u0) / Y<4294967296:=by
     refine Nat.div_lt_of_lt_mul ?_
     have:(v+1)*4294967296≤Y*4294967296:=Nat.mul_le_mul_right _ hvY
     rw [Nat.add_mul] at this;omega
    have k1:=b3B q1 ((v*4294967296+u0) / Y) q1l q2l;have k2:=b6e ((v*4294967296+u0)%Y) s (by omega);rw [tr.1] at k1;rw [tr.2] at k2;refine sZ 2800 ?_;refine gwI (ff3 k1 e28 k2) ?_;refine rtI ?_;exact a0a rfl IsPure.out
theorem a8j {n2 v1 P U V q:Nat}(hU:U<(n2+1)*P)(hV:v1*P≤V)(hq:n2+1≤(q+1)*v1):U<(q+1)*V:=by
 have h1:=Nat.mul_le_mul_right P hq;have h2:=Nat.mul_le_mul_left (q+1) hV;rw [Nat.mul_assoc] at h1;omega
theorem a9O {n3 D P U V q:Nat}(hU:U<(n3+1)*P)(hV:D*P≤V)(hq:n3<q*D):U<q*V:=by
 have h1:=Nat.mul_le_mul_right P (show n3+1≤q*D from hq);have h2:=Nat.mul_le_mul_left q hV;rw [Nat.mul_assoc] at h1;omega
theorem b1W {n3 D P U V q B v:Nat}(hU:n3*P≤U)(hV:V=D*P+v)(hv:v<P)(hq:q*D≤n3)(hqB:q≤B)(hD:B≤D):q*V≤U+V:=by
 have h1:=Nat.mul_le_mul_right P hq;rw [Nat.mul_assoc] at h1;have h2:q*v≤B*P:=Nat.mul_le_mul hqB (by omega);have h3:=Nat.mul_le_mul_right P hD;have h4:q*V=q*(D*P)+q*v:=by rw [hV,Nat.mul_add]
 omega
theorem a8Q {c x s:Nat}(hs:s≤63)(hc:c<2^s)(hx:x<18446744073709551616) :
  c ||| (x*2^s%18446744073709551616)=c+x*2^s%18446744073709551616∧c+x*2^s%18446744073709551616<18446744073709551616 ∧
   c+x*2^s%18446744073709551616+18446744073709551616*(x / 2^(64 - s))=c+x*2^s∧x / 2^(64 - s)<2^s:=by
 have hp:0<2^s:=Nat.two_pow_pos s;have hpp:2^(64 - s)*2^s=18446744073709551616:=by
  rw [← Nat.pow_add,show 64 - s+s=64 by omega]
 have hl:x*2^s / 18446744073709551616=x / 2^(64 - s):=by
  rw [← hpp,Nat.mul_div_mul_right _ _ hp]
 have hm:x*2^s%18446744073709551616=x%2^(64 - s)*2^s:=by
  rw [← hpp,Nat.mul_mod_mul_right]
 have hl2:x / 2^(64 - s)<2^s:=Nat.div_lt_of_lt_mul (by rw [hpp];exact hx);have e:=Nat.div_add_mod (x*2^s) 18446744073709551616;rw [hl] at e;have ho:c ||| (x*2^s%18446744073709551616)=c+x*2^s%18446744073709551616:=by
  rw [hm,Nat.or_comm,b8T hc,Nat.add_comm]
 have hlt:c+x*2^s%18446744073709551616<18446744073709551616:=by
  rw [hm]
  have:(x%2^(64 - s)+1)*2^s≤2^(64 - s)*2^s:=Nat.mul_le_mul_right _ (Nat.mod_lt _ (Nat.two_pow_pos _))
  rw [hpp,Nat.add_mul] at this;omega
 exact ⟨ho,hlt,by omega,hl2⟩
structure c0z (w out:List Nat)(s i c:Nat):Prop where
 le:i≤w.length
 len:out.length=w.length+1
 wd:Wd out
 val:a0i out=a0i (w.take i)*2^s
 at_:out[i]? = some c
 cl:c<2^s
 zero:∀ k,i<k→∀ d,out[k]? = some d→d=0
theorem c6X {w out:List Nat}{s i c x:Nat}(hs:s≤63)(hw:Wd w)(hi:i<w.length)(hx:w[i]? = some x)(I:c0z w out s i c) :
  c0z w ((out.set i (c+x*2^s%18446744073709551616)).set (i+1) (x / 2^(64 - s))) s (i+1) (x / 2^(64 - s)):=by
 have hxl:x<BB:=hw x (List.mem_of_getElem? hx);obtain ⟨_,d2,d3,d4⟩:=a8Q hs I.cl hxl;obtain ⟨z,hz⟩:∃ z,out[i+1]? = some z:=⟨out[i+1]'(by have:=I.len;omega),List.getElem?_eq_getElem _⟩
 have hz0:=I.zero _ (Nat.lt_succ_self i) z hz;subst hz0;have s1:=a2O (d:=c+x*2^s%18446744073709551616) I.at_;have hz1:(out.set i (c+x*2^s%18446744073709551616))[i+1]? = some 0:=by rw [List.getElem?_set_ne (by omega)];exact hz
 have s2:=a2O (d:=x / 2^(64 - s)) hz1;have hbx:a0i (w.take (i+1))=a0i (w.take i)+BB^i*x:=by rw [a0O hx,a1l (i:=i) (by rw [List.length_take];omega)]
 have hhi:x / 2^(64 - s)<BB:=Nat.lt_of_le_of_lt (Nat.div_le_self _ _) hxl;refine ⟨by omega,by rw [List.length_set,List.length_set];exact I.len,(I.wd.set d2).set hhi,?_,?_,d4,fun k hk d hd=>?_⟩
 ·have e1:BB^(i+1)*(x / 2^(64 - s))=BB^i*(18446744073709551616*(x / 2^(64 - s))):=by rw [Nat.pow_succ,Nat.mul_assoc]
  have e2:BB^i*(c+x*2^s%18446744073709551616+18446744073709551616*(x / 2^(64 - s)))=BB^i*(c+x*2^s):=by rw [d3]
  rw [Nat.mul_add,Nat.mul_add _ c (x*2^s)] at e2;rw [hbx,Nat.add_mul,← I.val,Nat.mul_assoc];omega
 ·rw [List.getElem?_set_self (by rw [List.length_set];have:=I.len;omega)]
 ·rw [List.getElem?_set_ne (by omega),List.getElem?_set_ne (by omega)] at hd
  exact I.zero k (by omega) d hd
def Up (w:List Nat)(s:Nat)(H:Hp)(n:Nat)(d:D)(H':Hp)(n':Nat):Prop :=
 ∃ (out:List Nat) (g:Nat),out.length=w.length+1∧Wd out∧a0i out=a0i w*2^s∧d=.osl 103 g 1 0 (w.length+1)∧H'=⟨103,g,260,1,out.map a0h⟩::H∧n≤n'
theorem b0h (w:List Nat)(s:Nat)(hs:s≤63)(hw:Wd w)(hl:w.length<4000000)(H:Hp)(n:Nat):a0m C0 236 [wL w,i64 s] H n (Up w s H n):=by
 refine a0m.walk w1 c3K rfl fun F=>?_
 unfold wL;have ew:(((w.map a0h).length:Nat):Int)=(w.length:Int):=by rw [List.length_map]
 have wl:IntKind.i64.wrap ((w.length:Int)+1)=((w.length+1:Nat):Int):=by rw [wI (by omega) (by omega)];omega
 have r3:List.replicate (w.length+1) (ofV (.int .u64 0))=(List.replicate (w.length+1) 0).map a0h:=by rw [List.map_replicate];rfl
 refine sR 0 ?_;refine sZ 100 ?_;refine nwI (ff3 ew wl kN) ?_;refine OkS.seq ?_;refine sZ 200 ?_;refine nwI ew ?_;obtain ⟨g,hg⟩:∃ g,g=n+1+1+1+1:=⟨_,rfl⟩
 rw [← hg];have I0:c0z w (List.replicate (w.length+1) 0) s 0 0:=⟨Nat.zero_le _,by simp,a4W _,by simp [a0i,a4V],by simp,Nat.two_pow_pos s,fun k _ d hd=>List.eq_of_mem_replicate (List.mem_of_getElem? hd)⟩
 refine OkS.weak ⟨[(0,.sl false 1 (w.map a0h)),(1,i64 s),(4,a2d),(5,.osl 103 g 1 0 (w.length+1)),(12,.sl false 1 (w.map a0h)),(13,i64 w.length),(14,i64 0)],⟨103,g,260,1,(List.replicate (w.length+1) 0).map a0h⟩::H,n+30⟩ (by rw [← r3];exact wkI) ?_;refine OkS.block ?_;refine OkS.loop (α:=Nat × Nat × List Nat × Nat) (fun p=>⟨[(0,.sl false 1 (w.map a0h)),(1,i64 s),(4,a2d),(5,.osl 103 g 1 0 (w.length+1)),(12,.sl false 1 (w.map a0h)),(13,i64 w.length),(14,i64 p.1)],⟨103,g,260,1,p.2.2.1.map a0h⟩::H,p.2.2.2⟩) (fun p=>w.length - p.1)
  (fun p=>c0z w p.2.2.1 s p.1 p.2.1∧n≤p.2.2.2) (0,0,List.replicate (w.length+1) 0,n+30)
  ⟨I0,Nat.le_add_right _ _⟩ wkI ?_
 rintro ⟨i,c,o,m⟩ F ⟨I,hm⟩;dsimp only at I hm ⊢;refine sR 300 ?_;refine OkS.seq ?_;refine ifI ?_
 (refine brI (fun h15=>?_) (fun h15=>?_))<;>(try simp only [Bool.not_eq_true',Bool.not_eq_false'] at h15)<;>(try simp only [h15])
 ·have hi:i<w.length:=by simpa using h15
  obtain ⟨x,hx⟩:∃ x,w[i]? = some x:=⟨w[i],List.getElem?_eq_getElem hi⟩
  have hx':=a1i hx;have hc':=a1i I.at_;have hxl:x<BB:=hw x (List.mem_of_getElem? hx);obtain ⟨d1,d2,d3,d4⟩:=a8Q hs I.cl hxl;have J:=c6X hs hw hi hx I;have e5:a1J .or .u64 (c:Int) (c4C .u64 (x:Int) (s:Int))=((c+x*2^s%18446744073709551616:Nat):Int):=by
   rw [b9G x s hs,d4k _ _ (by omega) (Nat.mod_lt _ (by decide)),d1]
  refine skI ?_;refine OkS.seq ?_;refine OkS.block ?_;refine sR 400 ?_;refine ixI kT hx' ?_;refine stI ?_;refine OkS.seq ?_;refine OkS.regD w1 500 [0,1,2,3,4,5,6] [7,8,9] (by kernel_rfl) ?_;refine gwI (ff4 e5 kN Nat.zero_add hc') ?_;refine a0r rfl rfl ?_;refine a6X rfl rfl rfl hc' ?_;refine gwI @map_set ?_;refine OkS.seq ?_;obtain ⟨z,hz⟩:∃ z,o[i+1]? = some z:=⟨o[i+1]'(by have:=I.len;omega),List.getElem?_eq_getElem _⟩
  have hz0:=I.zero _ (Nat.lt_succ_self i) z hz;subst hz0;have hz1:(o.set i (c+x*2^s%18446744073709551616))[i+1]? = some 0:=by rw [List.getElem?_set_ne (by omega)];exact hz
  have hz':=a1i hz1;have wi:IntKind.i64.wrap ((i:Int)+1)=((i+1:Nat):Int):=wI (by omega) (by omega);rcases Nat.eq_zero_or_pos s with hs0|hs0
  ·have e1:decide ((s:Int)>0)=false:=decide_eq_false (by omega)
   have hx0:x / 2^(64 - s)=0:=by rw [hs0];exact Nat.div_eq_of_lt hxl
   have hset:(o.set i (c+x*2^s%18446744073709551616)).set (i+1) 0=o.set i (c+x*2^s%18446744073709551616):=by
    refine List.ext_getElem? fun k=>?_
    rcases Nat.decEq (i+1) k with hk|hk
    ·rw [List.getElem?_set_ne hk]
    ·subst hk
     rw [List.getElem?_set_self (by have:=(List.getElem?_eq_some_iff.1 hz1).1;exact this),hz1]
   rw [hx0,hset] at J;refine OkS.reg w1 600 (by kernel_rfl) ?_;refine nwI e1 ?_;refine ifI ?_;refine skI ?_;refine OkS.reg w1 800 (by kernel_rfl) ?_;refine nwI wi ?_;refine ⟨(i+1,0,o.set i (c+x*2^s%18446744073709551616),m+200),⟨J,by dsimp only;omega⟩,by dsimp only;omega,wkI⟩
  ·have e1:decide ((s:Int)>0)=true:=decide_eq_true (by omega)
   have w64:IntKind.i64.wrap (64 - (s:Int))=((64 - s:Nat):Int):=by rw [wI (by omega) (by omega)];omega
   have w640:(0:Int)≤IntKind.i64.wrap (64 - (s:Int)):=by rw [w64];omega
   have e36:=b6e x (64 - s) (by omega);refine OkS.reg w1 600 (by kernel_rfl) ?_;refine nwI e1 ?_;refine ifI ?_;refine OkS.reg w1 700 (by kernel_rfl) ?_;refine gwI (ff6 wi w64 e36 kN Nat.zero_add hz') ?_
   try rw [map_set]
   refine OkS.reg w1 800 (by kernel_rfl) ?_;refine nwI wi ?_;refine ⟨(i+1,x / 2^(64 - s),(o.set i (c+x*2^s%18446744073709551616)).set (i+1) (x / 2^(64 - s)),m+200),⟨J,by dsimp only;omega⟩,by dsimp only;omega,wkI⟩
 ·have hi:i=w.length:=by
   have:¬ i<w.length:=by simpa using h15
   have:=I.le
   omega
  subst hi;have hv:=I.val;rw [List.take_of_length_le (Nat.le_refl _)] at hv;refine exI ?_;refine sR 900 ?_;refine rtI ?_;exact ⟨o,g,I.len,I.wd,hv,rfl,rfl,by omega⟩
section
variable {C:Ctx} {B F:Fra} {s:St} {rd:Option Nat} {Q:Exit→Fra→St→Prop}
theorem OkS.seqX {a b:Code}{α:Type}(S:α→St)(J:α→Prop)(h1:OkS C B rd F a s (fun e F1 s1=>a9r (F1=F∧∃ x,J x∧Wk s1 (S x)) (fun e=>Q e F1 s1) e))(h2:∀ x,J x→OkS C B rd F b (S x) Q):OkS C B rd F (.seq a b) s Q :=
 OkS.seq (h1.mono fun e F1 s1 h=>by
  cases e with
  | normal =>
   obtain ⟨h0,x,hx,h3⟩:=(show F1=F∧∃ x,J x∧Wk s1 (S x) from h)
   rw [h0];exact OkS.weak (S x) h3 (h2 x hx)
  | ret=>exact h
  | exit j=>exact h
  | goto l=>exact h
  | panic c=>exact h
  | outgrown=>exact h)
end
theorem b5R {q v c:Nat}(hq:q<BB)(hv:v<BB)(hc:c<BB) :
  (q*v%BB+c)%BB+BB*(q*v / BB+(q*v%BB+c) / BB)=q*v+c∧q*v / BB+(q*v%BB+c) / BB<BB:=by
 have hqv:q*v≤(18446744073709551616 - 1)*(18446744073709551616 - 1):=Nat.mul_le_mul (by unfold BB at hq;omega) (by unfold BB at hv;omega);have hk:(18446744073709551616 - 1)*(18446744073709551616 - 1)=340282366920938463426481119284349108225:=by decide
 rw [hk] at hqv;generalize q*v=p at *;have e1:=Nat.mod_add_div p BB;have e2:=Nat.mod_add_div (p%BB+c) BB;have l1:=Nat.mod_lt p (show BB>0 by decide);have l2:=Nat.mod_lt (p%BB+c) (show BB>0 by decide);unfold BB at *;generalize p / 18446744073709551616=A at *;generalize p%18446744073709551616=D at *;generalize (D+c) / 18446744073709551616=E at *;generalize (D+c)%18446744073709551616=G at *;omega
theorem a2Z {l:List Nat}{i:Nat}(h:i<l.length):∃ a,l[i]? = some a:=⟨l[i],List.getElem?_eq_getElem h⟩
theorem d4N {l:List Nat}{k a:Nat}(hl:l.length=k+1)(ha:l[k]? = some a):a0i l=a0i (l.take k)+BB^k*a:=by
 rw [a4G ha,List.drop_of_length_le (by omega)];simp [a0i]
theorem d6m {l:List Nat}{k a b:Nat}(hl:l.length=k+2)(ha:l[k]? = some a)(hb:l[k+1]? = some b):a0i l=a0i (l.take k)+BB^k*(a+BB*b):=by
 rw [a4G ha]
 have:l.drop (k+1)=[b]:=by
  rw [List.drop_eq_getElem_cons (by omega),List.drop_of_length_le (by omega)]
  congr 1
  exact (List.getElem?_eq_some_iff.1 hb).2
 rw [this];simp [a0i]
theorem d6n {l:List Nat}{k a b c:Nat}(hl:l.length=k+3)(ha:l[k]? = some a)(hb:l[k+1]? = some b)(hc:l[k+2]? = some c):a0i l=a0i (l.take k)+BB^k*(a+BB*(b+BB*c)):=by
 rw [a4G ha];have h1:=d4N (l:=l.drop (k+1)) (k:=1) (a:=c) (by rw [List.length_drop];omega) (by rw [List.getElem?_drop,Nat.add_assoc];exact hc);have h2:(l.drop (k+1)).take 1=[b]:=by
  rw [List.drop_eq_getElem_cons (by omega)];simp only [List.take_succ_cons,List.take_zero]
  congr 1
  exact (List.getElem?_eq_some_iff.1 hb).2
 rw [h1,h2];simp [a0i]
structure a9w (P v:List Nat)(m p0 p1 p2 v2 v1:Nat):Prop where
 lP:P.length=m+3
 lv:v.length=m+2
 wP:Wd P
 wv:Wd v
 h0:P[m]? = some p0
 h1:P[m+1]? = some p1
 h2:P[m+2]? = some p2
 g2:v[m]? = some v2
 g1:v[m+1]? = some v1
 top:0<v1
 less:a0i P<a0i v*BB
namespace a9w
variable {P v:List Nat} {m p0 p1 p2 v2 v1:Nat} (S:a9w P v m p0 p1 p2 v2 v1)
include S
theorem valP:a0i P=a0i (P.take m)+BB^m*(p0+BB*(p1+BB*p2)):=d6n S.lP S.h0 S.h1 S.h2
theorem valv:a0i v=a0i (v.take m)+BB^m*(v2+BB*v1):=d6m S.lv S.g2 S.g1
theorem lowP:a0i (P.take m)<BB^m:=by
 have:=a2H (S.wP.take m)
 rwa [List.length_take,Nat.min_eq_left (by have:=S.lP;omega)] at this
theorem lowv:a0i (v.take m)<BB^m:=by
 have:=a2H (S.wv.take m)
 rwa [List.length_take,Nat.min_eq_left (by have:=S.lv;omega)] at this
theorem p0l:p0<BB:=S.wP _ (List.mem_of_getElem? S.h0)
theorem p1l:p1<BB:=S.wP _ (List.mem_of_getElem? S.h1)
theorem p2l:p2<BB:=S.wP _ (List.mem_of_getElem? S.h2)
theorem v1l:v1<BB:=S.wv _ (List.mem_of_getElem? S.g1)
theorem v2l:v2<BB:=S.wv _ (List.mem_of_getElem? S.g2)
theorem below3:a0i P<(p0+BB*(p1+BB*p2)+1)*BB^m:=by
 rw [S.valP,Nat.add_mul,Nat.one_mul,Nat.mul_comm (BB^m)]
 have:=S.lowP
 omega
theorem below2:a0i P<(p1+BB*p2+1)*BB^(m+1):=by
 have h:=S.below3;have h1:=S.p0l;generalize p1+BB*p2=t at *;have h2:(p0+BB*t+1)*BB^m≤(BB*(t+1))*BB^m:=Nat.mul_le_mul_right _ (by rw [Nat.mul_add BB t 1];omega);have h3:(t+1)*BB^(m+1)=(BB*(t+1))*BB^m:=by rw [Nat.pow_succ,Nat.mul_comm (BB^m) BB,← Nat.mul_assoc,Nat.mul_comm (t+1) BB]
 omega
theorem abovev:v1*BB^(m+1)≤a0i v:=by
 rw [S.valv,Nat.pow_succ,Nat.mul_add]
 have:v1*(BB^m*BB)=BB^m*(BB*v1):=by rw [Nat.mul_comm v1,Nat.mul_assoc]
 omega
theorem abovev2:(v2+BB*v1)*BB^m≤a0i v:=by
 rw [S.valv,Nat.mul_comm];omega
theorem pos:0<a0i v:=Nat.lt_of_lt_of_le (Nat.mul_pos S.top (Nat.pow_pos (by decide))) S.abovev
theorem p2v1:p2≤v1:=by
 rcases Nat.lt_or_ge v1 p2 with h|h
 ·exfalso
  have e1:BB^(m+2)*p2≤a0i P:=by
   rw [S.valP,Nat.mul_add,Nat.mul_add,Nat.mul_add]
   have:BB^(m+2)*p2=BB^m*(BB*(BB*p2)):=by rw [Nat.pow_succ,Nat.pow_succ,Nat.mul_assoc,Nat.mul_assoc]
   omega
  have e2:a0i v<BB^(m+1)*(v1+1):=by
   have h1:=S.lowv;have h2:=S.v2l;have e3:BB^(m+1)*(v1+1)=BB^m*(BB*v1+BB):=by rw [Nat.pow_succ,Nat.mul_assoc,Nat.mul_add,Nat.mul_one]
   have e4:BB^m*(v2+BB*v1+1)≤BB^m*(BB*v1+BB):=Nat.mul_le_mul_left _ (by omega);rw [Nat.mul_add _ _ 1,Nat.mul_one] at e4;rw [S.valv,e3];omega
  have e5:BB^(m+1)*(v1+1)*BB=BB^(m+2)*(v1+1):=by rw [Nat.mul_right_comm,← Nat.pow_succ]
  have e6:BB^(m+2)*(v1+1)≤BB^(m+2)*p2:=Nat.mul_le_mul_left _ h;have e7:(a0i v)*BB≤BB^(m+1)*(v1+1)*BB:=Nat.mul_le_mul_right _ (Nat.le_of_lt e2)
  have:=S.less
  omega
 ·exact h
end a9w
theorem b8k {B q v2 r c p0:Nat}(hq:q<B)(hv:v2<B)(h:0<c∨q*v2≤r*B+p0):q*v2≤(r+B*c)*B+p0:=by
 rcases h with h|h
 ·have h2:q*v2≤B*B:=Nat.mul_le_mul (by omega) (by omega)
  have h4:B*1≤B*c:=Nat.mul_le_mul_left _ h;have h3:B*B≤(r+B*c)*B:=Nat.mul_le_mul_right _ (by omega);omega
 ·have h3:r*B≤(r+B*c)*B:=Nat.mul_le_mul_right _ (by omega)
  omega
structure b2S (U V n2 v1 q r c:Nat):Prop where
 eq:q*v1+(r+BB*c)=n2
 up:U<(q+1)*V
 qB:q<BB
 rB:r<BB
 c1:c≤1
section
variable {P v:List Nat} {m p0 p1 p2 v2 v1:Nat} (S:a9w P v m p0 p1 p2 v2 v1)
include S
theorem b8l (h:v1≤p2):b2S (a0i P) (a0i v) (p1+BB*p2) v1 18446744073709551615 ((p1+v1+0)%BB) ((p1+v1+0) / BB):=by
 have h1:p2=v1:=Nat.le_antisymm S.p2v1 h;have h2:=S.less;have h3:=S.p1l;have h4:=S.v1l;have e:=Nat.mod_add_div (p1+v1+0) BB;refine ⟨?_,?_,by decide,Nat.mod_lt _ (by decide),?_⟩
 ·rw [e,h1]
  show 18446744073709551615*v1+(p1+v1+0)=p1+18446744073709551616*v1;omega
 ·rw [Nat.mul_comm];exact h2
 ·have:p1+v1+0<2*BB:=by omega
  exact Nat.le_of_lt_succ (Nat.div_lt_of_lt_mul (by rw [Nat.mul_comm];exact this))
theorem b3v (h:p2<v1):b2S (a0i P) (a0i v) (p1+BB*p2) v1 ((p2*BB+p1) / v1) ((p2*BB+p1)%v1) 0:=by
 have c0:p2*BB+p1=p1+BB*p2:=by rw [Nat.mul_comm,Nat.add_comm]
 rw [c0];have e:=Nat.div_add_mod (p1+BB*p2) v1;have l:=Nat.mod_lt (p1+BB*p2) S.top;have h3:=S.p1l;have h4:=S.v1l;have c1:=Nat.mul_comm v1 ((p1+BB*p2) / v1);refine ⟨by omega,a8j S.below2 S.abovev ?_,?_,by omega,by decide⟩
 ·rw [Nat.add_mul];omega
 ·refine Nat.div_lt_of_lt_mul ?_
  have:BB*(p2+1)≤BB*v1:=Nat.mul_le_mul_left _ h
  rw [Nat.mul_add] at this;rw [Nat.mul_comm v1];omega
theorem b5M {q r:Nat}(G:b2S (a0i P) (a0i v) (p1+BB*p2) v1 q r 0)(h:r*BB+p0<q*v2) :
  0<q∧b2S (a0i P) (a0i v) (p1+BB*p2) v1 (q - 1) ((r+v1+0)%BB) ((r+v1+0) / BB):=by
 obtain ⟨e,u,b,rb,_⟩:=G;rcases Nat.eq_zero_or_pos q with h0|h0
 ·subst h0;omega
 obtain ⟨k,rfl⟩:∃ k,q=k+1:=⟨q - 1,by omega⟩
 have e1:=Nat.mod_add_div (r+v1+0) BB;have h4:=S.v1l;have e2:(k+1)*(v2+BB*v1)=(k+1)*v2+BB*((k+1)*v1):=by rw [Nat.mul_add,Nat.mul_left_comm]
 have hn3:p0+BB*(p1+BB*p2)<(k+1)*(v2+BB*v1):=by
  rw [e2,← e,Nat.mul_add BB,Nat.mul_zero,Nat.add_zero r,Nat.mul_comm BB r];omega
 refine ⟨by omega,⟨?_,?_,by omega,Nat.mod_lt _ (by decide),?_⟩⟩
 ·rw [Nat.add_sub_cancel,e1,← e,Nat.add_mul];omega
 ·rw [Nat.add_sub_cancel];exact a9O S.below3 S.abovev2 hn3
 ·have:r+v1+0<2*BB:=by omega
  exact Nat.le_of_lt_succ (Nat.div_lt_of_lt_mul (by rw [Nat.mul_comm];exact this))
theorem a9N {q r c:Nat}(G:b2S (a0i P) (a0i v) (p1+BB*p2) v1 q r c)(h:0<c∨q*v2≤r*BB+p0):q*a0i v≤a0i P+a0i v:=by
 obtain ⟨e,u,b,rb,c1⟩:=G;have h5:=S.v2l;have hq:q*v2≤(r+BB*c)*BB+p0:=b8k b h5 h;have e2:q*(v2+BB*v1)=q*v2+BB*(q*v1):=by rw [Nat.mul_add,Nat.mul_left_comm]
 refine b1W (n3:=p0+BB*(p1+BB*p2)) (D:=v2+BB*v1) (P:=BB^m) (B:=BB) (v:=a0i (v.take m)) ?_ ?_ S.lowv ?_ (by omega) ?_
 ·rw [S.valP,Nat.mul_comm];omega
 ·rw [S.valv,Nat.mul_comm];omega
 ·rw [e2,← e,Nat.mul_add BB]
  have:BB*(r+BB*c)=(r+BB*c)*BB:=Nat.mul_comm _ _
  omega
 ·have:=S.top
  have h1:=Nat.mul_le_mul_left BB (show 1≤v1 from this);omega
end
theorem b5N {x r p0:Nat}(hp:p0<BB):(x / BB<r∨x / BB=r∧x%BB≤p0)↔x≤r*BB+p0:=by
 have e:=Nat.div_add_mod x BB;have l:=Nat.mod_lt x (show 0<BB by decide);generalize x / BB=h at *;generalize x%BB=d at *;unfold BB at *;omega
theorem a8V {U V q N:Nat}(h:N+q*V=U+0)(hu:U<(q+1)*V):U / V=q∧U%V=N:=by
 have h1:U=N+V*q:=by rw [Nat.mul_comm];omega
 have h2:N<V:=by rw [Nat.add_mul] at hu;omega
 subst h1;exact ⟨by rw [Nat.add_mul_div_left _ _ (by omega),Nat.div_eq_of_lt h2,Nat.zero_add],by rw [Nat.add_mul_mod_self_left,Nat.mod_eq_of_lt h2]⟩
theorem b2H {U V q N N3 T c:Nat}(h:N+q*V=U+T)(hN:N<T)(hu:q*V≤U+V)(h3:N3+T*c=N+V)(hc:c≤1)(h3l:N3<T):0<q∧U / V=q - 1∧U%V=N3:=by
 rcases Nat.eq_zero_or_pos q with h0|h0
 ·subst h0;omega
 obtain ⟨k,rfl⟩:∃ k,q=k+1:=⟨q - 1,by omega⟩
 rw [Nat.add_mul,Nat.one_mul] at h hu;have hc1:c=1:=by
  rcases Nat.eq_zero_or_pos c with h4|h4
  ·subst h4;omega
  ·omega
 subst hc1;have h5:N3+k*V=U+0:=by omega
 have h6:U<(k+1)*V:=by rw [Nat.add_mul];omega
 obtain ⟨a,b⟩:=a8V h5 h6;exact ⟨by omega,by rw [a];omega,b⟩
theorem b1g {A P v:List Nat}{q i z x d b c b' c' lo:Nat}(hz:A[i]? = some z)(hx:v[i]? = some x)(hI:a0i A+q*a0i (v.take i)=a0i P+BB^i*(c+b))
  (h1:lo+BB*c'=q*x+c) (h2:d+lo+b=z+BB*b'):a0i (A.set i d)+q*a0i (v.take (i+1))=a0i P+BB^(i+1)*(c'+b'):=by
 have hs:=a2O (d:=d) hz;have hi:i<v.length:=(List.getElem?_eq_some_iff.1 hx).1;rw [a0O hx,a1l (i:=i) (by rw [List.length_take];omega),Nat.mul_add,Nat.mul_left_comm q,Nat.pow_succ,Nat.mul_assoc];have e:BB^i*(d+q*x+(c+b))=BB^i*(z+BB*(c'+b')):=by congr 1;rw [Nat.mul_add BB];omega
 rw [Nat.mul_add,Nat.mul_add,Nat.mul_add (BB^i) z] at e;omega
theorem b1h {A P:List Nat}{i z d X b c b':Nat}(hz:A[i]? = some z)(hI:a0i A+X=a0i P+BB^i*(c+b))(h2:d+c+b=z+BB*b'):a0i (A.set i d)+X=a0i P+BB^(i+1)*b':=by
 have hs:=a2O (d:=d) hz;rw [Nat.pow_succ,Nat.mul_assoc];have e:BB^i*(d+(c+b))=BB^i*(z+BB*b'):=by congr 1;omega
 rw [Nat.mul_add,Nat.mul_add (BB^i) z] at e;omega
theorem a9o {A P v:List Nat}{i z x c:Nat}(hz:A[i]? = some z)(hx:v[i]? = some x)(hI:a0i A+BB^i*c=a0i P+a0i (v.take i)) :
  a0i (A.set i ((z+x+c)%BB))+BB^(i+1)*((z+x+c) / BB)=a0i P+a0i (v.take (i+1)):=by
 have hs:=a2O (d:=(z+x+c)%BB) hz;have hi:i<v.length:=(List.getElem?_eq_some_iff.1 hx).1;rw [a0O hx,a1l (i:=i) (by rw [List.length_take];omega),Nat.pow_succ,Nat.mul_assoc];have e:BB^i*((z+x+c)%BB+BB*((z+x+c) / BB))=BB^i*(z+x+c):=by rw [Nat.mod_add_div]
 rw [Nat.mul_add,Nat.mul_add,Nat.mul_add (BB^i) z] at e;omega
theorem b0u {A:List Nat}{i z c X:Nat}(hz:A[i]? = some z)(hI:a0i A+BB^i*c=X) :
  a0i (A.set i ((z+c)%BB))+BB^(i+1)*((z+c) / BB)=X:=by
 have hs:=a2O (d:=(z+c)%BB) hz;rw [Nat.pow_succ,Nat.mul_assoc];have e:BB^i*((z+c)%BB+BB*((z+c) / BB))=BB^i*(z+c):=by rw [Nat.mod_add_div]
 rw [Nat.mul_add,Nat.mul_add (BB^i) z] at e;omega
theorem a7O {A P Z:List Nat}{i z:Nat}(h:P[i]? = some z):((A++(P++Z)).map a0h)[A.length+i]? = some (a0h z):=by
 have hi:i<P.length:=(List.getElem?_eq_some_iff.1 h).1;refine a1i ?_;rw [List.getElem?_append_right (by omega),Nat.add_sub_cancel_left,List.getElem?_append_left hi];exact h
theorem b1a {A P Z:List Nat}{i d:Nat}(hi:i<P.length):((A++(P++Z)).map a0h).set (A.length+i) (a0h d)=(A++(P.set i d++Z)).map a0h:=by
 rw [map_set,List.set_append_right _ _ (by omega),Nat.add_sub_cancel_left,List.set_append_left _ _ hi]
set_option maxHeartbeats 2000000
def c4S (A P Z v:List Nat)(gq Tq gu:Nat)(qs:List D)(d:D)(H':Hp)(_:Nat):Prop :=
 ∃ P':List Nat,P'.length=P.length∧Wd P'∧a0i P'=a0i P%a0i v∧d=a0h (a0i P / a0i v)∧H'=[⟨1505,gq,Tq,1,qs⟩,⟨103,gu,260,1,(A++(P'++Z)).map a0h⟩]
theorem c6L (A P Z v:List Nat)(m p0 p1 p2 v2 v1:Nat)(S:a9w P v m p0 p1 p2 v2 v1)(hm:A.length+m<4000000)(gq Tq gu:Nat)(qs:List D)(n:Nat) :
  a0m C0 237 [.osl 103 gu 1 A.length (m+3),wL v] [⟨1505,gq,Tq,1,qs⟩,⟨103,gu,260,1,(A++(P++Z)).map a0h⟩] n (c4S A P Z v gq Tq gu qs):=by
 refine a0m.walk w1 c3L rfl fun F=>?_
 unfold wL;have hPl:=S.lP;have hvl:=S.lv;have ev:(((v.map a0h).length:Nat):Int)=((m+2:Nat):Int):=by rw [List.length_map,hvl]
 have k1:IntKind.i64.wrap (((m+2:Nat):Int) - 1)=((m+1:Nat):Int):=by rw [wI (by omega) (by omega)];omega
 have k2:IntKind.i64.wrap (((m+2:Nat):Int) - 2)=(m:Int):=by rw [wI (by omega) (by omega)];omega
 have hp0:=a7O (A:=A) (Z:=Z) S.h0;have hp1:=a7O (A:=A) (Z:=Z) S.h1;have hp2:=a7O (A:=A) (Z:=Z) S.h2;have hv1:=a1i S.g1;have hv2:=a1i S.g2;have l0:=S.p0l;have l1:=S.p1l;have l2:=S.p2l;have lv1:=S.v1l;have lv2:=S.v2l;refine sR 0 ?_;refine sZ 100 ?_;refine nwI ev ?_;refine sR 200 ?_;refine sR 300 ?_;refine OkS.seqX (α:=Nat × Nat × Nat × Nat) (fun p=>⟨[(0,.osl 103 gu 1 A.length (m+3)),(1,.sl false 1 (v.map a0h)),(5,i64 ((m+2:Nat):Int)),(6,a0h p.1),(7,a0h p.2.1),(8,a0h p.2.2.1)],[⟨1505,gq,Tq,1,qs⟩,⟨103,gu,260,1,(A++(P++Z)).map a0h⟩],p.2.2.2⟩)
  (fun p=>b2S (a0i P) (a0i v) (p1+BB*p2) v1 p.1 p.2.1 p.2.2.1) ?_ ?_
 ·refine OkS.seq ?_
  refine OkS.regD w1 400 [0,1,2,3,4,5,6,7,8] [9] (by kernel_rfl) ?_;refine gwI (ff3 kN k1 hp2) ?_;refine ixI kT hv1 ?_;refine gwI (ff3 kN k1 hp2) ?_;rcases Nat.lt_or_ge p2 v1 with h|h
  ·have e1:decide ((p2:Int)≥(v1:Int))=false:=decide_eq_false (by omega)
   have G:=b3v S h;rw [e1];refine ifI ?_;refine OkS.regD w1 700 [0,1,2,3,4,5,6,7,8,9,10,11,12,13,14,15,16,17,18] [19] (by kernel_rfl) ?_;refine gwI (ff4 kN k1 hp2 hp1) ?_;refine ixI kT hv1 ?_;refine gwI (ff4 kN k1 hp2 hp1) ?_;refine a0n.same _ (b4l p2 p1 v1 h l1 lv1) inferInstance ?_;refine stI ?_;exact ⟨trivial,⟨(p2*BB+p1) / v1,(p2*BB+p1)%v1,0,_⟩,G,wkI⟩
  ·have e1:decide ((p2:Int)≥(v1:Int))=true:=decide_eq_true (by omega)
   have G:=b8l S h;rw [e1];refine ifI ?_;refine sR 500 ?_;refine OkS.regD w1 600 [0,1,2,3,4,5,6,7,8,9,10,11,12,13,14] [15] (by kernel_rfl) ?_;refine gwI (ff4 kN k1 hp2 hp1) ?_;refine ixI kT hv1 ?_;refine gwI (ff4 kN k1 hp2 hp1) ?_;exact ⟨trivial,⟨18446744073709551615,(p1+v1+0)%BB,(p1+v1+0) / BB,_⟩,G,wkI⟩
 rintro ⟨q0,r0,c0,n0⟩ G0;dsimp only at G0 ⊢;refine OkS.seqX (α:=Nat × Nat) (fun p=>⟨[(0,.osl 103 gu 1 A.length (m+3)),(1,.sl false 1 (v.map a0h)),(5,i64 ((m+2:Nat):Int)),(6,a0h p.1)],[⟨1505,gq,Tq,1,qs⟩,⟨103,gu,260,1,(A++(P++Z)).map a0h⟩],p.2⟩)
  (fun p=>p.1<BB∧a0i P<(p.1+1)*a0i v∧p.1*a0i v≤a0i P+a0i v) ?_ ?_
 ·refine OkS.block ?_
  refine OkS.loopF (α:=Nat × Nat × Nat × Nat) (fun p=>⟨[(0,.osl 103 gu 1 A.length (m+3)),(1,.sl false 1 (v.map a0h)),(5,i64 ((m+2:Nat):Int)),(6,a0h p.1),(7,a0h p.2.1),(8,a0h p.2.2.1)],[⟨1505,gq,Tq,1,qs⟩,⟨103,gu,260,1,(A++(P++Z)).map a0h⟩],p.2.2.2⟩)
   (fun p=>p.1) (fun p F'=>F'=F∧b2S (a0i P) (a0i v) (p1+BB*p2) v1 p.1 p.2.1 p.2.2.1) (q0,r0,c0,n0) ⟨rfl,G0⟩ wkI ?_
  rintro ⟨q,r,c,n1⟩ F' ⟨rfl,G⟩;dsimp only at G ⊢;refine OkS.seq ?_;refine OkS.seq ?_;rcases Nat.eq_zero_or_pos c with hc|hc
  ·subst hc
   have e8:(((0:Nat):Int)==0)=true:=rfl;refine OkS.reg w1 800 (by kernel_rfl) ?_;refine nwI e8 ?_;refine ifI ?_;refine skI ?_;refine OkS.block ?_;have lq:=G.qB;have cm:=a4P q v2 lq lv2;refine sZ 900 ?_;refine gwI (ff2 kN k2) ?_;refine ixI kT hv2 ?_;refine gwI (ff2 kN k2) ?_;refine a0l.same _ cm inferInstance ?_;refine stI ?_;have ht:=b5N (x:=q*v2) (r:=r) l0;obtain ⟨b,hb⟩:∃ b:Bool,b=decide (q*v2≤r*BB+p0):=⟨_,rfl⟩
   refine OkS.seq ?_;refine OkS.seqW ⟨[(0,.osl 103 gu 1 A.length (m+3)),(1,.sl false 1 (v.map a0h)),(5,i64 ((m+2:Nat):Int)),(6,a0h q),(7,a0h r),(91,boo b)],[⟨1505,gq,Tq,1,qs⟩,⟨103,gu,260,1,(A++(P++Z)).map a0h⟩],n1+100⟩ ?_ ?_
   ·change (q*v2 / 18446744073709551616<r∨q*v2 / 18446744073709551616=r∧q*v2%18446744073709551616≤p0)↔_ at ht
    generalize q*v2 / 18446744073709551616=hi at *;generalize q*v2%18446744073709551616=lo at *;rcases Nat.lt_or_ge hi r with h|h
    ·have e1:decide ((hi:Int)<(r:Int))=true:=decide_eq_true (by omega)
     have hb1:b=true:=by rw [hb];exact decide_eq_true (ht.1 (.inl h))
     subst hb1;refine OkS.reg w1 1000 (by kernel_rfl) ?_;refine gwI e1 ?_;refine gwI kT ?_;exact And.intro (by trivial) (wkI)
    ·have e1:decide ((hi:Int)<(r:Int))=false:=decide_eq_false (by omega)
     rcases Nat.eq_or_lt_of_le h with h2|h2
     ·have e2:((hi:Int)==(r:Int))=true:=beq_iff_eq.2 (by omega)
      have e3:decide ((lo:Int)≤(p0:Int))=b:=by
       rw [hb];exact decide_eq_decide.2 ⟨fun h3=>ht.1 (.inr ⟨h2.symm,by omega⟩),fun h3=>by rcases ht.2 h3 with h4|h4<;>omega⟩
      refine OkS.reg w1 1000 (by kernel_rfl) ?_;refine gwI e1 ?_;refine gwI (ff2 kF e2) ?_;refine gwI (ff6 kF e2 kN k2 hp0 e3) ?_;exact And.intro (by trivial) (wkI)
     ·have e2:((hi:Int)==(r:Int))=false:=beq_eq_false_iff_ne.2 (by omega)
      have hb1:b=false:=by rw [hb];exact decide_eq_false fun h3=>by rcases ht.2 h3 with h4|h4<;>omega
      subst hb1;refine OkS.reg w1 1000 (by kernel_rfl) ?_;refine gwI e1 ?_;refine gwI kF ?_;simp only [e2];refine gwI (ff2 kF Bool.false_eq_true) ?_;exact And.intro (by trivial) (wkI)
   ·cases b
    ·have hn:=of_decide_eq_false hb.symm
     obtain ⟨hq0,G2⟩:=b5M S G (by omega);have j1:IntKind.u64.wrap ((q:Int) - 1)=((q - 1:Nat):Int):=by rw [wU (by omega) (by have:=G.qB;unfold BB at this;omega)];omega
     refine ifI ?_;refine skI ?_;refine sZ 1100 ?_;refine nwI j1 ?_;refine OkS.reg w1 1200 (by kernel_rfl) ?_;refine gwI (ff2 kN k1) ?_;refine ixI kT hv1 ?_;refine gwI (ff2 kN k1) ?_;exact ⟨(q - 1,(r+v1+0)%BB,(r+v1+0) / BB,_),⟨trivial,G2⟩,by dsimp only;omega,wkI⟩
    ·have hn:=of_decide_eq_true hb.symm
     refine ifI ?_;refine exI ?_;exact ⟨rfl,⟨q,_⟩,⟨G.qB,G.up,a9N S G (.inr hn)⟩,wkI⟩
  ·have e8:((c:Int)==0)=false:=beq_eq_false_iff_ne.2 (by omega)
   refine OkS.reg w1 800 (by kernel_rfl) ?_;refine nwI e8 ?_;refine ifI ?_;refine exI ?_;exact ⟨rfl,⟨q,_⟩,⟨G.qB,G.up,a9N S G (.inl hc)⟩,wkI⟩
 rintro ⟨q,n1⟩ ⟨hq,hup,hdn⟩;dsimp only at hq hup hdn ⊢;clear hp0 hp1 hp2;refine sR 1300 ?_;refine OkS.seq ?_;refine sR 1400 ?_;refine OkS.block ?_;refine OkS.loop (α:=Nat × Nat × Nat × List Nat × Nat) (fun p=>⟨[(0,.osl 103 gu 1 A.length (m+3)),(1,.sl false 1 (v.map a0h)),(5,i64 ((m+2:Nat):Int)),(6,a0h q),(11,a0h p.2.1),(12,a0h p.2.2.1),(104,i64 ((m+2:Nat):Int)),(105,i64 p.1)],[⟨1505,gq,Tq,1,qs⟩,⟨103,gu,260,1,(A++(p.2.2.2.1++Z)).map a0h⟩],p.2.2.2.2⟩) (fun p=>m+2 - p.1)
  (fun p=>p.1≤m+2∧p.2.1≤1∧p.2.2.1<BB∧p.2.2.2.1.length=m+3∧Wd p.2.2.2.1∧a0i p.2.2.2.1+q*a0i (v.take p.1)=a0i P+BB^p.1*(p.2.2.1+p.2.1)) (0,0,0,P,_) ⟨Nat.zero_le _,Nat.zero_le _,(show 0<BB by decide),hPl,S.wP,by simp [a0i]⟩ wkI ?_
 rintro ⟨i,b,c,p,n2⟩ F ⟨hi,hb,hc,hpl,hpw,hI⟩;dsimp only at hi hb hc hpl hpw hI ⊢;have hv1':=hv1;clear hv1 hv2;refine sR 1500 ?_;refine OkS.seq ?_;refine ifI ?_
 (refine brI (fun hlt=>?_) (fun hlt=>?_))<;>(try simp only [Bool.not_eq_true',Bool.not_eq_false'] at hlt)<;>(try simp only [hlt])
 ·have hi2:i<m+2:=by
   have:=of_decide_eq_true hlt
   omega
  obtain ⟨x,hx⟩:=a2Z (l:=v) (i:=i) (by omega);have hx':=a1i hx;have hxl:x<BB:=S.wv x (List.mem_of_getElem? hx);obtain ⟨z,hz⟩:=a2Z (l:=p) (i:=i) (by omega);have hz':=a7O (A:=A) (Z:=Z) hz;have hzl:z<BB:=hpw z (List.mem_of_getElem? hz);have cm:=a4P q x hq hxl;have md:=b5R hq hxl hc;obtain ⟨h,l,lo,k,c',eh,el,elo,ek,ec,hlo,hc',hmd⟩:∃ h l lo k c',q*x / 18446744073709551616=h∧q*x%18446744073709551616=l∧(l+c+0)%18446744073709551616=lo∧(l+c+0) / 18446744073709551616=k∧h+k=c'∧lo<BB∧c'<BB∧lo+BB*c'=q*x+c :=
   ⟨_,_,_,_,_,rfl,rfl,rfl,rfl,rfl,Nat.mod_lt _ (by decide),md.2,md.1⟩
  rw [eh,el] at cm;have j1:IntKind.u64.wrap ((h:Int)+(k:Int))=(c':Int):=by rw [← Int.natCast_add,ec];exact wU' hc'
  have hsub:=b1f (a:=z) (b:=lo) hb;have hdig:=a8X hzl hlo hb;have hb':(if z<lo+b then 1 else 0)≤1:=by split<;>decide
  have hd:(z+BB - lo - b)%BB<BB:=Nat.mod_lt _ (by decide);generalize (if z<lo+b then 1 else 0)=b' at *;generalize (z+BB - lo - b)%BB=d at *;have wi:IntKind.i64.wrap ((i:Int)+1)=((i+1:Nat):Int):=wI (by omega) (by omega);refine skI ?_;refine OkS.seq ?_;refine OkS.block ?_;refine sR 1600 ?_;refine sZ 1700 ?_;refine gwI kN ?_;refine ixI kT hx' ?_;refine gwI kN ?_;refine a0l.same _ cm inferInstance ?_;refine stI ?_;refine sR 1800 ?_;refine sZ 1900 ?_;refine nwI (ff2 elo ek) ?_;refine sZ 2000 ?_;refine nwI j1 ?_;refine OkS.reg w1 2100 (by kernel_rfl) ?_;refine gwI (ff2 kN hz') ?_
  first|(refine a0r rfl rfl ?_;refine b1o rfl rfl (hsub) ?_)|(refine a0w rfl rfl ?_;refine a9e rfl rfl (hsub) ?_)
  refine gwI (ff2 kN hz') ?_;rw [b1a (by omega)];refine OkS.reg w1 2200 (by kernel_rfl) ?_;refine nwI wi ?_;exact ⟨(i+1,b',c',p.set i d,_),⟨hi2,hb',hc',by dsimp only;rw [List.length_set];exact hpl,hpw.set hd,b1g hz hx hI hmd hdig⟩,by dsimp only;omega,wkI⟩
 ·have hi2:i=m+2:=by
   have:=of_decide_eq_false hlt
   omega
  subst hi2;rw [List.take_of_length_le (by omega)] at hI;obtain ⟨z,hz⟩:=a2Z (l:=p) (i:=m+2) (by omega);have hz':=a7O (A:=A) (Z:=Z) hz;have hzl:z<BB:=hpw z (List.mem_of_getElem? hz);have hsub:=b1f (a:=z) (b:=c) hb;have hdig:=a8X hzl hc hb;have hb':(if z<c+b then 1 else 0)≤1:=by split<;>decide
  have hd:(z+BB - c - b)%BB<BB:=Nat.mod_lt _ (by decide);generalize (if z<c+b then 1 else 0)=b' at *;generalize (z+BB - c - b)%BB=d at *;have hT:=b1h hz hI hdig;have hml:m+2<p.length:=by omega
  refine exI ?_;refine sZ 2300 ?_;refine gwI (ff2 kN hz') ?_
  first|(refine a0r rfl rfl ?_;refine b1o rfl rfl (hsub) ?_)|(refine a0w rfl rfl ?_;refine a9e rfl rfl (hsub) ?_)
  refine gwI (ff2 kN hz') ?_;rw [b1a hml];have hpl2:(p.set (m+2) d).length=m+3:=by rw [List.length_set];exact hpl
  have hpw2:=hpw.set (i:=m+2) hd;clear hz' hz hdig hsub hI;generalize p.set (m+2) d=p2 at *;refine OkS.seq ?_;refine OkS.seq ?_;rcases Nat.eq_zero_or_pos b' with hb0|hb0
  ·subst hb0
   have e24:(((0:Nat):Int)==0)=true:=rfl;obtain ⟨ed,em⟩:=a8V hT hup;refine OkS.reg w1 2400 (by kernel_rfl) ?_;refine nwI e24 ?_;refine ifI ?_;refine sR 2500 ?_;refine rtI ?_;exact ⟨p2,by omega,hpw2,em.symm,by rw [ed],rfl⟩
  ·have hb1:b'=1:=by omega
   subst hb1;have e24:(((1:Nat):Int)==0)=false:=rfl;have hpL:=a2H hpw2;rw [hpl2] at hpL;refine OkS.reg w1 2400 (by kernel_rfl) ?_;refine nwI e24 ?_;refine ifI ?_;refine skI ?_;refine sR 2600 ?_;refine OkS.seq ?_;refine sR 2700 ?_;refine OkS.block ?_;refine OkS.loop (α:=Nat × Nat × List Nat × Nat) (fun p=>⟨[(0,.osl 103 gu 1 A.length (m+3)),(1,.sl false 1 (v.map a0h)),(5,i64 ((m+2:Nat):Int)),(6,a0h q),(17,a0h p.2.1),(156,i64 ((m+2:Nat):Int)),(157,i64 p.1)],[⟨1505,gq,Tq,1,qs⟩,⟨103,gu,260,1,(A++(p.2.2.1++Z)).map a0h⟩],p.2.2.2⟩) (fun p=>m+2 - p.1)
    (fun p=>p.1≤m+2∧p.2.1≤1∧p.2.2.1.length=m+3∧Wd p.2.2.1∧a0i p.2.2.1+BB^p.1*p.2.1=a0i p2+a0i (v.take p.1)) (0,0,p2,_) ⟨Nat.zero_le _,Nat.zero_le _,hpl2,hpw2,by simp [a0i]⟩ wkI ?_
   rintro ⟨i,c3,p3,n3⟩ F ⟨hi,hc3,hpl3,hpw3,hI⟩;dsimp only at hi hc3 hpl3 hpw3 hI ⊢;refine sR 2800 ?_;refine OkS.seq ?_;refine ifI ?_
   (refine brI (fun hlt=>?_) (fun hlt=>?_))<;>(try simp only [Bool.not_eq_true',Bool.not_eq_false'] at hlt)<;>(try simp only [hlt])
   ·have hi2:i<m+2:=by
     have:=of_decide_eq_true hlt
     omega
    obtain ⟨x,hx⟩:=a2Z (l:=v) (i:=i) (by omega);have hx':=a1i hx;have hxl:x<BB:=S.wv x (List.mem_of_getElem? hx);obtain ⟨z,hz⟩:=a2Z (l:=p3) (i:=i) (by omega);have hz':=a7O (A:=A) (Z:=Z) hz;have hzl:z<BB:=hpw3 z (List.mem_of_getElem? hz);have hadd:=b3Z (a:=z) (b:=x) hc3;have J:=a9o hz hx hI;have hs:(z+x+c3)%BB<BB:=Nat.mod_lt _ (by decide);have hc':(z+x+c3) / BB≤1:=by
     have:z+x+c3<2*BB:=by omega
     exact Nat.le_of_lt_succ (Nat.div_lt_of_lt_mul (by rw [Nat.mul_comm];exact this))
    generalize (z+x+c3)%BB=d at *;generalize (z+x+c3) / BB=c' at *;have wi:IntKind.i64.wrap ((i:Int)+1)=((i+1:Nat):Int):=wI (by omega) (by omega);refine skI ?_;refine OkS.seq ?_;refine OkS.block ?_;refine sR 2900 ?_;refine OkS.regW w1 3000 [0,1,2,3,4,5,6,7,8,9,10,11,12,13,14,15,16] [17] 16 [12,10,9,8,7,6,5,4,3,2,1,0,11,13,15] (103) (by kernel_rfl) (by kernel_rfl) ?_;refine dsI ?_;refine gvI (ff2 kN hz') ?_;refine a3I rfl rfl rfl rfl ?_;refine b0p (fun _ _=>rfl) (by exact sdI) ⟨rfl,by omega⟩ hx' ?_
    try dsimp only [D.cells,spot]
    refine gvI (ff2 kN hz') ?_;refine a3I rfl rfl rfl rfl ?_;refine a9e rfl rfl hadd ?_;refine gvI (ff2 kN hz') ?_;refine And.intro (by first|exact Or.inl trivial|exact Or.inl rfl) ?_;refine gwI kN ?_;rw [b1a (by omega)];refine OkS.reg w1 3100 (by kernel_rfl) ?_;refine nwI wi ?_;exact ⟨(i+1,c',p3.set i d,_),⟨hi2,hc',by dsimp only;rw [List.length_set];exact hpl3,hpw3.set hs,J⟩,by dsimp only;omega,wkI⟩
   ·have hi2:i=m+2:=by
     have:=of_decide_eq_false hlt
     omega
    subst hi2;rw [List.take_of_length_le (l:=v) (by omega)] at hI;obtain ⟨z,hz⟩:=a2Z (l:=p3) (i:=m+2) (by omega);have hz':=a7O (A:=A) (Z:=Z) hz;have hzl:z<BB:=hpw3 z (List.mem_of_getElem? hz);have J:=b0u hz hI;have hs:(z+c3)%BB<BB:=Nat.mod_lt _ (by decide);have hc':(z+c3) / BB≤1:=by
     have:z+c3<2*BB:=by omega
     exact Nat.le_of_lt_succ (Nat.div_lt_of_lt_mul (by rw [Nat.mul_comm];exact this))
    have j1:IntKind.u64.wrap ((z:Int)+(c3:Int))=(((z+c3)%BB:Nat):Int):=by rw [← Int.natCast_add];exact a1R _
    generalize (z+c3)%BB=d at *;generalize (z+c3) / BB=c' at *;have hml:m+2<p3.length:=by omega
    have hpl4:(p3.set (m+2) d).length=m+3:=by rw [List.length_set];exact hpl3
    have hpw4:=hpw3.set (i:=m+2) hs;have hpL4:=a2H hpw4;rw [hpl4] at hpL4;obtain ⟨q0p,ed,em⟩:=b2H (by rw [Nat.mul_one] at hT;exact hT) hpL hdn J hc' hpL4;have j2:IntKind.u64.wrap ((q:Int) - 1)=((q - 1:Nat):Int):=by rw [wU (by omega) (by unfold BB at hq;omega)];omega
    refine exI ?_;refine sZ 3200 ?_;refine gwI (ff3 kN hz' j1) ?_;rw [b1a hml];refine sZ 3300 ?_;refine nwI j2 ?_;refine rtI ?_;exact ⟨p3.set (m+2) d,by omega,hpw4,em.symm,by rw [ed],rfl⟩
theorem a0m.toP {C:Ctx}{f:Nat}{args:List D}{Φ:D→Hp→Nat→Prop}{Ψ:D→Prop}(h:a0m C f args [] 0 Φ)(k:∀ d H n,Φ d H n→∃ d',Fz H [] d d'∧a2c d'∧Ψ d'):a0c C f args Ψ:=by
 refine ⟨h.1,fun Y w vs hG hnG hX' hvs hr=>?_⟩
 let F0:Fra:=⟨w,Y,fun _=>False,0,nol,[]⟩
 have m0:Mem C F0 nol [] w:=⟨⟨by simp,.nil,by simp⟩,rfl,rfl,rfl,Nat.le_refl _,fun _ _ _=>rfl,hX',hG,hnG,by simp [F0],fun _ _ _ h=>h,fun _ cs _ _ h=>⟨cs,_,h,rfl⟩⟩
 have hoe:Own F0.X nol []=Y:=funext fun b=>propext (by simp [Own,F0])
 refine (h.2 F0 nol w vs m0 (fun _ _ _=>rfl) (by simp) hvs (fun i d hd=>by rw [hoe];exact hr i d hd)).mono ?_;rintro e w' ⟨v,d,H',n',ρ',rfl,hΦ,m,x,fr,g,r⟩;obtain ⟨d',h3,h4,h5⟩:=k d H' n' hΦ;have hH:FzH H' [] H' []:=by
  generalize H'=H0
  have:∀ H1:Hp,FzH H0 [] H1 []:=fun H1=>by
   induction H1 with
   | nil=>exact .nil
   | cons e r ih=>exact .drop ih
  exact this H0
 obtain ⟨m2,hO,hN⟩:=hH.mem m;have r3:=h3.rep m hO hN r;have r4:=h4 _ nol _ _ _ r3;exact ⟨v,d',rfl,⟨m.os,m.tape,m.output,m.size,fun b hb=>m.blk b hb (by simp [F0])⟩,h5,r4.anti fun b hb=>.inl hb⟩
theorem c4d {H Hf:Hp}{a a' b b':D}(h1:Fz H Hf a a')(h2:Fz H Hf b b'):Fz H Hf (.tup [a,b]) (.tup [a',b']) :=
 .tup rfl fun i d d' hd hd'=>by
  match i with
  | 0=>simp at hd hd';subst hd;subst hd';exact h1
  | 1=>simp at hd hd';subst hd;subst hd';exact h2
  | i+2=>simp at hd
theorem b5a {a b:D}(h1:a2c a)(h2:a2c b):a2c (.tup [a,b]):=a2c.tup fun d hd=>by
 simp only [List.mem_cons,List.not_mem_nil,or_false] at hd;rcases hd with rfl|rfl
 ·exact h1
 ·exact h2
theorem b3s (K g T:Nat)(l l':List Nat)(h:l.take l'.length=l'):Fz [⟨K,g,T,1,l.map a0h⟩] [] (.osl K g 1 0 l'.length) (wL l'):=by
 have hll:l'.length≤l.length:=by
  have:=congrArg List.length h
  rw [List.length_take] at this;omega
 have key:∀ (j:Nat) (d d':D),(l.map a0h)[0+j]? = some d→(l'.map a0h)[j]? = some d'→d=d':=fun j d d' h1 h2=>by
  rw [← h,List.getElem?_map,List.getElem?_take] at h2;rw [Nat.zero_add,List.getElem?_map] at h1;split at h2
  ·rw [h1] at h2;exact Option.some.inj h2
  ·simp at h2
 refine .osl (e:=⟨K,g,T,1,l.map a0h⟩) (by simp [Hp.get]) rfl rfl rfl (by simp;exact hll) (by simp) (fun j d d' h1 h2=>by rw [key j d d' h1 h2]) fun j d d' q c c' h1 h2 h3 h4=>?_
 rw [key j d d' h1 h2] at h3;rw [h3] at h4;cases h4;exact Fz.refl _
theorem c7a:wD 0=.sl false 1 []:=by unfold wD;rw [a0K];rfl
theorem b9F (w:List Nat)(s:Nat)(hs:s≤63)(hw:Wd w)(hl:w.length<4000000):a0c C0 236 [wL w,i64 s] (fun d=>∃ out:List Nat,out.length=w.length+1∧Wd out∧a0i out=a0i w*2^s∧d=wL out) :=
 (b0h w s hs hw hl [] 0).toP fun d H n ⟨out,g,h1,h2,h3,h4,h5,_⟩=>by
  subst h4;subst h5;refine ⟨wL out,?_,a4v _,out,h1,h2,h3,rfl⟩
  have:=b3s 103 g 260 out out (by simp)
  rw [h1] at this;exact this
theorem b8t {n k:Nat}(h1:BB^k≤n)(h2:n<BB^(k+1)):(a0e n).length=k+1:=by
 have h3:=a0G h2;have h4:=Nat.lt_of_le_of_lt h1 (a2L n);have h5:=(Nat.pow_lt_pow_iff_right (show 1<BB by decide)).1 h4;omega
theorem a8p:∀ (n:Nat) {k a:Nat},(a0e n).length=k+1→(a0e n)[k]? = some a→a≠0:=fun n=>by
 induction n using Nat.strongRecOn with
 | ind n ih =>
  intro k a h1 h2
  by_cases h0:n=0
  ·subst h0;rw [a0K] at h1;cases h1
  ·rw [a1b h0] at h1 h2
   rw [List.length_cons] at h1;have h3:=Nat.succ.inj h1;cases k with
   | zero =>
    have h4:a0e (n / BB)=[]:=List.eq_nil_of_length_eq_zero h3;have h5:n / BB=0:=by rw [← a0J (n / BB),h4];rfl
    have h6:=Nat.mod_add_div n BB;rw [h5] at h6;simp at h2;intro h7;subst h7;rw [h2] at h6;omega
   | succ k =>
    rw [List.getElem?_cons_succ] at h2;exact ih _ (Nat.div_lt_self (Nat.pos_of_ne_zero h0) (by decide)) h3 h2
theorem b4I {n k:Nat}(h:(a0e n).length=k+1):BB^k≤n:=by
 obtain ⟨a,ha⟩:=a2Z (l:=a0e n) (i:=k) (by omega);have h1:=a8p n h ha;have h2:=d4N h ha;rw [a0J] at h2;have h3:=Nat.mul_le_mul_left (BB^k) (show 1≤a by omega);omega
theorem d2l {b m y s:Nat}(hs:s≤63)(hl:(a0e b).length=m+1)(hy:(a0e b)[m]? = some y)(h:y*2^s<BB):(a0e (b*2^s)).length=m+1:=by
 have hp:0<2^s:=Nat.two_pow_pos s;have hpp:2^(64 - s)*2^s=BB:=by rw [← Nat.pow_add,show 64 - s+s=64 by omega]
 have h1:y<2^(64 - s):=by
  rw [← hpp] at h;exact Nat.lt_of_mul_lt_mul_right h
 refine b8t ?_ ?_
 ·have:=b4I hl
  exact Nat.le_trans this (Nat.le_mul_of_pos_right _ hp)
 ·have h2:=d4N hl hy
  have h3:=a2H ((a1e b).take m);rw [List.length_take,hl,Nat.min_eq_left (by omega)] at h3;rw [a0J] at h2;have h4:b<BB^m*(y+1):=by rw [Nat.mul_add,Nat.mul_one];omega
  have h5:BB^m*(y+1)≤BB^m*2^(64 - s):=Nat.mul_le_mul_left _ h1;have h6:b*2^s<BB^m*2^(64 - s)*2^s:=Nat.mul_lt_mul_of_pos_right (Nat.lt_of_lt_of_le h4 h5) hp;rw [Nat.mul_assoc,hpp] at h6;exact h6
theorem b4p {l:List Nat}{j a:Nat}(h:l[j]? = some a):a0i (l.drop j)=a+BB*a0i (l.drop (j+1)):=by
 have hj:j<l.length:=(List.getElem?_eq_some_iff.1 h).1;rw [List.drop_eq_getElem_cons hj,(List.getElem?_eq_some_iff.1 h).2];rfl
theorem a7y {l:List Nat}{j a:Nat}(h:j<l.length):(l.set j a).drop j=a::l.drop (j+1):=by
 rw [List.drop_eq_getElem_cons (by rw [List.length_set];exact h)]
 congr 1
 ·exact List.getElem_set_self _
 ·rw [List.drop_set_of_lt (by omega)]
theorem b5D {a q:List Nat}{j x b rest:Nat}(hb:0<b)(hx:a[j]? = some x)(hj:j<q.length)(hI:a0i (q.drop (j+1))*b+rest=a0i (a.drop (j+1))) :
  a0i ((q.set j ((rest*BB+x) / b)).drop j)*b+(rest*BB+x)%b=a0i (a.drop j)∧(rest*BB+x)%b<b:=by
 refine ⟨?_,Nat.mod_lt _ hb⟩;rw [a7y hj,b4p hx,← hI,a0i];have e:=Nat.div_add_mod (rest*BB+x) b;rw [Nat.add_mul,Nat.mul_add BB,Nat.mul_assoc BB,Nat.mul_comm BB rest,Nat.mul_comm _ b];omega
theorem a5Y {q b r a:Nat}(h:q*b+r=a)(hr:r<b):q=a / b∧r=a%b:=by
 subst h;rw [Nat.mul_comm];exact ⟨by rw [Nat.mul_add_div (by omega),Nat.div_eq_of_lt hr,Nat.add_zero],by rw [Nat.mul_add_mod,Nat.mod_eq_of_lt hr]⟩
structure a7G (X:Nat)(v U q:List Nat)(lu lq k:Nat):Prop where
 lU:U.length=lu
 lQ:q.length=lq
 wU:Wd U
 wq:Wd q
 val:BB^k*a0i (q.drop k)*a0i v+a0i U=X
 less:a0i (U.drop k)<a0i v
theorem d4W {U:List Nat}(j n:Nat):U=U.take j++((U.drop j).take n++U.drop (j+n)):=by
 rw [← List.drop_drop,List.take_append_drop,List.take_append_drop]
theorem c1d {X:Nat}{v U q:List Nat}{lu lq j m:Nat}(I:a7G X v U q lu lq (j+1))(hv:v.length=m+2)(wv:Wd v)(v1 v2:Nat)(h2:v[m]? = some v2)(h1:v[m+1]? = some v1)(ht:0<v1)(hj:j+(m+3)≤lu) :
  ∃ p0 p1 p2,a9w ((U.drop j).take (m+3)) v m p0 p1 p2 v2 v1∧a0i (U.drop (j+(m+3)))=0∧a0i ((U.drop j).take (m+3))=a0i (U.drop j):=by
 obtain ⟨lU,lQ,wU,wq,val,less⟩:=I;obtain ⟨x,hx⟩:=a2Z (l:=U) (i:=j) (by omega);have hxl:=wU x (List.mem_of_getElem? hx);have e1:=b4p hx;have hlt:a0i (U.drop j)<a0i v*BB:=by
  have:BB*(a0i (U.drop (j+1))+1)≤BB*a0i v:=Nat.mul_le_mul_left _ less
  rw [Nat.mul_add,Nat.mul_comm BB (a0i v)] at this;omega
 have hPl:((U.drop j).take (m+3)).length=m+3:=by rw [List.length_take,List.length_drop];omega
 have e2:a0i (U.drop j)=a0i ((U.drop j).take (m+3))+BB^(m+3)*a0i (U.drop (j+(m+3))):=by
  conv=>lhs;rw [← List.take_append_drop (m+3) (U.drop j)]
  rw [a1H,hPl,List.drop_drop]
 have hvl:=a2H wv;rw [hv] at hvl;have hz:a0i (U.drop (j+(m+3)))=0:=by
  rcases Nat.eq_zero_or_pos (a0i (U.drop (j+(m+3)))) with h|h
  ·exact h
  ·exfalso
   have e3:BB^(m+3)*1≤BB^(m+3)*a0i (U.drop (j+(m+3))):=Nat.mul_le_mul_left _ h;have e4:a0i v*BB≤BB^(m+2)*BB:=Nat.mul_le_mul_right _ (Nat.le_of_lt hvl);have e5:BB^(m+2)*BB=BB^(m+3):=(Nat.pow_succ BB (m+2)).symm;rw [e5] at e4;omega
 rw [hz,Nat.mul_zero,Nat.add_zero] at e2;obtain ⟨p0,h0⟩:=a2Z (l:=(U.drop j).take (m+3)) (i:=m) (by omega);obtain ⟨p1,h3⟩:=a2Z (l:=(U.drop j).take (m+3)) (i:=m+1) (by omega);obtain ⟨p2,h4⟩:=a2Z (l:=(U.drop j).take (m+3)) (i:=m+2) (by omega);exact ⟨p0,p1,p2,⟨hPl,hv,fun a ha=>wU a (List.mem_of_mem_drop (List.mem_of_mem_take ha)),wv,h0,h3,h4,h2,h1,ht,by rw [← e2];exact hlt⟩,hz,e2.symm⟩
theorem c1c {X:Nat}{v U q P':List Nat}{lu lq j m:Nat}(I:a7G X v U q lu lq (j+1))(hv:0<a0i v)(hj:j+(m+3)≤lu)(hjq:j<lq)(hz:a0i (U.drop (j+(m+3)))=0)(hP:a0i ((U.drop j).take (m+3))=a0i (U.drop j))
  (h1:P'.length=m+3) (h2:Wd P') (h3:a0i P'=a0i ((U.drop j).take (m+3))%a0i v) (hd:a0i ((U.drop j).take (m+3)) / a0i v<BB) :
  a7G X v (U.take j++(P'++U.drop (j+(m+3)))) (q.set j (a0i ((U.drop j).take (m+3)) / a0i v)) lu lq j:=by
 obtain ⟨lU,lQ,wU,wq,val,less⟩:=I;have hA:(U.take j).length=j:=by rw [List.length_take];omega
 have e0:a0i U=a0i (U.take j)+BB^j*a0i (U.drop j):=by
  conv=>lhs;rw [← List.take_append_drop j U]
  rw [a1H,hA]
 have e1:a0i (P'++U.drop (j+(m+3)))=a0i P':=by rw [a1H,hz,Nat.mul_zero,Nat.add_zero]
 refine ⟨?_,by rw [List.length_set];exact lQ,?_,wq.set hd,?_,?_⟩
 ·rw [List.length_append,List.length_append,hA,h1,List.length_drop];omega
 ·exact Wd.append (wU.take j) (Wd.append h2 fun a ha=>wU a (List.mem_of_mem_drop ha))
 ·rw [a7y (by omega),a0i,a1H,hA,e1,h3,hP]
  rw [e0] at val;have e2:=Nat.div_add_mod (a0i (U.drop j)) (a0i v);have e3:BB^(j+1)*a0i (q.drop (j+1))*a0i v=BB^j*(BB*a0i (q.drop (j+1))*a0i v):=by
   rw [Nat.pow_succ,Nat.mul_assoc,Nat.mul_assoc,Nat.mul_assoc]
  rw [e3] at val;have e4:BB^j*a0i (U.drop j)=BB^j*(a0i v*(a0i (U.drop j) / a0i v))+BB^j*(a0i (U.drop j)%a0i v):=by
   rw [← Nat.mul_add,e2]
  rw [Nat.mul_assoc,Nat.add_mul,Nat.mul_add,Nat.mul_comm (a0i (U.drop j) / a0i v)];omega
 ·rw [List.drop_left' hA,e1,h3]
  exact Nat.mod_lt _ hv
theorem b7k {a b s:Nat}{U v:List Nat}{k lu lq:Nat}(hU:a0i U=a*2^s)(hv:a0i v=b*2^s)(wU:Wd U)(lU:U.length=lu){q:List Nat}(hq:q=List.replicate lq 0)(hk:lq≤k)
  (hab:a<BB^k*b):a7G (a*2^s) v U q lu lq k:=by
 subst hq;refine ⟨lU,List.length_replicate,wU,a4W _,?_,?_⟩
 ·rw [List.drop_of_length_le (by rw [List.length_replicate];exact hk)]
  rw [show a0i []=0 from rfl,Nat.mul_zero,Nat.zero_mul,Nat.zero_add,hU]
 ·rcases Nat.lt_or_ge (a0i (U.drop k)) (a0i v) with h|h
  ·exact h
  ·exfalso
   have e0:a0i U=a0i (U.take k)+BB^(U.take k).length*a0i (U.drop k):=by
    conv=>lhs;rw [← List.take_append_drop k U]
    rw [a1H]
   have hp:0<2^s:=Nat.two_pow_pos s;have h3:a*2^s<BB^k*b*2^s:=Nat.mul_lt_mul_of_pos_right hab hp;rw [Nat.mul_assoc,← hv] at h3;rcases Nat.lt_or_ge U.length k with hl|hl
   ·rw [List.drop_of_length_le (by omega)] at h
    rw [show a0i []=0 from rfl] at h;rw [Nat.le_zero.1 h,Nat.mul_zero] at h3;omega
   ·rw [List.length_take,Nat.min_eq_left hl] at e0
    have:=Nat.mul_le_mul_left (BB^k) h
    omega
theorem c1b {a b s:Nat}{v U q:List Nat}{lu lq:Nat}(I:a7G (a*2^s) v U q lu lq 0)(hv:a0i v=b*2^s):a0i q=a / b∧a0i U=a%b*2^s:=by
 obtain ⟨lU,lQ,wU,wq,val,less⟩:=I;simp only [Nat.pow_zero,Nat.one_mul,List.drop_zero] at val less;obtain ⟨h1,h2⟩:=a5Y val less;rw [hv,Nat.mul_div_mul_right _ _ (Nat.two_pow_pos s)] at h1;rw [hv,Nat.mul_mod_mul_right] at h2;exact ⟨h1,h2⟩
structure a7H (U u:List Nat)(s i:Nat):Prop where
 len:u.length=U.length
 wd:Wd u
 rest:∀ k,i≤k→u[k]? = U[k]?
 val:∀ c,U[i]? = some c→a0i (U.take i)+BB^i*(c%2^s)=2^s*a0i (u.take i)
theorem b5F {U:List Nat}{s r:Nat}(wU:Wd U)(h:a0i U=r*2^s)(hs:s≤63):a7H U U s 0:=by
 refine ⟨rfl,wU,fun _ _=>rfl,fun c hc=>?_⟩;have e:=a4G hc;simp only [List.take_zero,Nat.pow_zero,Nat.one_mul,a0i,Nat.zero_add,Nat.mul_zero] at e ⊢;have hpp:2^(64 - s)*2^s=BB:=by rw [← Nat.pow_add,show 64 - s+s=64 by omega]
 have e1:(a0i U)%2^s=0:=by rw [h];exact Nat.mul_mod_left _ _
 rw [e,← hpp,Nat.mul_right_comm,Nat.add_mul_mod_self_right] at e1;exact e1
theorem a9E {c d s:Nat}(hs:s≤63)(hc:c<BB):c / 2^s ||| d*2^(64 - s)%BB=c / 2^s+d%2^s*2^(64 - s)∧c / 2^s+d%2^s*2^(64 - s)<BB ∧
  c%2^s+2^s*(c / 2^s+d%2^s*2^(64 - s))=c+BB*(d%2^s):=by
 have hpp:2^s*2^(64 - s)=BB:=by rw [← Nat.pow_add,show s+(64 - s)=64 by omega]
 have h1:d*2^(64 - s)%BB=d%2^s*2^(64 - s):=by rw [← hpp,Nat.mul_mod_mul_right]
 have h2:c / 2^s<2^(64 - s):=Nat.div_lt_of_lt_mul (by rw [hpp];exact hc);have h3:d%2^s<2^s:=Nat.mod_lt _ (Nat.two_pow_pos s);have h4:(d%2^s+1)*2^(64 - s)≤2^s*2^(64 - s):=Nat.mul_le_mul_right _ h3;rw [hpp,Nat.add_mul,Nat.one_mul] at h4;have e:=Nat.mod_add_div c (2^s);refine ⟨?_,by omega,?_⟩
 ·rw [h1,Nat.or_comm,b8T h2,Nat.add_comm]
 ·rw [Nat.mul_add,Nat.mul_left_comm,hpp,Nat.mul_comm (d%2^s)]
  omega
theorem b7o {U u:List Nat}{s i c d:Nat}(hs:s≤63)(wU:Wd U)(I:a7H U u s i)(hc:U[i]? = some c)(hd:U[i+1]? = some d) :
  a7H U (u.set i (c / 2^s+d%2^s*2^(64 - s))) s (i+1):=by
 obtain ⟨len,wd,rest,val⟩:=I;have hcl:=wU c (List.mem_of_getElem? hc);obtain ⟨_,e2,e3⟩:=a9E (d:=d) hs hcl;have hi:i<U.length:=(List.getElem?_eq_some_iff.1 hc).1;refine ⟨by rw [List.length_set];exact len,wd.set e2,fun k hk=>?_,fun c' hc'=>?_⟩
 ·rw [List.getElem?_set_ne (by omega)];exact rest k (by omega)
 ·rw [hd] at hc'
  cases hc';have v0:=val c hc;rw [a7z (by omega),a1l (i:=i) (by rw [List.length_take];omega),a0O hc,a1l (i:=i) (by rw [List.length_take];omega),Nat.mul_add,← v0,Nat.pow_succ,Nat.mul_assoc,Nat.mul_left_comm (2^s)];have e4:BB^i*(c%2^s+2^s*(c / 2^s+d%2^s*2^(64 - s)))=BB^i*(c+BB*(d%2^s)):=by rw [e3]
  rw [Nat.mul_add,Nat.mul_add (BB^i) c] at e4;omega
theorem b7n {U u:List Nat}{s n r:Nat}(I:a7H U u s n)(hn:n<U.length)(hU:a0i U=r*2^s)(hl:a0i U<BB^n):a0i (u.take n)=r:=by
 obtain ⟨c,hc⟩:=a2Z hn;have e:=a4G hc;have hz:c+BB*a0i (U.drop (n+1))=0:=by
  rcases Nat.eq_zero_or_pos (c+BB*a0i (U.drop (n+1))) with h|h
  ·exact h
  ·have:=Nat.mul_le_mul_left (BB^n) h
   omega
 have hc0:c=0:=by omega
 subst hc0;have v0:=I.val 0 hc;rw [hz,Nat.mul_zero,Nat.add_zero] at e;rw [Nat.zero_mod,Nat.mul_zero,Nat.add_zero,← e,hU,Nat.mul_comm] at v0;exact (Nat.eq_of_mul_eq_mul_left (Nat.two_pow_pos s) v0).symm
theorem b7a {a b:Nat}(h:a<b):decide (a6e (a:Int) (b:Int)<0)=true:=decide_eq_true (by unfold a6e;split<;>(try split)<;>omega)
theorem b0y {a b:Nat}(h:b≤a):decide (a6e (a:Int) (b:Int)<0)=false:=decide_eq_false (by unfold a6e;split<;>(try split)<;>omega)
theorem c7c {env:Env}{t K g n N t2:Nat}{z:List Nat}{T:Nat}{d2:D}(hl:z.length=N)(he:env.get t=.osl K g 1 0 N:=by exact rfl)(h2:env.get t2=d2:=by exact rfl):Wk ⟨env,[⟨K,g,T,1,z.map a0h⟩],n⟩ ⟨[(t,.sl false 1 (z.map a0h)),(t2,d2)],[],n⟩:=by
 subst hl;refine ⟨.drop .nil,⟨?_,?_,trivial⟩,Nat.le_refl _⟩
 ·dsimp only
  rw [he]
  have:=b1T K g T 1 (z.map a0h)
  rwa [List.length_map] at this
 ·dsimp only
  rw [h2];exact .refl _
theorem b7l (a b:Nat)(hab:a<b)(ha:(a0e a).length<1000000)(hb:(a0e b).length<1000000):a0b C0 185 [wD a,wD b] (.tup [wD (a / b),wD (a%b)]):=by
 rw [Nat.div_eq_of_lt hab,Nat.mod_eq_of_lt hab,c7a];refine a0c.walk w1 b4x rfl fun F=>?_
 have cc:=b0z a b (by omega) (by omega);have e1:=b7a hab;refine sR 0 ?_;refine OkS.seq ?_;refine sR 100 ?_;refine cI cc ?_;rw [e1];refine ifI ?_;refine sR 200 ?_;refine rtI ?_;exact ⟨_,c4d (.nil 1) (.refl _),b5a (.sl fun e he=>by cases he) (a4v _),rfl⟩
theorem c1e (a b:Nat)(hab:b≤a)(ha:(a0e a).length<1000000)(hb:(a0e b).length=1)(hb0:b≠0):a0b C0 185 [wD a,wD b] (.tup [wD (a / b),wD (a%b)]):=by
 have cc:=b0z a b (by omega) (by omega);have e1:=b0y hab;have hbl:b<BB:=by
  have:=a2L b
  rw [hb,Nat.pow_one] at this;exact this
 have hlb:(a0e b)[0]? = some b:=by rw [a3C hb0 hbl];rfl
 have va:=a0J a;have wa:=a1e a;refine a0c.walk w1 b4x rfl fun F=>?_
 unfold wD wL at cc ⊢;change OkS C0 F none F _ _ (c0y X1.tt _ (· = .tup [wD (a / b),wD (a%b)]));generalize a0e a=la at *;generalize a0e b=lb at *;have hb':=a1i hlb;have e3:((((lb.map a0h).length:Nat):Int)==1)=true:=by rw [List.length_map,hb];rfl
 have ea:(((la.map a0h).length:Nat):Int)=(la.length:Int):=by rw [List.length_map]
 have wl:IntKind.i64.wrap ((la.length:Int) - 1)=(la.length:Int) - 1:=wI (by omega) (by omega);have r3:List.replicate la.length (ofV (.int .u64 0))=(List.replicate la.length 0).map a0h:=by rw [List.map_replicate];rfl
 refine sR 0 ?_;refine OkS.seq ?_;refine sR 100 ?_;refine cI cc ?_;rw [e1];refine ifI ?_;refine skI ?_;refine OkS.seq ?_;refine sZ 300 ?_;refine nwI e3 ?_;refine ifI ?_;refine sZ 400 ?_;refine nwI (ff2 ea kN) ?_;refine sR 500 ?_;refine OkS.seq ?_;refine sZ 600 ?_;refine nwI (ff2 ea wl) ?_;refine OkS.block ?_;refine OkS.loop (α:=Nat × Nat × List Nat × Nat) (fun p=>⟨[(0,.sl false 1 (la.map a0h)),(1,.sl false 1 (lb.map a0h)),(6,.osl 402 11 1 0 la.length),(7,a0h p.2.1),(8,i64 ((p.1:Int) - 1))],[⟨402,11,260,1,p.2.2.1.map a0h⟩],p.2.2.2⟩) (fun p=>p.1)
  (fun p=>p.1≤la.length∧p.2.1<b∧p.2.2.1.length=la.length∧Wd p.2.2.1∧a0i (p.2.2.1.drop p.1)*b+p.2.1=a0i (la.drop p.1)) (la.length,0,List.replicate la.length 0,_)
  ⟨Nat.le_refl _,Nat.pos_of_ne_zero hb0,by simp,a4W _,by simp [a0i]⟩ (by rw [← r3];exact wkI) ?_
 rintro ⟨k,r,q,m⟩ F ⟨h1,h2,h3,h4,h5⟩;dsimp only at h1 h2 h3 h4 h5 ⊢;clear cc e1 e3 ea wl r3;refine OkS.seq ?_;refine sR 700 ?_;refine ifI ?_
 (refine brI (fun h20=>?_) (fun h20=>?_))<;>(try simp only [Bool.not_eq_true',Bool.not_eq_false'] at h20)<;>(try simp only [h20])
 ·obtain ⟨j,rfl⟩:∃ j,k=j+1:=⟨k - 1,by
   have:(k:Int) - 1≥0:=by simpa using h20
   omega⟩
  have wj:((j+1:Nat):Int) - 1=(j:Int):=by omega
  obtain ⟨x,hx⟩:=a2Z (l:=la) (i:=j) (by omega);obtain ⟨z,hz⟩:=a2Z (l:=q) (i:=j) (by omega);have hx':=a1i hx;have hz':=a1i hz;have hxl:=wa x (List.mem_of_getElem? hx);have cd:=b4l r x b h2 hxl hbl;obtain ⟨J1,J2⟩:=b5D (Nat.pos_of_ne_zero hb0) hx (by omega) h5;have hql:(r*BB+x) / b<BB:=by
   refine Nat.div_lt_of_lt_mul ?_
   have:(r+1)*BB≤b*BB:=Nat.mul_le_mul_right _ h2
   rw [Nat.add_mul] at this;omega
  have wi:IntKind.i64.wrap ((j:Int) - 1)=(j:Int) - 1:=wI (by omega) (by omega);generalize (r*BB+x) / b=d at *;generalize (r*BB+x)%b=r' at *;rw [wj];refine skI ?_;refine OkS.seq ?_;refine OkS.block ?_;refine OkS.regW w1 900 [0,1,2,3,4,5,6,7,8,9,10,11,12,13,14,15] [16] 15 [11,9,8,7,6,5,4,3,2,1,0,10,12,14] (402) (by kernel_rfl) (by kernel_rfl) ?_;refine dsI ?_;refine gvI kN ?_;refine a3I rfl rfl rfl rfl ?_;refine b0p (fun _ _=>rfl) (by exact sdI) ⟨rfl,by omega⟩ hx' ?_
  try dsimp only [D.cells,spot]
  refine gvI kN ?_;refine a3I rfl rfl rfl rfl ?_;refine b0p (fun _ _=>rfl) (by exact sdI) ⟨rfl,by omega⟩ hb' ?_
  try dsimp only [D.cells,spot]
  refine gvI kN ?_;refine a3I rfl rfl rfl rfl ?_;refine a4b (fun _ _=>rfl) (by exact sdI) ?_;refine dsI ?_;refine a0n.same _ cd inferInstance ?_;refine gvI (ff3 kN Nat.zero_add hz') ?_;refine And.intro (by first|exact Or.inl trivial|exact Or.inl rfl) ?_;refine gwI (ff2 kN Nat.zero_add) ?_;rw [map_set];refine OkS.reg w1 800 (by kernel_rfl) ?_;refine nwI wi ?_;exact ⟨(j,r',q.set j d,_),⟨by dsimp only;omega,J2,by dsimp only;rw [List.length_set];exact h3,h4.set hql,J1⟩,by dsimp only;omega,wkI⟩
 ·have hk:k=0:=by
   have:¬ ((k:Int) - 1≥0):=by simpa using h20
   omega
  subst hk;rw [List.drop_zero,List.drop_zero,va] at h5;obtain ⟨q1,q2⟩:=a5Y h5 h2;refine exI ?_;refine OkS.weak ⟨[(6,.sl false 1 (q.map a0h)),(7,a0h r)],[],_⟩ (c7c h3) ?_;refine sR 1000 ?_;refine a0l.same _ (trim_ok q h4 (by omega)) inferInstance ?_;refine stI ?_;have hrl:Wd [r]:=fun a ha=>by
   simp only [List.mem_cons,List.not_mem_nil,or_false] at ha;subst ha;exact Nat.lt_trans h2 hbl
  refine a0l.pure [wL [r]] _ ⟨.nn true 1 _,trivial⟩ (trim_ok [r] hrl (by simp)) inferInstance ?_;refine stI ?_;refine rtI ?_;exact a0a (by rw [q1,q2];simp [a0i]) IsPure.out
set_option maxHeartbeats 4000000
theorem b8e {H:Hp}{K g T:Nat}{l:List Nat}{N:Nat}(hl:l.length=N)(he:Hp.get H K=some ⟨K,g,T,1,l.map a0h⟩:=by exact rfl):Fz H [] (.osl K g 1 0 N) (.sl false 1 (l.map a0h)):=by
 subst hl;have key:∀ (j:Nat) (d d':D),(l.map a0h)[0+j]? = some d→(l.map a0h)[j]? = some d'→d=d':=fun j d d' h1 h2=>by
  rw [Nat.zero_add] at h1;rw [h1] at h2;exact Option.some.inj h2
 refine .osl (e:=⟨K,g,T,1,l.map a0h⟩) he rfl rfl rfl (by simp) (by simp) (fun j d d' h1 h2=>by rw [key j d d' h1 h2]) fun j d d' q c c' h1 h2 h3 h4=>?_
 rw [key j d d' h1 h2] at h3;rw [h3] at h4;cases h4;exact Fz.refl _
theorem b7m (a b m:Nat)(hab:b≤a)(ha:(a0e a).length<1000000)(hb:(a0e b).length=m+2):a0b C0 185 [wD a,wD b] (.tup [wD (a / b),wD (a%b)]):=by
 have hlen:=a0A b a hab;have cc:=b0z a b (by omega) (by omega);have e1:=b0y hab;obtain ⟨y,hy⟩:=a2Z (l:=a0e b) (i:=m+1) (by omega);have y0:=a8p b hb hy;have yl:y<BB:=a1e b y (List.mem_of_getElem? hy);obtain ⟨s,hs,es,t1,t2⟩:=a9A y0 yl;have cl:=d1o y yl;rw [es] at cl;have hvl:=d2l hs hb hy t2;obtain ⟨v,hv⟩:∃ v,v=a0e (b*2^s):=⟨_,rfl⟩
 have wv:Wd v:=by rw [hv];exact a1e _
 have vv:a0i v=b*2^s:=by rw [hv];exact a0J _
 rw [← hv] at hvl;obtain ⟨v1,h1⟩:=a2Z (l:=v) (i:=m+1) (by omega);obtain ⟨v2,h2⟩:=a2Z (l:=v) (i:=m) (by omega);have v10:v1≠0:=a8p (b*2^s) (by rw [← hv];exact hvl) (by rw [← hv];exact h1);have vpos:0<a0i v:=by
  rw [vv];refine Nat.mul_pos ?_ (Nat.two_pow_pos s);refine Nat.pos_of_ne_zero fun h=>?_
  subst h;rw [a0K] at hb;cases hb
 have va:=a0J a;have vb:=a0J b;have wa:=a1e a;have wb:=a1e b;have hup:=a2L a;have hbge:=b4I hb;refine a0c.walk w1 b4x rfl fun F=>?_
 unfold wD wL at cc ⊢;change OkS C0 F none F _ _ (c0y X1.tt _ (· = .tup [wD (a / b),wD (a%b)]));generalize a0e a=la at *;generalize a0e b=lb at *;obtain ⟨lq,hlq⟩:∃ lq,la.length=lq+(m+2):=⟨la.length - (m+2),by omega⟩
 have hy':=a1i hy;have e3:((((lb.map a0h).length:Nat):Int)==1)=false:=by rw [List.length_map,hb];exact beq_eq_false_iff_ne.2 (by omega)
 have elb:(((lb.map a0h).length:Nat):Int)=((m+2:Nat):Int):=by rw [List.length_map,hb]
 have wlb0:IntKind.i64.wrap (((m+2:Nat):Int) - 1)=((m+1:Nat):Int):=by rw [wI (by omega) (by omega)];omega
 have wlb:IntKind.i64.wrap ((((lb.map a0h).length:Nat):Int) - 1)=((m+1:Nat):Int):=by rw [elb];exact wlb0
 have ea:(((la.map a0h).length:Nat):Int)=(la.length:Int):=by rw [List.length_map]
 have ev:(((v.map a0h).length:Nat):Int)=((m+2:Nat):Int):=by rw [List.length_map,hvl]
 have wq1:IntKind.i64.wrap ((la.length:Int) - ((m+2:Nat):Int))=(lq:Int):=by rw [wI (by omega) (by omega)];omega
 have wq2:IntKind.i64.wrap ((lq:Int)+1)=((lq+1:Nat):Int):=by rw [wI (by omega) (by omega)];omega
 have wq1':IntKind.i64.wrap ((la.length:Int) - ((m+2:Nat):Int))=((lq+1:Nat):Int) - 1:=by rw [wI (by omega) (by omega)];omega
 have wraw:IntKind.i64.wrap (IntKind.i64.wrap ((((la.map a0h).length:Nat):Int) - ((m+2:Nat):Int))+1)=((lq+1:Nat):Int):=by rw [ea,wq1,wq2]
 have r3:List.replicate (lq+1) (ofV (.int .u64 0))=(List.replicate (lq+1) 0).map a0h:=by rw [List.map_replicate];rfl
 refine sR 0 ?_;refine OkS.seq ?_;refine sR 100 ?_;refine cI cc ?_;rw [e1];refine ifI ?_;refine skI ?_;refine OkS.seq ?_;refine sZ 300 ?_;refine nwI e3 ?_;refine ifI ?_;refine skI ?_;refine sZ 1100 ?_;refine gwI (ff4 wlb elb wlb0 kN) ?_;refine ixI kT hy' ?_;refine gwI (ff4 wlb elb wlb0 kN) ?_;refine cI cl ?_;refine OkS.seqX (α:=Nat) (fun n=>⟨[(0,.sl false 1 (la.map a0h)),(9,i64 s),(10,.sl false 1 (v.map a0h))],[],n⟩) (fun _=>True) ?_ ?_
 ·refine rI 1200 ?_
  refine a0l.prop [wL lb,i64 s] _ (FzL.refl _) (b9F lb s hs wb (by omega)) inferInstance ?_;rintro d ⟨out,o1,o2,o3,rfl⟩;have hvo:wD (a0i out)=.sl false 1 (v.map a0h):=by rw [o3,vb,hv];rfl
  refine stI ?_;refine a0l.same _ (trim_ok out o2 (by omega)) inferInstance ?_;refine stI ?_;simp only [hvo];exact ⟨trivial,_,trivial,wkI⟩
 rintro n0 -;clear cc e1 e3 elb wlb wlb0 hy' cl es t1 t2 yl y0 hy wb;refine sR 1300 ?_;refine a0l.own _ (b0h la s hs wa (by omega) [] _) ?_;rintro d H' n1 ⟨U,gu,u1,u2,u3,rfl,rfl,-⟩;rw [va] at u3;refine stI ?_;refine sZ 1400 ?_;refine nwI ev ?_;refine OkS.seqX (α:=Nat × Nat) (fun p=>⟨[(0,.sl false 1 (la.map a0h)),(9,i64 s),(10,.sl false 1 (v.map a0h)),(11,.osl 103 gu 1 0 (la.length+1)),(12,i64 ((m+2:Nat):Int)),(13,.osl 1505 p.1 1 0 (lq+1))],[⟨1505,p.1,260,1,(List.replicate (lq+1) 0).map a0h⟩,⟨103,gu,260,1,U.map a0h⟩],p.2⟩) (fun _=>True) ?_ ?_
 ·refine OkS.reg w1 1500 (by kernel_rfl) ?_
  refine nwI (ff5 ea wq1 wq2 kN r3) ?_;exact ⟨trivial,⟨n1+9,n1+20⟩,trivial,by rw [← r3];exact wkI⟩
 rintro ⟨g,n2⟩ -;dsimp only;have I0:a7G (a*2^s) v U (List.replicate (lq+1) 0) (la.length+1) (lq+1) (lq+1):=by
  refine b7k u3 vv u2 u1 rfl (Nat.le_refl _) ?_
  have:BB^(lq+1)*BB^(m+1)≤BB^(lq+1)*b:=Nat.mul_le_mul_left _ hbge
  rw [← Nat.pow_add,show lq+1+(m+1)=la.length by omega] at this;omega
 refine OkS.seq ?_;refine sZ 1600 ?_;refine nwI (ff2 ea wq1') ?_;refine OkS.block ?_;refine OkS.loop (α:=Nat × List Nat × List Nat × Nat) (fun p=>⟨[(9,i64 s),(10,.sl false 1 (v.map a0h)),(11,.osl 103 gu 1 0 (la.length+1)),(12,i64 ((m+2:Nat):Int)),(13,.osl 1505 g 1 0 (lq+1)),(14,i64 ((p.1:Int) - 1))],[⟨1505,g,260,1,p.2.2.1.map a0h⟩,⟨103,gu,260,1,p.2.1.map a0h⟩],p.2.2.2⟩) (fun p=>p.1)
  (fun p=>p.1≤lq+1∧a7G (a*2^s) v p.2.1 p.2.2.1 (la.length+1) (lq+1) p.1) (lq+1,U,List.replicate (lq+1) 0,_) ⟨Nat.le_refl _,I0⟩ wkI ?_
 rintro ⟨k,u,q,n3⟩ F ⟨hk,I⟩;dsimp only at hk I ⊢;clear I0 wq1 wq2 wq1' wraw r3 ea;refine OkS.seq ?_;refine sR 1700 ?_;refine ifI ?_
 (refine brI (fun h20=>?_) (fun h20=>?_))<;>(try simp only [Bool.not_eq_true',Bool.not_eq_false'] at h20)<;>(try simp only [h20])
 ·obtain ⟨j,rfl⟩:∃ j,k=j+1:=⟨k - 1,by
   have:(k:Int) - 1≥0:=by simpa using h20
   omega⟩
  have wj:((j+1:Nat):Int) - 1=(j:Int):=by omega
  obtain ⟨p0,p1,p2,SI,hz,hP⟩:=c1d I hvl wv v1 v2 h2 h1 (Nat.pos_of_ne_zero v10) (by omega);have hA:(u.take j).length=j:=by rw [List.length_take,I.lU];omega
  have cs:=fun n=>c6L (u.take j) ((u.drop j).take (m+3)) (u.drop (j+(m+3))) v m p0 p1 p2 v2 v1 SI (by rw [hA];omega) g 260 gu (q.map a0h) n
  rw [hA,← d4W j (m+3)] at cs;obtain ⟨z,hzq⟩:=a2Z (l:=q) (i:=j) (by rw [I.lQ];omega);have hz':=a1i hzq;have hdl:a0i ((u.drop j).take (m+3)) / a0i v<BB:=Nat.div_lt_of_lt_mul SI.less;have wi:IntKind.i64.wrap ((j:Int) - 1)=(j:Int) - 1:=wI (by omega) (by omega);have wjn1:IntKind.i64.wrap ((j:Int)+((m+2:Nat):Int))=((j+(m+2):Nat):Int):=by rw [wI (by omega) (by omega)];omega
  have wjn2:IntKind.i64.wrap (((j+(m+2):Nat):Int)+1)=((j+(m+3):Nat):Int):=by rw [wI (by omega) (by omega)];omega
  have wraw:IntKind.i64.wrap (IntKind.i64.wrap ((j:Int)+((m+2:Nat):Int))+1)=((j+(m+3):Nat):Int):=by rw [wjn1,wjn2]
  have els:j+(m+3) - j=m+3:=Nat.add_sub_cancel_left _ _;have J:=fun P' h1 h2 h3=>c1c (P':=P') I vpos (by omega) (by omega) hz hP h1 h2 h3 hdl
  rw [wj];refine skI ?_;refine OkS.seq ?_;refine OkS.block ?_;refine OkS.reg w1 1900 (by kernel_rfl) ?_;refine gwI (ff6 wraw wjn1 wjn2 kN Nat.zero_add els) ?_;refine a0l.own _ (cs _) ?_;rintro d H' n4 ⟨P',g1,g2,g3,rfl,rfl⟩;rw [SI.lP] at g1;refine gwI (ff3 kN Nat.zero_add hz') ?_;rw [map_set];refine OkS.reg w1 1800 (by kernel_rfl) ?_;refine nwI wi ?_;exact ⟨(j,u.take j++(P'++u.drop (j+(m+3))),q.set j (a0i ((u.drop j).take (m+3)) / a0i v),_),⟨by dsimp only;omega,J P' g1 g2 g3⟩,by dsimp only;omega,wkI⟩
 ·have hk:k=0:=by
   have:¬ ((k:Int) - 1≥0):=by simpa using h20
   omega
  subst hk;obtain ⟨q1,q2⟩:=c1b I vv;have D0:=b5F I.wU q2 hs;have wu:=I.wU;have wqq:=I.wq;have lu:=I.lU;have lqq:=I.lQ;have hlt:a0i u<BB^(m+2):=by
   have:=I.less
   rw [List.drop_zero] at this;have h:=a2H wv;rw [show v.length=m+2 from hvl] at h;omega
  clear I;refine exI ?_;refine OkS.seq ?_;refine sR 2000 ?_;refine OkS.block ?_;refine OkS.loop (α:=Nat × List Nat × Nat) (fun p=>⟨[(9,i64 s),(11,.osl 103 gu 1 0 (la.length+1)),(12,i64 ((m+2:Nat):Int)),(13,.osl 1505 g 1 0 (lq+1)),(96,i64 ((m+2:Nat):Int)),(97,i64 p.1)],[⟨1505,g,260,1,q.map a0h⟩,⟨103,gu,260,1,p.2.1.map a0h⟩],p.2.2⟩) (fun p=>m+2 - p.1)
   (fun p=>p.1≤m+2∧a7H u p.2.1 s p.1) (0,u,_) ⟨Nat.zero_le _,D0⟩ wkI ?_
  rintro ⟨i,x,n4⟩ F ⟨hi,I⟩;dsimp only at hi I ⊢;have xl:=I.len;refine sR 2100 ?_;refine OkS.seq ?_;refine ifI ?_
  (refine brI (fun hlt2=>?_) (fun hlt2=>?_))<;>(try simp only [Bool.not_eq_true',Bool.not_eq_false'] at hlt2)<;>(try simp only [hlt2])
  ·have hi2:i<m+2:=by
    have:=of_decide_eq_true hlt2
    omega
   obtain ⟨c,hc⟩:=a2Z (l:=u) (i:=i) (by omega);obtain ⟨d,hd⟩:=a2Z (l:=u) (i:=i+1) (by omega);have hcx:x[i]? = some c:=by rw [I.rest i (Nat.le_refl _)];exact hc
   have hdx:x[i+1]? = some d:=by rw [I.rest (i+1) (by omega)];exact hd
   have hc':=a1i hcx;have hcl:=wu c (List.mem_of_getElem? hc);have hdl:=wu d (List.mem_of_getElem? hd);have I2:=b7o hs wu I hc hd;obtain ⟨g1,g2,_⟩:=a9E (d:=d) hs hcl;have esh:=b6e c s (by omega);have wi:IntKind.i64.wrap ((i:Int)+1)=((i+1:Nat):Int):=wI (by omega) (by omega);refine skI ?_;refine OkS.seq ?_;refine OkS.block ?_;refine sR 2200 ?_;refine sZ 2300 ?_;refine gwI (ff4 kN Nat.zero_add hc' esh) ?_;rw [map_set];have hxi:i<x.length:=by omega
   have h2c:((x.set i (c / 2^s)).map a0h)[i]? = some (a0h (c / 2^s)):=a1i (List.getElem?_set_self hxi);have h2d:((x.set i (c / 2^s)).map a0h)[i+1]? = some (a0h d):=a1i (by rw [List.getElem?_set_ne (by omega)];exact hdx);refine OkS.seq ?_;rcases Nat.eq_zero_or_pos s with h0|h0
   ·have e24:decide ((s:Int)>0)=false:=decide_eq_false (by omega)
    have es0:x.set i (c / 2^s+d%2^s*2^(64 - s))=x.set i (c / 2^s):=by
     rw [h0,Nat.pow_zero,Nat.mod_one,Nat.zero_mul,Nat.add_zero]
    rw [es0] at I2;refine OkS.reg w1 2400 (by kernel_rfl) ?_;refine nwI e24 ?_;refine gwI e24 ?_;refine ifI ?_;refine skI ?_;refine OkS.reg w1 2600 (by kernel_rfl) ?_;refine nwI wi ?_;exact ⟨(i+1,x.set i (c / 2^s),_),⟨hi2,I2⟩,by dsimp only;omega,wkI⟩
   ·have e24:decide ((s:Int)>0)=true:=decide_eq_true (by omega)
    have e24':decide (((i+1:Nat):Int)<((la.length+1:Nat):Int))=true:=decide_eq_true (by omega);have w64:IntKind.i64.wrap (64 - (s:Int))=((64 - s:Nat):Int):=by rw [wI (by omega) (by omega)];omega
    have w640:(0:Int)≤IntKind.i64.wrap (64 - (s:Int)):=by rw [w64];omega
    have e27:=b9G d (64 - s) (by omega);have e28:a1J .or .u64 ((c / 2^s:Nat):Int) ((d*2^(64 - s)%18446744073709551616:Nat):Int)=((c / 2^s+d%2^s*2^(64 - s):Nat):Int):=by
     rw [d4k _ _ (Nat.lt_of_le_of_lt (Nat.div_le_self _ _) hcl) (Nat.mod_lt _ (by decide)),g1]
    have hset:((x.set i (c / 2^s)).map a0h).set i (a0h (c / 2^s+d%2^s*2^(64 - s)))=(x.set i (c / 2^s+d%2^s*2^(64 - s))).map a0h:=by
     rw [map_set,List.set_set]
    refine OkS.reg w1 2400 (by kernel_rfl) ?_;refine nwI e24 ?_;refine gwI (ff3 e24 wi e24') ?_;refine ifI ?_;refine OkS.regD w1 2500 [0,1,2,3,4,5,6,7,8,9,10,11] [12,13,14] (by kernel_rfl) ?_;refine gwI (ff7 wi w64 e27 e28 kN Nat.zero_add (ff2 h2c h2d)) ?_;refine a0r rfl rfl ?_;refine a6X rfl rfl rfl h2c ?_;refine gwI hset ?_;refine OkS.reg w1 2600 (by kernel_rfl) ?_;refine nwI wi ?_;exact ⟨(i+1,x.set i (c / 2^s+d%2^s*2^(64 - s)),_),⟨hi2,I2⟩,by dsimp only;omega,wkI⟩
  ·have hi2:i=m+2:=by
    have:=of_decide_eq_false hlt2
    omega
   subst hi2;have hr:=b7n I (by omega) q2 hlt;have wx:=I.wd;refine exI ?_;refine OkS.weak ⟨[(11,.sl false 1 (x.map a0h)),(12,i64 ((m+2:Nat):Int)),(13,.sl false 1 (q.map a0h))],[],_⟩ ⟨.drop (.drop .nil),⟨b8e (by omega),.refl _,b8e lqq,trivial⟩,Nat.le_refl _⟩ ?_;have e4:List.take (m+2 - 0) (List.drop 0 (x.map a0h))=(x.take (m+2)).map a0h:=by
    rw [List.map_take];simp
   have e5:List.take (m+2) (x.map a0h)=(x.take (m+2)).map a0h:=by
    rw [List.map_take]
   have ex:(x.map a0h).length=la.length+1:=by rw [List.length_map];omega
   refine OkS.seq ?_;refine OkS.regD w1 2700 [0,1,2,3,4] [5,6,7] (by kernel_rfl) ?_;refine stI ?_;refine a0n.same _ (trim_ok q wqq (by omega)) inferInstance ?_;refine gwI (ff4 kN Nat.sub_zero (@List.drop_zero D) e5) ?_;refine a0l.same _ (trim_ok (x.take (m+2)) (wx.take _) (by rw [List.length_take];omega)) inferInstance ?_;refine stI ?_;refine rtI ?_;exact a0a (by rw [q1,hr]) IsPure.out
theorem d4X (a b:Nat)(hb:b≠0)(ha:(a0e a).length<1000000)(hbl:(a0e b).length<1000000):a0b C0 185 [wD a,wD b] (.tup [wD (a / b),wD (a%b)]):=by
 rcases Nat.lt_or_ge a b with h|h
 ·exact b7l a b h ha hbl
 ·rcases hl:(a0e b).length with _|m
  ·have:=a2L b
   rw [hl] at this;simp at this;exact absurd this hb
  ·rcases m with _|m
   ·exact c1e a b h ha hl hb
   ·exact b7m a b m h ha hl
set_option maxHeartbeats 2000000
theorem b6T {x:GI}(h:x.wf)(h0:x.z ≠ -9223372036854775808):x=mkG x.z:=by
 obtain ⟨z,sm⟩:=x;unfold mkG
 congr 1
 cases sm with
 | true =>
  have:=h.1 rfl
  dsimp only at this h0 ⊢;exact (decide_eq_true (show Sm z from ⟨by omega,by omega⟩)).symm
 | false =>
  have:=h.2 rfl
  exact (decide_eq_false this).symm
theorem a2B (z:Int):(mkG z).z=z:=rfl
def a7c (x y:GI):GI × GI :=
 if x.sm=true∧y.sm=true∧x.z ≠ -9223372036854775808 then (⟨x.z / y.z,true⟩,⟨x.z%y.z,true⟩)
 else if x.z.tmod y.z<0 then (b9X (mkG (x.z.tdiv y.z)) ⟨1,true⟩,a7k (mkG (x.z.tmod y.z)) y) else (mkG (x.z.tdiv y.z),mkG (x.z.tmod y.z))
theorem b6h (a b:Int)(hb:0<b):(a.tmod b<0→a.tdiv b - 1=a / b∧a.tmod b+b=a%b)∧(¬ a.tmod b<0→a.tdiv b=a / b∧a.tmod b=a%b):=by
 have e1:=Int.tdiv_eq_ediv (a:=a) (b:=b);have e2:=Int.tmod_add_mul_tdiv a b;have e3:=Int.emod_add_mul_ediv a b;have e4:=Int.emod_nonneg a (show b≠0 by omega);have e5:=Int.emod_lt_of_pos a hb;have hsg:b.sign=1:=Int.sign_eq_one_of_pos hb;rw [hsg] at e1;split at e1
 ·rw [Int.add_zero] at e1
  rw [e1] at e2;constructor
  ·intro h;omega
  ·intro _;exact ⟨e1,by omega⟩
 ·rename_i hc
  have hd:¬ b ∣ a:=fun h=>hc (Or.inr h)
  have hr:a%b≠0:=fun h=>hd (Int.dvd_of_emod_eq_zero h)
  have e6:b*(a / b+1)=b*(a / b)+b:=by rw [Int.mul_add,Int.mul_one]
  rw [e1,e6] at e2;constructor
  ·intro _;exact ⟨by omega,by omega⟩
  ·intro h;omega
theorem c2O {x y:GI}(hy:0<y.z):(a7c x y).1.z=x.z / y.z∧(a7c x y).2.z=x.z%y.z:=by
 obtain ⟨f1,f2⟩:=b6h x.z y.z hy;unfold a7c;split
 ·exact ⟨rfl,rfl⟩
 ·split
  ·rename_i h
   rw [c4E,a9z];exact f1 h
  ·rename_i h
   exact f2 h
theorem b7j {x y:GI}(hx:x.wf)(hy:y.wf)(h0:0<y.z):(a7c x y).1.wf∧(a7c x y).2.wf:=by
 unfold a7c;split
 ·rename_i h
  have hx1:=hx.1 h.1;have hy1:=hy.1 h.2.1;obtain ⟨_,_,h3⟩:=h;have hm:=Int.emod_lt_of_pos x.z h0;have hm2:=Int.emod_nonneg x.z (show y.z≠0 by omega);refine ⟨⟨fun _=>?_,fun h=>by cases h⟩,⟨fun _=>⟨by dsimp only;omega,by dsimp only;omega⟩,fun h=>by cases h⟩⟩;dsimp only;have e3:=Int.emod_add_mul_ediv x.z y.z;constructor
  ·rcases Int.lt_or_le (x.z / y.z) (-9223372036854775808) with h|h
   ·exfalso
    have h8:y.z*(x.z / y.z+1)≤1*(x.z / y.z+1):=Int.mul_le_mul_of_nonpos_right (by omega) (by omega);rw [Int.mul_add,Int.mul_one] at h8;omega
   ·exact h
  ·rcases Int.lt_or_le (x.z / y.z) 9223372036854775808 with h|h
   ·exact h
   ·exfalso
    have h5:(1:Int)*(x.z / y.z)≤y.z*(x.z / y.z):=Int.mul_le_mul_of_nonneg_right (by omega) (by omega);omega
 ·split
  ·exact ⟨b9Y _ _,a6h _ _⟩
  ·exact ⟨a0H _,a0H _⟩
theorem b9E (a b:Int)(hb:0<b):a7h (decide (a<0)) (a.natAbs / b.natAbs)=a.tdiv b∧a7h (decide (a<0)) (a.natAbs%b.natAbs)=a.tmod b:=by
 obtain ⟨n,rfl⟩:∃ n:Nat,b=n:=⟨b.natAbs,by omega⟩
 rw [Int.natAbs_natCast]
 by_cases h:a<0
 ·obtain ⟨m,rfl⟩:∃ m:Nat,a = -(m:Int):=⟨a.natAbs,by omega⟩
  rw [decide_eq_true h,Int.natAbs_neg,Int.natAbs_natCast,Int.neg_tdiv,Int.neg_tmod];exact ⟨rfl,rfl⟩
 ·obtain ⟨m,rfl⟩:∃ m:Nat,a=(m:Int):=⟨a.natAbs,by omega⟩
  rw [decide_eq_false h,Int.natAbs_natCast];exact ⟨rfl,rfl⟩
theorem b5E (x y:GI)(hx:x.wf)(hy:y.wf)(h0:0<y.z)(fx:x.few)(fy:y.few)(hn:¬ (x.sm=true∧y.sm=true∧x.z ≠ -9223372036854775808)) :
  a0b C0 197 [x.D,y.D] (.tup [(a7c x y).1.D,(a7c x y).2.D]):=by
 unfold a7c;rw [if_neg hn];refine a0c.walk w1 b4z rfl fun F=>?_
 have cx:=a2M x hx;have cy:=a2M y hy;have cd:=d4X x.z.natAbs y.z.natAbs (by omega) fx fy;obtain ⟨t1,t2⟩:=b9E x.z y.z h0;have lq:(a0e (x.z.natAbs / y.z.natAbs)).length<1000000:=Nat.lt_of_le_of_lt (a0A _ _ (Nat.div_le_self _ _)) fx;have lr:(a0e (x.z.natAbs%y.z.natAbs)).length<1000000:=Nat.lt_of_le_of_lt (a0A _ _ (Nat.mod_le _ _)) fx;have c1:=a5v (decide (x.z<0)) (x.z.natAbs / y.z.natAbs) (Nat.lt_trans lq (by decide));have c2:=a5v (decide (x.z<0)) (x.z.natAbs%y.z.natAbs) (Nat.lt_trans lr (by decide));rw [t1] at c1;rw [t2] at c2;have fq:(mkG (x.z.tdiv y.z)).few:=by
  show (a0e (x.z.tdiv y.z).natAbs).length<1000000;rw [Int.natAbs_tdiv];exact lq
 have fr:(mkG (x.z.tmod y.z)).few:=by
  show (a0e (x.z.tmod y.z).natAbs).length<1000000;rw [Int.natAbs_tmod];exact lr
 have f1:(⟨1,true⟩:GI).few:=by show (a0e 1).length<1000000;rw [a3C (by decide) (by decide)];decide
 have cg:=b0j (mkG (x.z.tmod y.z)) (a0H _);have cs:=d2e (mkG (x.z.tdiv y.z)) ⟨1,true⟩ (a0H _) ⟨fun _=>⟨by decide,by decide⟩,fun h=>by cases h⟩ fq f1;have ca:=b6F (mkG (x.z.tmod y.z)) y (a0H _) hy fr fy;rw [a2B] at cg;have co:a0b C0 156 [i64 1] (⟨1,true⟩:GI).D:=a0b.ev a4c 1000 40 (by kernel_rfl);have hpx:IsPure x.w:=inferInstance;have hpy:IsPure y.w:=inferInstance;have hpq:IsPure (mkG (x.z.tdiv y.z)).w:=inferInstance;have hpr:IsPure (mkG (x.z.tmod y.z)).w:=inferInstance;have hps:IsPure (b9X (mkG (x.z.tdiv y.z)) ⟨1,true⟩).w:=inferInstance;have hpa:IsPure (a7k (mkG (x.z.tmod y.z)) y).w:=inferInstance;have hp1:IsPure (⟨1,true⟩:GI).w:=inferInstance;clear t1 t2 lq lr fq fr f1;dsimp only [GI.D] at *;refine fR 0 ?_;refine OkS.seqW ⟨[(2,.optr 0 0 2 0 0),(3,.optr 1 1 2 0 0),(4,.optr 2 2 2 0 0),(5,.optr 3 3 2 0 0)],[⟨3,3,112,2,[smI 0]⟩,⟨2,2,112,2,[smI 0]⟩,⟨1,1,112,2,[.agg [i64 y.s,y.w]]⟩,⟨0,0,112,2,[.agg [i64 x.s,x.w]]⟩],90⟩ ?_ ?_
 ·obtain ⟨a,sa⟩:=x
  obtain ⟨b,sb⟩:=y;clear cx cy cd c1 c2 cg cs ca co hpq hpr hps hpa hp1;have nx:sa=false→(a0e a.natAbs).map a0h≠[]:=fun h=>a1S (by
   intro h0;subst h;exact hx.2 rfl ⟨by dsimp only;omega,by dsimp only;omega⟩)
  have ny:sb=false→(a0e b.natAbs).map a0h≠[]:=fun h=>a1S (by
   intro h0;subst h;exact hy.2 rfl ⟨by dsimp only;omega,by dsimp only;omega⟩)
  unfold GI.s GI.w wD wL at *;dsimp only at *;generalize (a0e a.natAbs).map a0h=ka at *;generalize (a0e b.natAbs).map a0h=kb at *;cases sa with
  | false =>
   have nx:=nx rfl;dsimp only at *;generalize (if a<0 then (-1:Int) else 1)=sg at *;generalize (match sb with|true=>b|false=>if b<0 then (-1:Int) else 1)=sh at *;generalize (match sb with|true=>a2d|false=>D.sl false 1 kb)=wy at *;refine OkS.seq ?_;refine OkS.reg w1 100 (by kernel_rfl) ?_;refine nwI (ff3 (@ne_eq (List D)) nx not_false_eq_true) ?_;refine gwI kT ?_;refine gwI kT ?_;refine gwI kT ?_;refine ifI ?_;refine skI ?_;exact And.intro (by trivial) (wkI)
  | true =>
   dsimp only at *;cases sb with
   | false =>
    have ny:=ny rfl;dsimp only at *;generalize (if b<0 then (-1:Int) else 1)=sh at *;refine OkS.seq ?_;refine OkS.reg w1 100 (by kernel_rfl) ?_;refine nwI (ff3 (@ne_eq (List D)) ny not_false_eq_true) ?_;refine gwI (ff4 kT (@ne_eq (List D)) ny not_false_eq_true) ?_;refine gwI (ff4 kT (@ne_eq (List D)) ny not_false_eq_true) ?_;refine gwI (ff4 kT (@ne_eq (List D)) ny not_false_eq_true) ?_;refine ifI ?_;refine skI ?_;exact And.intro (by trivial) (wkI)
   | true =>
    have ha:a = -9223372036854775808:=Classical.byContradiction fun h=>hn ⟨rfl,rfl,h⟩
    subst ha;dsimp only at *;refine sZ 100 ?_
    repeat' (first|(refine And.intro (by exact sdI) ?_;refine dsI ?_)|((refine brI (fun hb=>?_) (fun hb=>?_))<;>(try simp only [Bool.not_eq_true',Bool.not_eq_false'] at hb)<;>(try simp only [hb])<;>(refine dsI ?_)))
    refine ifI ?_;refine skI ?_;exact And.intro (by trivial) (wkI)
 ·refine fR 600 ?_
  refine dI cx ?_;refine fR 700 ?_;refine dI cy ?_;refine fR 800 ?_;refine dI cd ?_;refine fR 900 ?_;refine dI c1 ?_;refine dI c2 ?_;refine OkS.seq ?_;refine fR 1000 ?_;refine dI cg ?_
  by_cases h:x.z.tmod y.z<0
  ·have e:decide (max (-1) (min 1 (x.z.tmod y.z))<0)=true:=decide_eq_true (by omega)
   rw [if_pos h,e];refine ifI ?_;refine OkS.regD w1 1100 [0,1,2,3,4] [5,6,7] (by kernel_rfl) ?_;refine nxI ?_;refine a0n.same _ (co) inferInstance ?_;refine nxI ?_;refine a0n.same _ (cs) inferInstance ?_;refine nxI ?_;refine dI ca ?_;refine OkS.seq ?_;refine OkS.regW w1 1200 [0,1,2] [3] 2 [0] (2) (by kernel_rfl) (by kernel_rfl) ?_;refine nxI ?_;refine nxI ?_;refine rtI ?_;exact a0a rfl IsPure.out
  ·have e:decide (max (-1) (min 1 (x.z.tmod y.z))<0)=false:=decide_eq_false (by omega)
   rw [if_neg h,e];refine ifI ?_;refine skI ?_;refine OkS.seq ?_;refine OkS.regW w1 1200 [0,1,2] [3] 2 [0] (2) (by kernel_rfl) (by kernel_rfl) ?_;refine nxI ?_;refine nxI ?_;refine rtI ?_;exact a0a rfl IsPure.out
end Go.Ide
