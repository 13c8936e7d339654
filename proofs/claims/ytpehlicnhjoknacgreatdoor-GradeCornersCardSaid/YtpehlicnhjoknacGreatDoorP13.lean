/- The layer of own lemmas and contracts, part 13. -/
import Derived.Test.YtpehlicnhjoknacGreatDoorP6
import Derived.Shelf.Strconv.Itoa3
import Derived.Lib.ItoaMem
import Derived.Lib.AppendIntMem
import Derived.BigCall
import Derived.BigGuard
import Derived.Test.YtpehlicnhjoknacGreatDoorP3
import Derived.Test.YtpehlicnhjoknacGreatDoorP12
import Derived.Test.YtpehlicnhjoknacGreatDoorP10
import Derived.Test.YtpehlicnhjoknacGreatDoorP11
set_option linter.unusedVariables false
set_option linter.unusedSimpArgs false
namespace Go.Ide
open Go.Proofs Go.RowKit Go.Sort Go.Shelf
section
open Go.Lib
set_option maxHeartbeats 6400000 in
set_option maxRecDepth 100000 in
theorem d6U (u:Nat) (hu64:u<18446744073709551616) (w:World) (htab:Lib.TabIs Tryz.prog w "internal/strconv.uint64pow10" .u64 Lib.pow10Tab) :
  Calls Tryz.prog 223 #[.int .u64 u,.int .i64 10] w fun e w'=>e=.returned (.string ⟨(Lib.decDigits u).toArray⟩)/\∃ k os,w'=grow (w.drewN k) os:=by
 have e283:∀ args w,(callFunc 249 args).run Tryz.prog w=.ok (.enter 249 args) w:=enters_of Tryz.func249 (by kernel_rfl) rfl;have e284:∀ args w,(callFunc 250 args).run Tryz.prog w=.ok (.enter 250 args) w:=enters_of Tryz.func250 (by kernel_rfl) rfl;have e285:∀ args w,(callFunc 251 args).run Tryz.prog w=.ok (.enter 251 args) w:=enters_of Tryz.func251 (by kernel_rfl) rfl
 by_cases hs:u<100
 ·go_enter Tryz.func223,Tryz.ntmps223
  go_wp2_with (go_at_fn 249;refine (Tryz.internal_strconv_small u hs _).mono ?_;rintro e w' ⟨rfl,rfl⟩)
  go_ret
  exact ⟨rfl,0,#[],by simp [World.drewN_zero]⟩
 ·have hu1:1<=u:=by omega
  have hnd20:Lib.nDigits u<=20:=by have:=Lib.numDigits_eq u hu1 hu64;split at this<;>omega
  have hb3:Lib.nDigits u<=24:=by omega
  have hal:Tryz.prog.arrayLen 322=24:=by kernel_rfl
  have hsl1:∀ W,(Instr.sliceAt 322 (.pointer (some ⟨w.heap.size,0,none⟩)) none (some (.int .i64 (Lib.nDigits u:Int))) none).run Tryz.prog W=.ok (.slice (some ⟨w.heap.size,0,none⟩) (Lib.nDigits u) 24) W:=fun W=>by
   rw [run_sliceAt_array_h W 322 ⟨w.heap.size,0,none⟩ (by kernel_rfl) .i64 (Lib.nDigits u:Int) (by omega) (by rw [hal];omega)]
   go_simp
  have hH0:=Lib.holds_zero0 w 322 (Lib.nDigits u) (by omega);have hfmt:=Tryz.internal_strconv_formatBase10 w.heap.size 0 24 u (Array.replicate (Lib.nDigits u) 0) (w.alloc (.cells Lib.zeros24 322)) hH0 (by rw [e2O];exact Lib.lt_pow_nDigits u) hu64 (by rw [e2O];omega);rw [e2O] at hfmt;have HH0:=Lib.hid hH0;clear hH0 hal
  go_enter Tryz.func223,Tryz.ntmps223
  go_wp2_with (first
   | (go_at_fn 250;refine (Tryz.internal_strconv_numDigits u hu1 hu64 _ (Lib.tabIs_alloc htab _)).mono ?_;rintro e w' ⟨rfl,rfl⟩))
  go_at_fn 251
  refine hfmt.mono ?_;rintro e w' ⟨rfl,k,v',dk,rfl,hF⟩;have hcv:(convert 268 9 (.slice (some ⟨w.heap.size,0,none⟩) (Lib.nDigits u) 24)).run Tryz.prog ((putRow (fun (b:UInt8)=>Value.int .u8 (b.toNat:Int)) (w.alloc (.cells Lib.zeros24 322)) w.heap.size 0 dk).drewN k)=.ok (.string ⟨(Lib.decDigits u).toArray⟩) ((putRow (fun (b:UInt8)=>Value.int .u8 (b.toNat:Int)) (w.alloc (.cells Lib.zeros24 322)) w.heap.size 0 dk).drewN k):=by
   have h:=run_convert_bytes_back (P:=Tryz.prog) ((putRow (fun (b:UInt8)=>Value.int .u8 (b.toNat:Int)) (w.alloc (.cells Lib.zeros24 322)) w.heap.size 0 dk).drewN k) 268 9 5 ⟨w.heap.size,0,none⟩ 24 (Lib.decDigits u) (by kernel_rfl) (by kernel_rfl) (by kernel_rfl) (fun j hj=>by
    rw [Lib.row_is_numeral hF j hj,Lib.add_plain,World.cell?_drewN];exact cell?_putRow (fun (b:UInt8)=>Value.int .u8 (b.toNat:Int)) _ w.heap.size 0 _ dk HH0.out (by rw [hF.size,e2O]) j (by rw [hF.size];rw [Lib.decDigits_length] at hj;exact hj))
   rw [Lib.decDigits_length] at h;exact h
  go_wp2
  go_ret
  obtain ⟨os,eo⟩:=Lib.fin_at w (.cells Lib.zeros24 322) dk k 0;exact ⟨rfl,k,os,eo⟩
end
theorem b7s {O:Nat->Prop}{w:World}{v u:Value}{vs:Array Value}(hn:vs.size=2)(h:∀ (i:Nat) (x:D),[D.prim v,.prim u][i]? = some x->Rep nol O w x (vs.getD i undef)):vs = #[v,u]:=by
 match vs,hn with
 | ⟨[a,b]⟩,_ =>
  have h0:=h 0 _ rfl;have h1:=h 1 _ rfl;simp at h0 h1;cases h0;cases h1;rfl
theorem c6Q (u:Nat)(hu:u<18446744073709551616):a0b C0 223 [.prim (.int .u64 (u:Int)),i64 10] (str ⟨(Lib.decDigits u).toArray⟩):=by
 refine ⟨⟨_,_,Tryz.func223,rfl,by kernel_rfl⟩,fun Y w vs hG hnG hX hvs hr=>?_⟩
 have:=b7s hvs hr
 subst this;refine (d6U u hu w hG).mono ?_;rintro e w' ⟨rfl,k,os,rfl⟩;exact ⟨_,_,rfl,Lib.below_grow _ _ (d9y _) _ _,rfl,.prim _⟩
theorem c9u (u:Nat)(hu:u<18446744073709551616):a0b C0 182 [.prim (.int .u64 (u:Int)),i64 10] (str ⟨(Lib.decDigits u).toArray⟩):=by
 refine a0c.walk w1 c4B rfl fun F=>?_
 refine goI dr0 kB (c6Q u hu) d9j d9j d9j d9j d9j ?_;exact a0a rfl IsPure.out
set_option maxRecDepth 20000
theorem rp0:a0b C0 183 [str ⟨#[48]⟩,i64 0] (str ⟨#[]⟩):=d9b a4C 400 20 (by kernel_rfl)
theorem rp1:a0b C0 183 [str ⟨#[48]⟩,i64 1] (str ⟨#[48]⟩):=d9b a4C 400 20 (by kernel_rfl)
theorem rp2:a0b C0 183 [str ⟨#[48]⟩,i64 2] (str ⟨#[48,48]⟩):=d9b a4C 400 20 (by kernel_rfl)
theorem rp3:a0b C0 183 [str ⟨#[48]⟩,i64 3] (str ⟨#[48,48,48]⟩):=d9b a4C 400 20 (by kernel_rfl)
theorem rp4:a0b C0 183 [str ⟨#[48]⟩,i64 4] (str ⟨#[48,48,48,48]⟩):=d9b a4C 400 20 (by kernel_rfl)
theorem rp5:a0b C0 183 [str ⟨#[48]⟩,i64 5] (str ⟨#[48,48,48,48,48]⟩):=d9b a4C 400 20 (by kernel_rfl)
theorem rp6:a0b C0 183 [str ⟨#[48]⟩,i64 6] (str ⟨#[48,48,48,48,48,48]⟩):=d9b a4C 400 20 (by kernel_rfl)
theorem rp7:a0b C0 183 [str ⟨#[48]⟩,i64 7] (str ⟨#[48,48,48,48,48,48,48]⟩):=d9b a4C 400 20 (by kernel_rfl)
theorem rp8:a0b C0 183 [str ⟨#[48]⟩,i64 8] (str ⟨#[48,48,48,48,48,48,48,48]⟩):=d9b a4C 400 20 (by kernel_rfl)
theorem rp9:a0b C0 183 [str ⟨#[48]⟩,i64 9] (str ⟨#[48,48,48,48,48,48,48,48,48]⟩):=d9b a4C 400 20 (by kernel_rfl)
theorem d7s:a0b C0 183 [str ⟨#[48]⟩,i64 10] (str ⟨#[48,48,48,48,48,48,48,48,48,48]⟩):=d9b a4C 400 20 (by kernel_rfl)
theorem d7t:a0b C0 183 [str ⟨#[48]⟩,i64 11] (str ⟨#[48,48,48,48,48,48,48,48,48,48,48]⟩):=d9b a4C 400 20 (by kernel_rfl)
theorem d7u:a0b C0 183 [str ⟨#[48]⟩,i64 12] (str ⟨#[48,48,48,48,48,48,48,48,48,48,48,48]⟩):=d9b a4C 400 20 (by kernel_rfl)
theorem d7v:a0b C0 183 [str ⟨#[48]⟩,i64 13] (str ⟨#[48,48,48,48,48,48,48,48,48,48,48,48,48]⟩):=d9b a4C 400 20 (by kernel_rfl)
theorem d7w:a0b C0 183 [str ⟨#[48]⟩,i64 14] (str ⟨#[48,48,48,48,48,48,48,48,48,48,48,48,48,48]⟩):=d9b a4C 400 20 (by kernel_rfl)
theorem d7x:a0b C0 183 [str ⟨#[48]⟩,i64 15] (str ⟨#[48,48,48,48,48,48,48,48,48,48,48,48,48,48,48]⟩):=d9b a4C 400 20 (by kernel_rfl)
theorem d7y:a0b C0 183 [str ⟨#[48]⟩,i64 16] (str ⟨#[48,48,48,48,48,48,48,48,48,48,48,48,48,48,48,48]⟩):=d9b a4C 400 20 (by kernel_rfl)
theorem d7z:a0b C0 183 [str ⟨#[48]⟩,i64 17] (str ⟨#[48,48,48,48,48,48,48,48,48,48,48,48,48,48,48,48,48]⟩):=d9b a4C 400 20 (by kernel_rfl)
theorem c7M (n:Nat)(h:n<=17):a0b C0 183 [str ⟨#[48]⟩,i64 (n:Int)] (str ⟨(List.replicate n 48).toArray⟩):=by
 match n,h with
 | 0,_=>exact rp0
 | 1,_=>exact rp1
 | 2,_=>exact rp2
 | 3,_=>exact rp3
 | 4,_=>exact rp4
 | 5,_=>exact rp5
 | 6,_=>exact rp6
 | 7,_=>exact rp7
 | 8,_=>exact rp8
 | 9,_=>exact rp9
 | 10,_=>exact d7s
 | 11,_=>exact d7t
 | 12,_=>exact d7u
 | 13,_=>exact d7v
 | 14,_=>exact d7w
 | 15,_=>exact d7x
 | 16,_=>exact d7y
 | 17,_=>exact d7z
 | n+18,h=>omega
set_option maxHeartbeats 8000000
def a5E (q r:Nat):List UInt8:=if q=0 then Lib.decDigits r else List.replicate (18 - (Lib.decDigits r).length) 48++Lib.decDigits r
theorem b5o:Lib.decDigits 0=[48]:=by unfold Lib.decDigits;rfl
theorem b2u (n:Nat):Lib.decDigits n≠[]:=(a1u n).2.2
theorem c3d (q r:Nat):a5E q r≠[]:=by
 unfold a5E;split
 ·exact b2u r
 ·intro h;exact b2u r (List.append_eq_nil_iff.1 h).2
theorem c0v {q r:Nat}(hq:q≠0):a5E q r=a2v 18 r []:=by
 unfold a5E a2v c7z;rw [d9m hq]
 by_cases h:r=0
 ·subst h;rw [b5o,d9l rfl];rfl
 ·rw [d9m h,e0D]
theorem c2l (B q r:Nat)(hB:B=10^18)(hr:r<B):Lib.decDigits (q*B+r)=if q=0 then a5E q r else Lib.decDigits q++a5E q r:=by
 by_cases hq:q=0
 ·subst hq;rw [d9l rfl];unfold a5E;rw [d9l rfl,e2a,d9S]
 ·rw [d9m hq,c0v hq,hB]
  exact b4l 18 q r hq (by rw [<- hB];exact hr)
def a3v (P:List (List UInt8)):List UInt8:=P.reverse.flatten
theorem b0F (P:List (List UInt8))(p:List UInt8):a3v (P++[p])=p++a3v P:=by unfold a3v;simp
theorem c1a (a b:List UInt8):sb a++sb b=sb (a++b):=by
 apply ByteArray.ext;simp [ByteArray.data_append]
theorem b9L {P:List (List UInt8)}(h:∀ p∈P,p≠[]):P.length<=(a3v P).length:=by
 unfold a3v;rw [List.length_flatten,<- List.length_reverse];generalize hQ:P.reverse=Q;have h':∀ p∈Q,p≠[]:=fun p hp=>h p (by rw [<- hQ] at hp;exact List.mem_reverse.1 hp)
 clear hQ h
 induction Q with
 | nil=>exact d9y _
 | cons a r ih =>
  have h1:=ih fun p hp=>h' p (e0t _ hp)
  have h2:a.length≠0:=fun q=>h' a e0T (e0d q)
  rw [e0I,List.sum_cons,d9u];omega
structure b0e (n m:Nat)(P:List (List UInt8)):Prop where
 ne:m≠0->Lib.decDigits n=Lib.decDigits m++a3v P
 eq:m=0->Lib.decDigits n=a3v P
 all:∀ p∈P,p≠[]
 le:m<=n
theorem b0e.len {n m:Nat}{P:List (List UInt8)}(h:b0e n m P):P.length<=(Lib.decDigits n).length:=by
 have h1:=b9L h.all
 by_cases q:m=0
 ·rw [h.eq q];exact h1
 ·rw [h.ne q,d9Z];omega
theorem b0e.step {n m:Nat}{P:List (List UInt8)}{B:Nat}(h:b0e n m P)(hm:m≠0)(hB:B=10^18):b0e n (m / B) (P++[a5E (m / B) (m%B)]):=by
 have hB0:0<B:=by rw [hB];decide
 have hd:=c2l B (m / B) (m%B) hB (e0k _ hB0);rw [show m / B*B+m%B=m by rw [d9O];exact e0X m B] at hd;have hn:=h.ne hm;rw [hd] at hn;refine ⟨fun q=>?_,fun q=>?_,fun p hp=>?_,d9V (e1e _ _) h.le⟩
 ·rw [d9m q] at hn;rw [hn,b0F,e0J]
 ·rw [d9l q] at hn;rw [hn,b0F]
 ·rcases List.mem_append.1 hp with hp|hp
  ·exact h.all p hp
  ·rw [List.mem_singleton] at hp;subst hp;exact c3d _ _
abbrev a2D (P:List (List UInt8)):List D:=P.map fun p=>str (sb p)
theorem b6r (x : GI) (h : x.wf) (hf : x.few) : a0b C0 119 [x.D] (str (sb (Lib.itoa x.z))) := by
  refine a0c.walk w1 c4f rfl fun F => ?_
  obtain ⟨z, sm⟩ := x
  obtain ⟨h1, h2⟩ := h
  have hp := a3L ⟨z, sm⟩ ⟨h1, h2⟩
  dsimp only [GI.D, GI.few] at *
  cases sm with
  | true =>
    obtain ⟨h3, h4⟩ := h1 rfl
    have c : a0b C0 179 [i64 z] (str (sb (Lib.itoa z))) := b4B z h3 (by omega)
    unfold GI.s GI.w
    dsimp only
    refine goI dr0 kB c d9j d9j d9j d9j d9j ?_
    exact a0a rfl IsPure.out
  | false =>
    have hz := h2 rfl
    have hz0 : z.natAbs ≠ 0 := fun q => hz (by have : z = 0 := by omega
                                               subst this; exact a0K rfl)
    have hw : GI.w ⟨z, false⟩ = wD z.natAbs := rfl
    have hs : GI.s ⟨z, false⟩ = if z < 0 then -1 else 1 := rfl
    rw [hw] at hp ⊢
    obtain ⟨sg, hsg⟩ : ∃ s, GI.s ⟨z, false⟩ = s := ⟨_, rfl⟩
    rw [hsg] at hp ⊢
    obtain ⟨B, hB⟩ : ∃ B : Nat, B = 10 ^ 18 := ⟨_, rfl⟩
    have hB1 : B < BB := by rw [hB]; decide
    have hB0 : B ≠ 0 := by rw [hB]; decide
    have hB2 : 1 < B := by rw [hB]; decide
    have hBs : u64 1000000000000000000 = a0k B := by rw [hB]; rfl
    have hBl : a0h B = [B] := a4b hB0 hB1
    obtain ⟨n, hn⟩ : ∃ n, z.natAbs = n := ⟨_, rfl⟩
    obtain ⟨neg, hneg⟩ : ∃ b, decide (z < 0) = b := ⟨_, rfl⟩
    rw [hn] at hp hf hz0 ⊢
    rw [hneg] at hp
    have hit : Lib.itoa z = (if neg then [45] else []) ++ Lib.decDigits n := by
      unfold Lib.itoa
      by_cases q : z < 0
      · rw [d9l q, <- hneg, d9q q, hn]; rfl
      · rw [d9m q, <- hneg, d9p q, <- hn]
        have : z.toNat = z.natAbs := by omega
        rw [this]; rfl
    rw [hit]
    have hDL : (Lib.decDigits n).length <= 27 * 1000000 + 1 := b2v (k := 1000000) (by omega)
    have hmpos : ∀ m : Nat, m ≠ 0 -> decide ((((a0h m).map a0k).length : Int) > 0) = true := fun m hm => d9q (by
      rw [a1E hm, e0I, d9u]; omega)
    have hm0 : decide ((((a0h 0).map a0k).length : Int) > 0) = false := d9p (by rw [a0W]; decide)
    obtain ⟨w0, ws, hws⟩ : ∃ a l, (a0h n).map a0k = a :: l := by
      cases hl : (a0h n).map a0k with
      | nil => exact d9n hl (a2l hz0)
      | cons a l => exact ⟨a, l, rfl⟩
    have hwD : wD n = .sl false 1 (w0 :: ws) := by unfold wD wL; rw [hws]
    have hbD : wD B = .sl false 1 [u64 1000000000000000000] := by unfold wD wL; rw [hBl, hBs]; rfl
    have pw : IsPure (.sl false 1 (w0 :: ws)) := by rw [<- hwD]; exact d9k
    rw [hwD] at hp ⊢
    clear hit h1 h2 hz hs hsg
    have hne : (w0 :: ws ≠ []) = True := eq_true (List.cons_ne_nil _ _)
    refine goI dr0 hne hp d9j d9j d9j d9j d9j ?_
    rw [<- hwD]
    refine OkS.loop (α := Nat × List (List UInt8) × Nat × Nat) (fun p => ⟨[(3, boo neg), (4, wD p.1), (5, wD B), (6, a6g 1303 p.2.2.1 1 (a2D p.2.1))], a5O 1303 p.2.2.1 9 1 (a2D p.2.1), p.2.2.2⟩) (fun p => p.1)
      (fun p => b0e n p.1 p.2.1) (n, [], 0, _) ⟨fun _ => by unfold a3v; simp, fun q => d9n q hz0, fun p hp => d9n hp e0j, d9y _⟩ (by refine ⟨.drop .nil, ⟨.refl _, .refl _, ?_, .refl _, d9j⟩, d9y _⟩; dsimp only; rw [hbD]; exact .nn true 1 _) ?_
    rintro ⟨m, P, g, cnt⟩ F I
    dsimp only at I ⊢
    have hPl := I.len
    rcases Nat.decEq m 0 with hm | hm
    rotate_left
    · subst hm
      have hdn := I.eq rfl
      have hall := I.all
      have hLn : P.length <= 27000001 := by omega
      have hP0 : P ≠ [] := fun q => b2u n (by rw [hdn, q]; rfl)
      obtain ⟨N, hN⟩ : ∃ N, P.length = N := ⟨_, rfl⟩
      have hN0 : N ≠ 0 := fun q => hP0 (e0d (by omega))
      rw [hdn]
      clear hwD hbD pw hp hn hPl I
      have elP : (((a2D P).length : Nat) : Int) = (N : Int) := by rw [d9s, hN]
      have wN : IntKind.i64.wrap ((N : Int) - 1) = ((N : Int) - 1) := wI (by omega) (by omega)
      refine OkS.seq ?_
      refine sZ 600 ?_
      refine nwI hm0 ?_
      refine ifI ?_
      refine exI ?_
      refine OkS.weak ⟨[(3, boo neg), (6, .sl false 1 (a2D P))], [], _⟩ ⟨?_, ⟨.refl _, ?_, d9j⟩, d9y _⟩ ?_
      · have := b1x (K := 1303) (g := g) (T := 9) (sz := 1) (l := a2D P) (r := []) (r' := []) (H := a5O 1303 g 9 1 (a2D P)) (Hf := []) .nil
        rwa [e0D] at this
      · exact b9z _ _ _ _ _
      obtain ⟨c0, hc0⟩ : ∃ c, c = cnt + 1 + 1 + 1 := ⟨_, rfl⟩
      rw [<- hc0]
      refine sR 1500 ?_
      obtain ⟨c1, hc1⟩ : ∃ c, c = c0 + 1 := ⟨_, rfl⟩
      refine d8X (α := D × Nat × Nat) (fun q => ⟨[(6, .sl false 1 (a2D P)), (10, .optr 1500 c0 2 0 0)], bH q.2.1 c0 q.1 (if neg then [45] else []) [], q.2.2⟩) (fun q => q.1 = .prim (.pointer none) \/ q.1 = .optr 1500 c0 2 0 0) ?_ ?_
      · cases neg
        · refine goI dr0 kB d9j d9j d9j d9j d9j d9j ?_
          exact ⟨by trivial, (.prim (.pointer none), 0, _), .inl rfl, wkI⟩
        · refine goI dr0 kB d9j d9j d9j d9j d9j d9j ?_
          refine a0j.own _ (d6y c0 0 _ (.prim (.pointer none)) (.inl rfl) [] [45] (by decide) [] (by decide)) ?_
          rintro d H' n' ⟨⟨g', rfl⟩, hn'⟩
          refine stI ?_
          exact ⟨by trivial, (.optr 1500 c0 2 0 0, g', _), .inr rfl, wkI⟩
      rintro ⟨p0, gb0, c2⟩ hp0
      dsimp only at hp0 ⊢
      obtain ⟨pre, hpre⟩ : ∃ l, (if neg then [45] else [] : List UInt8) = l := ⟨_, rfl⟩
      have hpl : pre.length <= 1 := by rw [<- hpre]; split <;> decide
      rw [hpre]
      refine goI dr0 (ff2 elP @wN) d9j d9j d9j d9j d9j d9j ?_
      refine OkS.loop (α := Nat × D × Nat × Nat) (fun q => ⟨[(6, .sl false 1 (a2D P)), (10, .optr 1500 c0 2 0 0), (11, i64 ((q.1 : Int) - 1))], bH q.2.2.1 c0 q.2.1 (pre ++ a3v (P.drop q.1)) [], q.2.2.2⟩) (fun q => q.1)
        (fun q => q.1 <= N /\ (q.2.1 = .prim (.pointer none) \/ q.2.1 = .optr 1500 c0 2 0 0)) (N, p0, gb0, _) ⟨d9y _, hp0⟩ (by dsimp only; rw [<- hN, e2n]; unfold a3v; rw [List.reverse_nil, List.flatten_nil, e0D]; exact wkI) ?_
      rintro ⟨k, p, gb, c3⟩ F ⟨hk, hp⟩
      dsimp only at hk hp ⊢
      have hjl : ∀ k, (a3v (P.drop k)).length <= (a3v P).length := fun k => by
        unfold a3v
        conv => rhs; rw [<- e0H k P]
        rw [List.reverse_append, List.flatten_append, d9Z]; omega
      have hjP : (a3v P).length <= 27000001 := by rw [<- hdn]; omega
      rcases e0m k with hk0 | hk0
      · subst hk0
        have e1 : decide ((((0 : Nat) : Int) - 1) >= 0) = false := by decide
        rw [e1c]
        have hL : pre ++ a3v P ≠ [] := fun q => by
          have := (List.append_eq_nil_iff.1 q).2
          rw [<- hdn] at this; exact b2u n this
        obtain ⟨L, hLL⟩ : ∃ L, pre ++ a3v P = L := ⟨_, rfl⟩
        rw [hLL] at hL ⊢
        obtain ⟨y, r, hy⟩ := b5k hL
        have hlr : L.length = r.length + 1 := by rw [<- a4L, hy]; rfl
        refine goI dr0 e1 d9j d9j d9j d9j d9j d9j ?_
        refine a0j.own _ (by
          have := fun n => d5Q c0 gb n L hL p []
          unfold bH
          simp only [hy, hlr] at this ⊢
          exact this _) ?_
        rintro d H' n' ⟨rfl, rfl, rfl⟩
        refine goI dr0 kB d9j d9j d9j d9j d9j d9j ?_
        exact a0a rfl IsPure.out
      · obtain ⟨k', rfl⟩ : ∃ k', k = k' + 1 := ⟨k - 1, by omega⟩
        have e1 : decide ((((k' + 1 : Nat) : Int) - 1) >= 0) = true := d9q (by omega)
        have e2 : (((k' + 1 : Nat) : Int) - 1) = (k' : Int) := by omega
        have wk : IntKind.i64.wrap ((k' : Int) - 1) = ((k' : Int) - 1) := wI (by omega) (by omega)
        have e3 : decide ((k' : Int) >= 0) = true := d9q (by omega)
        obtain ⟨t, ht⟩ : ∃ t, P[k']? = some t := a0I (by omega)
        have hm : (a2D P)[k']? = some (str (sb t)) := by rw [d9E, ht]; rfl
        have htn := hall t (d9r ht)
        have hdr : P.drop k' = t :: P.drop (k' + 1) := by
          rw [e0n (List.getElem?_eq_some_iff.1 ht).1, (List.getElem?_eq_some_iff.1 ht).2]
        have hj : pre ++ a3v (P.drop k') = pre ++ a3v (P.drop (k' + 1)) ++ t := by
          rw [hdr, e0J]
          congr 1
          unfold a3v
          rw [List.reverse_cons, List.flatten_append]; simp
        have hlt : (pre ++ a3v (P.drop (k' + 1))).length + t.length <= 100000000 := by
          have h1 := hjl k'
          have h2 : (pre ++ a3v (P.drop k')).length = (pre ++ a3v (P.drop (k' + 1))).length + t.length := by rw [hj, d9Z]
          rw [<- h2, d9Z]; omega
        rw [e2]
        refine goI dr0 (ff2 e3 kN) hm d9j d9j d9j d9j d9j ?_
        refine a0j.own _ (d6y c0 gb _ p hp (pre ++ a3v (P.drop (k' + 1))) t htn [] hlt) ?_
        rintro d H' n' ⟨⟨g', rfl⟩, hn'⟩
        refine stI ?_
        refine goI dr0 wk d9j d9j d9j d9j d9j d9j ?_
        exact ⟨(k', .optr 1500 c0 2 0 0, g', _), ⟨by dsimp only; omega, .inr rfl⟩, by dsimp only; omega, by (dsimp only; rw [hj]; exact wkI)⟩
    have e1 := hmpos m hm
    have c1 := d6g m B hB0 (e0f (a0G m n I.le) hf) (by rw [hBl]; show 1 < 1000000; decide)
    have I2 := I.step hm hB
    obtain ⟨q, hq⟩ : ∃ q, m / B = q := ⟨_, rfl⟩
    obtain ⟨r, hr⟩ : ∃ q, m % B = q := ⟨_, rfl⟩
    have hqm : q < m := by rw [<- hq]; exact e1F (e0r hm) hB2
    have hrB : r < B := by rw [<- hr]; exact e0k _ (e0r hB0)
    rw [hq, hr] at c1 I2
    have hsz := a0x (Lib.decDigits r)
    have hdl : (Lib.decDigits r).length <= 18 := a2c 17 r (by rw [hB] at hrB; exact hrB)
    have hdl1 : (Lib.decDigits r).length ≠ 0 := fun h => b2u r (e0d h)
    refine goI dr0 e1 d9j d9j d9j d9j d9j d9j ?_
    refine cI c1 ?_
    refine sR 800 ?_
    refine d8X (α := Nat) (fun cnt => ⟨[(3, boo neg), (5, wD B), (6, a6g 1303 g 1 (a2D P)), (7, wD q), (9, str (sb (Lib.decDigits r)))], a5O 1303 g 9 1 (a2D P), cnt⟩) (fun _ => True) ?_ ?_
    · rcases Nat.decEq r 0 with h0 | h0
      · have e2 := hmpos r h0
        have hl1 : a0h r = [r] := a4b h0 (e1G hrB hB1)
        have hmm : ((a0h r).map a0k)[0]? = some (u64 (r : Int)) := by rw [hl1]; rfl
        have c2 := c9u r (e1G hrB hB1)
        refine goI dr0 e2 hmm c2 d9j d9j d9j d9j ?_
        exact ⟨by trivial, _, d9j, wkI⟩
      · subst h0
        rw [b5o]
        refine goI dr0 hm0 d9j d9j d9j d9j d9j d9j ?_
        exact ⟨by trivial, _, d9j, wkI⟩
    rintro cnt2 -
    refine d8X (α := Nat) (fun cnt => ⟨[(3, boo neg), (5, wD B), (6, a6g 1303 g 1 (a2D P)), (7, wD q), (9, str (sb (a5E q r)))], a5O 1303 g 9 1 (a2D P), cnt⟩) (fun _ => True) ?_ ?_
    · rcases Nat.decEq q 0 with h0 | h0
      · have e2 := hmpos q h0
        have c2 : a0b C0 183 [str ⟨#[48]⟩, i64 ((18 - (Lib.decDigits r).length : Nat) : Int)] (str (sb (List.replicate (18 - (Lib.decDigits r).length) 48))) := c7M (18 - (Lib.decDigits r).length) (by omega)
        have w18 : IntKind.i64.wrap (18 - ((Lib.decDigits r).length : Int)) = ((18 - (Lib.decDigits r).length : Nat) : Int) := by rw [wI (by omega) (by omega)]; omega
        have hap := c1a (List.replicate (18 - (Lib.decDigits r).length) 48) (Lib.decDigits r)
        have hsz2 := a0x (List.replicate (18 - (Lib.decDigits r).length) 48)
        have hpt : List.replicate (18 - (Lib.decDigits r).length) 48 ++ Lib.decDigits r = a5E q r := by unfold a5E; rw [d9m h0]
        rw [hpt] at hap
        have hsize : (sb (List.replicate (18 - (Lib.decDigits r).length) 48)).size + (sb (Lib.decDigits r)).size <= 9223372036854775807 := by
          rw [hsz, hsz2, e1E]; omega
        refine goI dr0 (ff4 e2 hsz w18 hap) c2 d9j d9j d9j d9j d9j ?_
        exact ⟨by trivial, _, d9j, wkI⟩
      · subst h0
        have hpt : a5E 0 r = Lib.decDigits r := d9l rfl
        rw [hpt]
        refine goI dr0 hm0 d9j d9j d9j d9j d9j d9j ?_
        exact ⟨by trivial, _, d9j, wkI⟩
    rintro cnt3 -
    have hsn : a2D (P ++ [a5E q r]) = a2D P ++ [str (sb (a5E q r))] := by unfold a2D; rw [e0Q]; rfl
    have hPL : (a2D P).length = P.length := d9s ..
    rcases hPD : a2D P with _ | ⟨y, l⟩
    all_goals
      rw [hPD] at hsn hPL
      dsimp only [a2a, a2b, a1B, a1C, List.nil_append]
    · refine goI dr0 kB d9j d9j d9j d9j d9j d9j ?_
      exact ⟨(q, P ++ [a5E q r], _, _), I2, hqm, by (dsimp only; rw [hsn]; exact wkI)⟩
    · have htk : List.take (l.length + 1) (y :: l) = y :: l := by simp
      have hll : l.length + 1 <= 27000001 := by rw [d9u] at hPL; omega
      refine goI dr0 htk d9j d9j d9j d9j d9j d9j ?_
      exact ⟨(q, P ++ [a5E q r], _, _), I2, hqm, by (dsimp only; rw [hsn, a2s]; exact wkI)⟩
abbrev b8K:Dr:=[(3,[0,1,2,3,4,5,6],[7,8])]
open Go.Proofs Go.RowKit
set_option maxRecDepth 20000
set_option maxHeartbeats 4000000
theorem d2o {r:Rat}{x:GF}{k:Nat}(h:FR r x k)(hk:k<100000):x.n.wf/\x.n.few/\(mkG (x.d:Int)).wf/\(mkG (x.d:Int)).few/\x.n.z=r.num/\x.d=r.den/\0<x.d :=
 ⟨h.is.1,h.fn (by omega),a1d _,by
  show (a0h ((x.d:Int)).natAbs).length<1000000;rw [e0B];have:=h.ld;omega,h.is.2.1,h.is.2.2,h.dpos⟩
theorem c5Z {r:Rat}{x:GF}{k:Nat}(h:FR r x k)(hk:k<100000):a0b C0 55 [x.D] (str (sb (txt r))):=by
 refine a0c.walk w1 d1X rfl fun F=>?_
 obtain ⟨h1,h2,h3,h4,h5,h6,h7⟩:=d2o h hk;have c0:=b9I x h7;have c1:=b6r x.n h1 h2;have c2:=b6r (mkG (x.d:Int)) h3 h4;have hd:Lib.itoa (mkG (x.d:Int)).z=Lib.decDigits r.den:=by
  show Lib.itoa (x.d:Int)=_;unfold Lib.itoa;rw [d9m (by omega),h6];rfl
 rw [hd] at c2;rw [h5] at c1;have l1:(Lib.itoa r.num).length<=27000002:=by
  have:(Lib.decDigits x.n.z.natAbs).length<=27*1000000+1:=b2v (k:=1000000) (by unfold GI.few at h2;omega)
  rw [h5] at this;unfold Lib.itoa;split
  ·rw [d9u];omega
  ·rw [show r.num.toNat=r.num.natAbs by omega];omega
 have l2:(Lib.decDigits r.den).length<=27000001:=by
  have:(Lib.decDigits (mkG (x.d:Int)).z.natAbs).length<=27*1000000+1:=b2v (k:=1000000) (by unfold GI.few at h4;omega)
  rw [<- h6];exact this
 have s1:=a0x (Lib.itoa r.num);have s2:=a0x (Lib.decDigits r.den);have s3:(sb [47]).size=1:=rfl;have s4:=a0x (Lib.itoa r.num++[47]);have z1:(sb (Lib.itoa r.num)).size+(sb [47]).size<=9223372036854775807:=by rw [s1,s3];omega
 have z2:(sb (Lib.itoa r.num++[47])).size+(sb (Lib.decDigits r.den)).size<=9223372036854775807:=by rw [s4,s2,d9Z,e1a];omega
 have a1:sb (Lib.itoa r.num)++(⟨#[47]⟩:ByteArray)=sb (Lib.itoa r.num++[47]):=c1a _ [47];have a2:=c1a (Lib.itoa r.num++[47]) (Lib.decDigits r.den);rw [e0J] at a2;dsimp only [GI.D,GF.D] at c0 c1 c2 ⊢;generalize mkG (x.d:Int)=y at c0 c2 ⊢;unfold txt
 by_cases g:x.d=1
 ·rw [d9q g] at c0
  rw [d9l (h6 ▸ g)];refine goI b8K kB c0 c1 d9j d9j d9j d9j ?_;exact a0a rfl IsPure.out
 ·rw [d9p g] at c0
  rw [d9m (fun q=>g (h6.trans q))];refine goI b8K (ff2 a1 a2) c0 c1 c2 d9j d9j d9j ?_;exact a0a rfl IsPure.out
set_option maxHeartbeats 4000000
def b3O {α:Type}(f:α->Nat):List α->Nat
 | []=>0
 | a::r=>if f a≠0 then f a else b3O f r
theorem b2M {α:Type}{f:α->Nat}{l:List α}{i:Nat}(ha:∀ (j:Nat) (y:α),j<i->l[j]? = some y->f y=0):b3O f l=b3O f (l.drop i):=by
 induction l generalizing i with
 | nil=>simp
 | cons a r ih =>
  cases i with
  | zero=>rfl
  | succ i =>
   have h0:=ha 0 a (by omega) rfl;show (if f a≠0 then f a else b3O f r)=_;rw [d9m (fun k=>k h0),e2f];exact ih fun j y hj hy=>ha (j+1) y (by omega) hy
theorem b1v {α:Type}{f:α->Nat}{v:List α}{i:Nat}{l:α}(ha:∀ (j:Nat) (y:α),j<i->v[j]? = some y->f y=0)(hl:v[i]? = some l)(h:f l≠0):b3O f v=f l:=by
 rw [b2M ha,e0n (List.getElem?_eq_some_iff.1 hl).1,(List.getElem?_eq_some_iff.1 hl).2];exact d9l h
theorem a8a {α:Type}{f:α->Nat}{v:List α}(ha:∀ (j:Nat) (y:α),j<v.length->v[j]? = some y->f y=0):b3O f v=0:=by
 rw [b2M (i:=v.length) ha,e2n];rfl
theorem b2N {α:Type}{f:α->Nat}{v:List α}(h:b3O f v=0):∀ l∈v,f l=0:=by
 induction v with
 | nil=>intro l hl;cases hl
 | cons a r ih =>
  have h':(if f a≠0 then f a else b3O f r)=0:=h
  by_cases g:f a=0
  ·rw [d9m (fun k=>k g)] at h'
   intro l hl;rcases d9F.1 hl with rfl|h2
   ·exact g
   ·exact ih h' l h2
  ·rw [d9l g] at h';exact d9n h' g
theorem d6T:a0b C0 72 [i64 0] (⟨mkG 0,1⟩:GF).D:=d6i 0
def S40 (v:List (List UInt8)):Prop:=∀ l∈v,l.length<=40
def G40 (s:a1c):Prop:=∀ g∈s.gs,S40 g.least/\S40 g.most
def a5C:Rat:=⟨1,2,by decide,by decide⟩
def d5i:GF:=b7d (mkG 1) (mkG 2)
theorem c7b:FR a5C d5i 1:=by
 refine ⟨?_,⟨a1b (k:=1) (by decide),a1b (k:=1) (by decide)⟩⟩
 have:=c2P (mkG 1) (mkG 2) (a1d _) (by rw [a3U];decide)
 rw [a3U,a3U] at this;have e:Rat.divInt 1 2=a5C:=by kernel_rfl
 rw [e] at this;exact this
def two (a b:Nat):Nat:=if a≠0 then a else b
theorem c9e (v:List (List UInt8))(b:Bool)(hl:v.length<=1000000)(hf:∀ l∈v,l.length<=100000):a0b C0 208 [.clo (.func 82) [] [],txD b v] (i64 (b3O chk v:Nat)):=by
 refine a0c.walk w1 c4N rfl fun F=>?_
 have el:(((v.map fun l=>str (sb l)).length:Nat):Int)=(v.length:Int):=by rw [d9s]
 refine goI dr0 el d9j d9j d9j d9j d9j d9j ?_;refine OkS.loop (α:=Nat × Nat) (fun p=>⟨[(0,.clo (.func 82) [] []),(8,txD b v),(9,i64 (v.length:Int)),(10,i64 (p.1:Int))],[],p.2⟩) (fun p=>v.length - p.1)
  (fun p=>p.1<=v.length/\∀ (j:Nat) (l:List UInt8),j<p.1->v[j]? = some l->chk l=0) (0,_) ⟨d9U _,fun j r hj=>d9n hj (e0L j)⟩ wkI ?_
 rintro ⟨i,m⟩ F ⟨hi,ha⟩;dsimp only at hi ha ⊢;rcases d9H i v.length with h2|h2
 ·have e1:=ltT h2
  have wi:=wiI (i:=i) (by omega);obtain ⟨l,hl2⟩:=a0I h2;have hm:(v.map fun l=>str (sb l))[i]? = some (str (sb l)):=by rw [d9E,hl2];rfl
  have c:=a6m l (hf l (d9r hl2));rcases Nat.decEq (chk l) 0 with h3|h3
  ·have e2:=b3N h3
   rw [b1v ha hl2 h3];refine goI dr0 (ff3 e1 e2 kN) hm c d9j d9j d9j d9j ?_;exact a0a rfl IsPure.out
  ·have e2:=b4c h3
   refine goI dr0 (ff4 e1 e2 wi kN) hm c d9j d9j d9j d9j ?_;exact ⟨(i+1,_),⟨h2,a3q hl2 ha h3⟩,by dsimp only;omega,wkI⟩
 ·have e1:=ltF h2
  have:i=v.length:=by omega
  subst this;rw [a8a ha];refine goI dr0 e1 d9j d9j d9j d9j d9j d9j ?_;exact a0a rfl IsPure.out
abbrev c2t:Dr:=[(1,[0,1,2,3,4],[5,6,7])]
open Go.Proofs Go.RowKit
set_option maxRecDepth 20000
set_option maxHeartbeats 4000000
structure SpT where
 lo:List UInt8
 hi:List UInt8
def SpT.D (s:SpT):D:=.agg [str (sb s.lo),str (sb s.hi)]
instance  (s:SpT):CellsPure s.D:=by unfold SpT.D;exact d9k
instance  (s:SpT):IsPure s.D:=by unfold SpT.D;exact d9k
def SpT.few (s:SpT):Prop:=s.lo.length<=100000/\s.hi.length<=100000
def a4l (s:SpT):Nat:=if two (chk s.lo) (chk s.hi)≠0 then two (chk s.lo) (chk s.hi) else if a1H (a0e s.lo) (a0e s.hi)>0 then 11 else 0
def a4W (x y:GF):D:=.agg [i64 x.n.s,x.n.w,i64 (mkG (x.d:Int)).s,(mkG (x.d:Int)).w,i64 y.n.s,y.n.w,i64 (mkG (y.d:Int)).s,(mkG (y.d:Int)).w]
instance  (x y:GF):CellsPure (a4W x y):=by unfold a4W;exact d9k
instance  (x y:GF):IsPure (a4W x y):=by unfold a4W;exact d9k
theorem c6W (a b:List UInt8):b3O chk [a,b]=two (chk a) (chk b):=by
 show (if chk a≠0 then chk a else if chk b≠0 then chk b else 0)=(if chk a≠0 then chk a else chk b);split
 ·rfl
 ·split<;>omega
theorem mOf (s:SpT)(hs:s.few)(h1:chk s.lo=0)(h2:chk s.hi=0):a0b C0 213 [s.D] (a4W (a0p s.lo) (a0p s.hi)):=by
 refine a0c.walk w1 c4R rfl fun F=>?_
 have d1:=a7u hs.1 h1;have d2:=a7u hs.2 h2;unfold SpT.D a4W;unfold GF.D at d1 d2;generalize a0p s.lo=A at *;generalize a0p s.hi=B at *;have p1:IsPure A.n.w:=d9k;have p2:IsPure B.n.w:=d9k;generalize mkG (A.d:Int)=A2 at *;generalize mkG (B.d:Int)=B2 at *;refine goI c2t kB d1 d2 d9j d9j d9j d9j ?_;exact a0a rfl IsPure.out
theorem b0H (s:SpT)(hs:s.few):a0b C0 167 [s.D] (i64 (a4l s:Nat)):=by
 refine a0c.walk w1 c4x rfl fun F=>?_
 have c1:=c9e [s.lo,s.hi] true (by simp) (by simp;exact hs);rw [c6W] at c1;have hab:two (chk s.lo) (chk s.hi)=0->chk s.lo=0/\chk s.hi=0:=by unfold two;split<;>omega
 have co:=mOf s hs;have hq:a4l s=if two (chk s.lo) (chk s.hi)≠0 then two (chk s.lo) (chk s.hi) else if a1H (a0e s.lo) (a0e s.hi)>0 then 11 else 0:=rfl
 rw [hq];unfold SpT.D at *;generalize two (chk s.lo) (chk s.hi)=K at *;rcases Nat.decEq K 0 with g|g
 ·have e1:=b3N g
  rw [d9l (g:K≠0)];refine goI dr0 e1 c1 d9j d9j d9j d9j d9j ?_;exact a0a rfl IsPure.out
 have e1:=b4c g;rw [d9m (fun h:K≠0=>h g)];obtain ⟨g1,g2⟩:=hab g;have co:=co g1 g2;have cc:=b0r (a3H g1) (a3H g2) (by decide);unfold a4W at co;unfold GF.D at cc;generalize a0p s.lo=A at *;generalize a0p s.hi=B at *;have p1:IsPure A.n.w:=d9k;have p2:IsPure B.n.w:=d9k;generalize mkG (A.d:Int)=A2 at *;generalize mkG (B.d:Int)=B2 at *
 by_cases g3:a1H (a0e s.lo) (a0e s.hi)>0
 ·have e2:decide (a1H (a0e s.lo) (a0e s.hi)>0)=true:=d9q g3
  rw [d9l g3];refine goI dr0 (ff2 e1 e2) c1 co cc d9j d9j d9j ?_;exact a0a rfl IsPure.out
 ·have e2:decide (a1H (a0e s.lo) (a0e s.hi)>0)=false:=d9p g3
  rw [d9m g3];refine goI dr0 (ff2 e1 e2) c1 co cc d9j d9j d9j ?_;exact a0a rfl IsPure.out
abbrev spD (b:Bool)(v:List SpT):D:=.sl b 2 (v.map SpT.D)
def c8w (v:List SpT):Prop:=v.length<=100000/\∀ s∈v,s.few
theorem b0i {s:SpT}(h:a4l s=0):chk s.lo=0/\chk s.hi=0/\¬ a1H (a0e s.lo) (a0e s.hi)>0:=by
 unfold a4l at h;split at h
 ·rename_i g;exact d9n h g
 ·rename_i g
  split at h
  ·cases h
  ·rename_i g2
   have g3:two (chk s.lo) (chk s.hi)=0:=by omega
   unfold two at g3;split at g3<;>exact ⟨by omega,by omega,g2⟩
theorem d3F (v:List SpT)(b:Bool)(hl:v.length<=1000000)(hf:∀ l∈v,l.few):a0b C0 214 [.clo (.func 167) [] [],spD b v] (i64 (b3O a4l v:Nat)):=by
 refine a0c.walk w1 c4S rfl fun F=>?_
 have el:(((v.map SpT.D).length:Nat):Int)=(v.length:Int):=by rw [d9s]
 refine goI dr0 el d9j d9j d9j d9j d9j d9j ?_;refine OkS.loop (α:=Nat × Nat) (fun p=>⟨[(0,.clo (.func 167) [] []),(8,spD b v),(9,i64 (v.length:Int)),(10,i64 (p.1:Int))],[],p.2⟩) (fun p=>v.length - p.1)
  (fun p=>p.1<=v.length/\∀ (j:Nat) (l:SpT),j<p.1->v[j]? = some l->a4l l=0) (0,_) ⟨d9U _,fun j r hj=>d9n hj (e0L j)⟩ wkI ?_
 rintro ⟨i,m⟩ F ⟨hi,ha⟩;dsimp only at hi ha ⊢;rcases d9H i v.length with h2|h2
 ·have e1:=ltT h2
  have wi:=wiI (i:=i) (by omega);obtain ⟨l,hl2⟩:=a0I h2;have hm:(v.map SpT.D)[i]? = some (.agg [str (sb l.lo),str (sb l.hi)]):=by rw [d9E,hl2];rfl
  have c:=b0H l (hf l (d9r hl2));unfold SpT.D at c;rcases Nat.decEq (a4l l) 0 with h3|h3
  ·have e2:=b3N h3
   rw [b1v ha hl2 h3];refine goI dr0 (ff3 e1 e2 kN) hm c d9j d9j d9j d9j ?_;exact a0a rfl IsPure.out
  ·have e2:=b4c h3
   refine goI dr0 (ff4 e1 e2 wi kN) hm c d9j d9j d9j d9j ?_;exact ⟨(i+1,_),⟨h2,a3q hl2 ha h3⟩,by dsimp only;omega,wkI⟩
 ·have e1:=ltF h2
  have:i=v.length:=by omega
  subst this;rw [a8a ha];refine goI dr0 e1 d9j d9j d9j d9j d9j d9j ?_;exact a0a rfl IsPure.out
theorem c6Y (v:List SpT)(b:Bool)(hl:v.length<=1000000)(hf:∀ l∈v,l.few):a0b C0 97 [spD b v] (i64 (b3O a4l v:Nat)):=by
 refine a0c.walk w1 d2m rfl fun F=>?_
 have el:(((v.map SpT.D).length:Nat):Int)=(v.length:Int):=by rw [d9s]
 refine goI dr0 el d9j d9j d9j d9j d9j d9j ?_;refine OkS.loop (α:=Nat × Nat) (fun p=>⟨[(6,spD b v),(7,i64 (v.length:Int)),(8,i64 (p.1:Int))],[],p.2⟩) (fun p=>v.length - p.1)
  (fun p=>p.1<=v.length/\∀ (j:Nat) (l:SpT),j<p.1->v[j]? = some l->a4l l=0) (0,_) ⟨d9U _,fun j r hj=>d9n hj (e0L j)⟩ wkI ?_
 rintro ⟨i,m⟩ F ⟨hi,ha⟩;dsimp only at hi ha ⊢;rcases d9H i v.length with h2|h2
 ·have e1:=ltT h2
  have wi:=wiI (i:=i) (by omega);obtain ⟨l,hl2⟩:=a0I h2;have hm:(v.map SpT.D)[i]? = some (.agg [str (sb l.lo),str (sb l.hi)]):=by rw [d9E,hl2];rfl
  have c:=b0H l (hf l (d9r hl2));unfold SpT.D at c;rcases Nat.decEq (a4l l) 0 with h3|h3
  ·have e2:=b3N h3
   rw [b1v ha hl2 h3];refine goI dr0 (ff3 e1 e2 kN) hm c d9j d9j d9j d9j ?_;exact a0a rfl IsPure.out
  ·have e2:=b4c h3
   refine goI dr0 (ff4 e1 e2 wi kN) hm c d9j d9j d9j d9j ?_;exact ⟨(i+1,_),⟨h2,a3q hl2 ha h3⟩,by dsimp only;omega,wkI⟩
 ·have e1:=ltF h2
  have:i=v.length:=by omega
  subst this;rw [a8a ha];refine goI dr0 e1 d9j d9j d9j d9j d9j d9j ?_;exact a0a rfl IsPure.out
set_option maxHeartbeats 8000000
instance:Inhabited SpT:=⟨⟨[],[]⟩⟩
open Go.ChangeShapes Go.WideShapes
section
variable {H:Type} {enc:TypeId × Value->H} {W:World} {fuel:Nat} {cs:List Value} {x:DataW H × List MemPlace} {t:TypeId}
theorem c7K (h:DataW.trod enc Tryz.prog W 0 (fun _=>true) true fuel 40 cs=some x):∃ s:SpT,a6O W cs s.D.cells/\True:=by
 obtain ⟨h1,n,h2⟩:=c0O (l:=[(38,0,1),(38,1,1)]) (m:=2) (by kernel_rfl) (by kernel_rfl) h;obtain ⟨y0,k0⟩:=h2 0 _ _ _ rfl;obtain ⟨y1,k1⟩:=h2 1 _ _ _ rfl;obtain ⟨a0,r0,_⟩:=b3w k0;obtain ⟨a1,r1,_⟩:=b3w k1;exact ⟨⟨a0,a1⟩,b3v h1 (a9p (b:=1) (c:=1) r0 r1),trivial⟩
theorem c3m (h:DataW.trod enc Tryz.prog W 0 (fun _=>true) true fuel 26 cs=some x):∃ l:List SpT,a6O W cs [spD false l]/\(∀ a∈l,True)/\l.length<=maxLen :=
 c3l (g:=SpT.D) (ok:=fun _=>True) (e:=40) (sz:=2) (by kernel_rfl) (by kernel_rfl) (by decide) (fun _ _ _ h=>c7K h) h
end
abbrev a8C:Dr:=[(5,[0,1,2,3,4,5,6,7],[8])]
open Go.Proofs Go.RowKit
set_option maxRecDepth 20000
set_option maxHeartbeats 4000000
noncomputable def X5:EV:=⟨tbt.get,xbt.get,fbt.get,fun _=>false,fun _ _=>none,mtA,b7R⟩
theorem d6C:a9R C0 X5:=⟨tab,b4V,ftab,fun _ _ _ h=>by simp [X5] at h,by kernel_rfl,b3i,a5V⟩
theorem c9g (a b:Rat) : -1<=a1H a b/\a1H a b<=1:=by
 unfold a1H;split
 ·decide
 ·split<;>decide
namespace PickW
theorem w1:WOk C0 X5:=d6C.w
theorem pick_ok {a b:Rat}{x y:GF}{i j:Nat}(hx:FR a x i)(hy:FR b y j)(hk:i+j<300000)(sg:Int)(hs:sg=1\/sg = -1):a0b C0 116 [x.D,y.D,i64 sg] (if a1H a b*sg>=0 then x.D else y.D):=by
 refine a0c.walk w1 c4e rfl fun F=>?_
 have cc:=b0r hx hy hk;have hb:=c9g a b;have hw:IntKind.i64.wrap (a1H a b*sg)=a1H a b*sg:=by
  rcases hs with rfl|rfl
  ·exact wI (by omega) (by omega)
  ·exact wI (by omega) (by omega)
 generalize a1H a b=K at *;unfold GF.D at *;have p1:IsPure x.n.w:=d9k;have p2:IsPure y.n.w:=d9k;generalize mkG (x.d:Int)=X2 at *;generalize mkG (y.d:Int)=Y2 at *;obtain ⟨p,hp⟩:∃ p,decide (K*sg>=0)=p:=⟨_,rfl⟩
 refine sR 0 ?_;refine OkS.seq ?_;refine sZ 100 ?_;refine gwI kN ?_;refine a0j.same _ cc d9k ?_;cases p
 ·rw [d9m (d9I hp)]
  refine gwI (ff2 hw hp) ?_;refine ifI ?_;refine skI ?_;refine sR 300 ?_;refine rtI ?_;exact a0a rfl IsPure.out
 ·rw [d9l (d9N hp)]
  refine gwI (ff2 hw hp) ?_;refine ifI ?_;refine sR 200 ?_;refine rtI ?_;exact a0a rfl IsPure.out
end PickW
def a7h (a b:List UInt8)(s:SpT):SpT:=⟨if decide (a≠[])&&decide (a1H (a0e s.lo) (a0e a)<0) then a else s.lo,if decide (b≠[])&&decide (a1H (a0e s.hi) (a0e b)>0) then b else s.hi⟩
def c5x (a b:List UInt8)(s:SpT):Bool:=decide (a1H (a0e (a7h a b s).lo) (a0e (a7h a b s).hi)<=0)
def spF (s:SpT):D:=a4W (a0p s.lo) (a0p s.hi)
instance  (s:SpT):CellsPure (spF s):=by unfold spF;exact d9k
instance  (s:SpT):IsPure (spF s):=by unfold spF;exact d9k
theorem b1C {a b:List UInt8}{s:SpT}(ha:a2x a=0)(hb:a2x b=0)(h1:chk s.lo=0)(h2:chk s.hi=0):chk (a7h a b s).lo=0/\chk (a7h a b s).hi=0:=by
 unfold a7h;constructor
 ·dsimp only
  split
  ·rename_i h
   rw [d9B,e0l] at h;exact a2O ha h.1
  ·exact h1
 ·dsimp only
  split
  ·rename_i h
   rw [d9B,e0l] at h;exact a2O hb h.1
  ·exact h2
theorem a9J (a b:List UInt8)(s:SpT)(ha:a2x a=0)(hb:a2x b=0)(h1:chk s.lo=0)(h2:chk s.hi=0):a0b C0 54 [a3w a b,spF s] (.tup [spF (a7h a b s),boo (c5x a b s)]):=by
 refine a0c.walk w1 d1W rfl fun F=>?_
 obtain ⟨z1,z2⟩:=b1C ha hb h1 h2;have cc:=b0r (a3H z1) (a3H z2) (by decide);have hB:c5x a b s=decide (a1H (a0e (a7h a b s).lo) (a0e (a7h a b s).hi)<=0):=rfl;have hl:(a7h a b s).lo=if decide (a≠[])&&decide (a1H (a0e s.lo) (a0e a)<0) then a else s.lo:=rfl
 have hh:(a7h a b s).hi=if decide (b≠[])&&decide (a1H (a0e s.hi) (a0e b)>0) then b else s.hi:=rfl
 have c1:a≠[]->a0b C0 116 [(a0p s.lo).D,(a5o a).D,i64 1] (if a1H (a0e s.lo) (a0e a)*1>=0 then (a0p s.lo).D else (a5o a).D):=fun h=>PickW.pick_ok (a3H h1) (a7e ha h) (by decide) 1 (.inl rfl)
 have c2:b≠[]->a0b C0 116 [(a0p s.hi).D,(a5o b).D,i64 (-1)] (if a1H (a0e s.hi) (a0e b)*(-1)>=0 then (a0p s.hi).D else (a5o b).D):=fun h=>PickW.pick_ok (a3H h2) (a7e hb h) (by decide) (-1) (.inr rfl)
 unfold spF;rw [hB];generalize a7h a b s=T at *;obtain ⟨u,hu⟩:∃ p,decide (a1H (a0e s.lo) (a0e a)<0)=p:=⟨_,rfl⟩
 obtain ⟨q,hq⟩:∃ p,decide (a1H (a0e s.hi) (a0e b)>0)=p:=⟨_,rfl⟩
 obtain ⟨R,hR⟩:∃ p,decide (a1H (a0e T.lo) (a0e T.hi)<=0)=p:=⟨_,rfl⟩
 have e1:a≠[]->(if a1H (a0e s.lo) (a0e a)*1>=0 then (a0p s.lo).D else (a5o a).D)=(a0p T.lo).D:=fun h=>by
  rw [hl,d9q h,hu,e1b];unfold a5o;rw [d9m h];cases u
  ·rw [d9l (by have:=d9I hu;omega),d9m (by decide)]
  ·rw [d9m (by have:=d9N hu;omega),d9l rfl]
 have e2:b≠[]->(if a1H (a0e s.hi) (a0e b)*(-1)>=0 then (a0p s.hi).D else (a5o b).D)=(a0p T.hi).D:=fun h=>by
  rw [hh,d9q h,hq,e1b];unfold a5o;rw [d9m h];cases q
  ·rw [d9l (by have:=d9I hq;omega),d9m (by decide)]
  ·rw [d9m (by have:=d9N hq;omega),d9l rfl]
 have c1:a≠[]->a0b C0 116 [(a0p s.lo).D,(a5o a).D,i64 1] (a0p T.lo).D:=fun h=>e1 h ▸ c1 h
 have c2:b≠[]->a0b C0 116 [(a0p s.hi).D,(a5o b).D,i64 (-1)] (a0p T.hi).D:=fun h=>e2 h ▸ c2 h
 have i1:a=[]->a0p T.lo=a0p s.lo:=fun h=>by rw [hl,d9p (fun k=>k h)];rfl
 have i2:b=[]->a0p T.hi=a0p s.hi:=fun h=>by rw [hh,d9p (fun k=>k h)];rfl
 clear e1 e2 hl hh hu hq hB;unfold a3w c7j a4W;unfold GF.D at *;have c1:=fun h:decide (a=[])=false=>c1 (d9I h)
 have c2:=fun h:decide (b=[])=false=>c2 (d9I h)
 have i1:=fun h:decide (a=[])=true=>i1 (d9N h)
 have i2:=fun h:decide (b=[])=true=>i2 (d9N h)
 generalize decide (a=[])=p1 at *;generalize decide (b=[])=p2 at *;rw [hR];generalize a1H (a0e T.lo) (a0e T.hi)=K at *;generalize a0p T.lo=A at *;generalize a0p T.hi=B at *;generalize a0p s.lo=A1 at *;generalize a0p s.hi=B1 at *;generalize a5o a=A3 at *;generalize a5o b=B3 at *;have q1:IsPure A.n.w:=d9k;have q2:IsPure B.n.w:=d9k;have q3:IsPure A1.n.w:=d9k;have q4:IsPure B1.n.w:=d9k;have q5:IsPure A3.n.w:=d9k;have q6:IsPure B3.n.w:=d9k;have j1:p1=true->mkG (A.d:Int)=mkG (A1.d:Int):=fun h=>by rw [i1 h]
 have j2:p2=true->mkG (B.d:Int)=mkG (B1.d:Int):=fun h=>by rw [i2 h]
 generalize mkG (A.d:Int)=A2 at *;generalize mkG (B.d:Int)=B2 at *;generalize mkG (A1.d:Int)=A12 at *;generalize mkG (B1.d:Int)=B12 at *;generalize mkG (A3.d:Int)=A32 at *;generalize mkG (B3.d:Int)=B32 at *;refine sR 0 ?_;refine d8X (α:=Nat) (fun n=>⟨[(2,.optr 0 0 10 0 0),(3,.optr 1 1 8 0 0),(4,.optr 2 2 8 0 0)],[⟨2,2,118,8,[.agg [i64 0,a1w,i64 0,a1w,i64 0,a1w,i64 0,a1w]]⟩,⟨1,1,118,8,[.agg [i64 A.n.s,A.n.w,i64 A2.s,A2.w,i64 B1.n.s,B1.n.w,i64 B12.s,B12.w]]⟩,
   ⟨0,0,123,10,[.agg [boo p1,i64 A3.n.s,A3.n.w,i64 A32.s,A32.w,boo p2,i64 B3.n.s,B3.n.w,i64 B32.s,B32.w]]⟩],n⟩) (fun _=>True) ?_ ?_
 ·cases p1
  ·have c1:=c1 rfl
   refine goI a8C kB c1 d9j d9j d9j d9j d9j ?_;exact ⟨by trivial,_,trivial,wkI⟩
  ·rw [i1 rfl,j1 rfl]
   refine goI a8C kB d9j d9j d9j d9j d9j d9j ?_;exact ⟨by trivial,_,trivial,wkI⟩
 rintro n0 -;refine d8X (α:=Nat) (fun n=>⟨[(2,.optr 0 0 10 0 0),(3,.optr 1 1 8 0 0),(4,.optr 2 2 8 0 0)],[⟨2,2,118,8,[.agg [i64 0,a1w,i64 0,a1w,i64 0,a1w,i64 0,a1w]]⟩,⟨1,1,118,8,[.agg [i64 A.n.s,A.n.w,i64 A2.s,A2.w,i64 B.n.s,B.n.w,i64 B2.s,B2.w]]⟩,
   ⟨0,0,123,10,[.agg [boo p1,i64 A3.n.s,A3.n.w,i64 A32.s,A32.w,boo p2,i64 B3.n.s,B3.n.w,i64 B32.s,B32.w]]⟩],n⟩) (fun _=>True) ?_ ?_
 ·cases p2
  ·have c2:=c2 rfl
   refine goI a8C kB c2 d9j d9j d9j d9j d9j ?_;exact ⟨by trivial,_,trivial,wkI⟩
  ·rw [i2 rfl,j2 rfl]
   refine goI a8C kB d9j d9j d9j d9j d9j d9j ?_;exact ⟨by trivial,_,trivial,wkI⟩
 rintro n1 -;refine OkS.seq ?_;refine d8R w1 500 [0,1,2,3,4,5,6,7] [8] 7 [2,4,1,3,5,0] (2) (by kernel_rfl) (by kernel_rfl) ?_;refine dsI ?_;refine gvI hR ?_;refine a0N rfl rfl rfl rfl ?_;refine dsI ?_;refine And.intro (by exact sdI) ?_;refine dsI ?_;refine a0q.same _ cc d9k ?_;refine dsI ?_;refine gvI hR ?_;refine And.intro (.inl d9j) ?_;refine goI a8C hR d9j d9j d9j d9j d9j d9j ?_;exact a0a rfl IsPure.out
abbrev b5t:Dr:=[(3,[0,1,2,3,4,5,6,7,8,9,10,11,12,13],[14])]
open Go.Proofs Go.RowKit
set_option maxRecDepth 20000
set_option maxHeartbeats 4000000
def a3B (G:List (List LP))(g f:Nat)(s:SpT):SpT:=a7h (pv (a4h G g) f).1 (pv (a4h G g) f).2 s
def a4f (G:List (List LP))(g f:Nat)(s:SpT):Bool:=c5x (pv (a4h G g) f).1 (pv (a4h G g) f).2 s
def btT (G:List (List LP))(f g:Nat)(s:SpT):List UInt8:=if g=G.length then s.lo else (a3B G g f s).lo
def btB (G:List (List LP))(f g:Nat)(s:SpT):Bool:=if g=G.length then true else a4f G g f s
theorem a8R {n:Nat}{G:List (List LP)}(hG:a4H n G){g f:Nat}(hg:g<G.length)(hf:f<n):(G.map a6G)[g]? = some (a6G (a4h G g))/\((a4h G g).map fun p=>a3w p.1 p.2)[f]? = some (a3w (pv (a4h G g) f).1 (pv (a4h G g) f).2)/\a2x (pv (a4h G g) f).1=0/\a2x (pv (a4h G g) f).2=0:=by
 have h1:=b7t hg;obtain ⟨hl,hE⟩:=hG.row _ (d9r h1);have hp:=c0C (r:=a4h G g) (k:=f) (by omega);have hE2:=hE _ (d9r hp);exact ⟨by rw [d9E,h1];rfl,by rw [d9E,hp];rfl,hE2.1,hE2.2⟩
theorem b8e (n:Nat)(G:List (List LP))(hG:a4H n G)(f g:Nat)(hf:f<n)(hg:g<=G.length)(s:SpT)(h1:chk s.lo=0)(h2:chk s.hi=0):a0b C0 123 [a9v n G,i64 (f:Int),i64 (g:Int),spF s] (.tup [(a0p (btT G f g s)).D,boo (btB G f g s)]):=by
 refine a0c.walk w1 c4g rfl fun F=>?_
 have el:(((G.map a6G).length:Nat):Int)=(G.length:Int):=by rw [d9s]
 have hT:btT G f g s=if g=G.length then s.lo else (a3B G g f s).lo:=rfl
 have hB:btB G f g s=if g=G.length then true else a4f G g f s:=rfl
 have cw:=fun (g:Nat) h h'=>a9J (pv (a4h G g) f).1 (pv (a4h G g) f).2 s h h' h1 h2
 rw [hT,hB]
 by_cases g1:g=G.length
 ·have e1:((g:Int)==(G.length:Int))=true:=e1i.2 (by omega)
  rw [d9l g1,d9l g1];unfold spF a4W GF.D;generalize a0p s.lo=A1 at *;generalize a0p s.hi=B1 at *;have q3:IsPure A1.n.w:=d9k;have q4:IsPure B1.n.w:=d9k;generalize mkG (A1.d:Int)=A12 at *;generalize mkG (B1.d:Int)=B12 at *;refine goI b5t (ff2 el e1) d9j d9j d9j d9j d9j d9j ?_;exact a0a rfl IsPure.out
 have e1:((g:Int)==(G.length:Int))=false:=d9D.2 (by omega);obtain ⟨m1,m2,l1,l2⟩:=a8R hG (show g<G.length by omega) hf;have cw:=cw g l1 l2;rw [d9m g1,d9m g1];rw [show a7h (pv (a4h G g) f).1 (pv (a4h G g) f).2 s=a3B G g f s from rfl,show c5x (pv (a4h G g) f).1 (pv (a4h G g) f).2 s=a4f G g f s from rfl] at cw;generalize a3B G g f s=T at *;generalize a4f G g f s=R at *;unfold a6G at m1;unfold spF a4W at *;unfold GF.D;generalize a0p s.lo=A1 at *;generalize a0p s.hi=B1 at *;generalize a0p T.lo=A at *;generalize a0p T.hi=B at *;have q1:IsPure A.n.w:=d9k;have q2:IsPure B.n.w:=d9k;have q3:IsPure A1.n.w:=d9k;have q4:IsPure B1.n.w:=d9k;generalize mkG (A.d:Int)=A2 at *;generalize mkG (B.d:Int)=B2 at *;generalize mkG (A1.d:Int)=A12 at *;generalize mkG (B1.d:Int)=B12 at *;refine sR 0 ?_;refine OkS.seq ?_;refine sZ 100 ?_;refine gwI (ff2 el e1) ?_;refine ifI ?_;refine skI ?_;refine OkS.seq ?_;refine d8R w1 300 [0,1,2,3,4,5,6,7,8,9,10,11,12,13] [14] 13 [10,8,7,6,5,4,3,2,1,0,9,11] (1) (by kernel_rfl) (by kernel_rfl) ?_;refine dsI ?_;refine gvI kN ?_;refine a0N rfl rfl rfl rfl ?_;refine a2Z (fun _ _=>rfl) sdI ⟨rfl,by omega⟩ m1 ?_
 try dsimp only [D.cells]
 refine gvI kN ?_;refine a0N rfl rfl rfl rfl ?_;refine a2Z (fun _ _=>rfl) sdI ⟨rfl,by omega⟩ m2 ?_
 try dsimp only [D.cells]
 refine gvI kN ?_;refine a0N rfl rfl rfl rfl ?_;refine dsI ?_;refine And.intro (by exact sdI) ?_;refine dsI ?_;refine a0q.same _ cw d9k ?_;refine dsI ?_;refine gvI kN ?_;refine And.intro (.inl d9j) ?_;refine goI b5t kB d9j d9j d9j d9j d9j d9j ?_;exact a0a rfl IsPure.out
abbrev a3c:Dr:=[(3,[0,1,2,3,4,5,6,7,8,9,10,11,12,13],[14])]
open Go.Proofs Go.RowKit
set_option maxRecDepth 20000
set_option maxHeartbeats 4000000
def vlT (G:List (List LP))(f g:Nat)(s:SpT):SpT:=if g<G.length then a3B G g f s else s
def vlQ (G:List (List LP))(f g:Nat)(s:SpT):Bool:=decide (g<G.length) && !a4f G g f s
def vlL (G:List (List LP))(f g:Nat)(l:List UInt8):Bool:=decide (a0C G f (a0e l)=g)
def vlO (G:List (List LP))(f g:Nat)(s:SpT):Option (List UInt8):=if vlQ G f g s then none else if vlL G f g (vlT G f g s).lo then some (vlT G f g s).lo else if vlL G f g (vlT G f g s).hi then some (vlT G f g s).hi else none
def d5u:Option (List UInt8)->GF
 | some l=>a0p l
 | none=>⟨mkG 0,1⟩
theorem c1E {n:Nat}{G:List (List LP)}(hG:a4H n G){f g:Nat}(hf:f<n){s:SpT}(h1:chk s.lo=0)(h2:chk s.hi=0):chk (vlT G f g s).lo=0/\chk (vlT G f g s).hi=0:=by
 unfold vlT;split
 ·rename_i h
  obtain ⟨-,-,l1,l2⟩:=a8R hG h hf;exact b1C l1 l2 h1 h2
 ·exact ⟨h1,h2⟩
theorem c2X (a b:Nat):(((a:Int))==(b:Int))=decide (a=b):=by
 by_cases h:a=b
 ·rw [d9q h];exact e1i.2 (by omega)
 ·rw [d9p h];exact d9D.2 (by omega)
theorem c3G (n:Nat)(G:List (List LP))(hG:a4H n G)(f g:Nat)(hf:f<n)(hg:g<=G.length)(s:SpT)(h1:chk s.lo=0)(h2:chk s.hi=0):a0b C0 124 [a9v n G,i64 (f:Int),i64 (g:Int),spF s] (.tup [(d5u (vlO G f g s)).D,boo (vlO G f g s).isSome]):=by
 refine a0c.walk w1 c4h rfl fun F=>?_
 have el:(((G.map a6G).length:Nat):Int)=(G.length:Int):=by rw [d9s]
 obtain ⟨z1,z2⟩:=c1E (g:=g) hG hf h1 h2;have d1:=b4P n G hG f hf _ _ (a3H z1);have d2:=b4P n G hG f hf _ _ (a3H z2);have hO:vlO G f g s=if vlQ G f g s then none else if vlL G f g (vlT G f g s).lo then some (vlT G f g s).lo else if vlL G f g (vlT G f g s).hi then some (vlT G f g s).hi else none:=rfl
 have hQ:vlQ G f g s=(decide (g<G.length) && !a4f G g f s):=rfl;have hT:vlT G f g s=if g<G.length then a3B G g f s else s:=rfl
 have k1:(((a0C G f (a0e (vlT G f g s).lo):Nat):Int)==(g:Int))=vlL G f g (vlT G f g s).lo:=c2X ..;have k2:(((a0C G f (a0e (vlT G f g s).hi):Nat):Int)==(g:Int))=vlL G f g (vlT G f g s).hi:=c2X ..;rw [hO];clear hO;generalize vlL G f g (vlT G f g s).lo=L1 at *;generalize vlL G f g (vlT G f g s).hi=L2 at *;generalize a0C G f (a0e (vlT G f g s).lo)=K1 at *;generalize a0C G f (a0e (vlT G f g s).hi)=K2 at *;generalize vlT G f g s=T at *;generalize vlQ G f g s=Q at *;have c0:=d6T;have qT:IsPure (a0p T.lo).n.w:=d9k;have qT2:IsPure (a0p T.hi).n.w:=d9k;have qs:IsPure (a0p s.lo).n.w:=d9k;have qs2:IsPure (a0p s.hi).n.w:=d9k;refine sR 0 ?_;refine d8X (α:=Nat) (fun n0=>⟨[(1,i64 (f:Int)),(2,i64 (g:Int)),(4,.optr 0 0 2 0 0),(7,.optr 1 1 8 0 0),(8,.optr 2 2 4 0 0)],[⟨2,2,116,4,[.agg [i64 0,a1w,i64 0,a1w]]⟩,⟨1,1,118,8,[spF T]⟩,⟨0,0,96,2,[.agg [i64 (n:Int),.sl false 1 (G.map a6G)]]⟩],n0⟩) (fun _=>Q=false) ?_ ?_
 ·rcases d9H g G.length with g1|g1
  ·have e1:decide ((g:Int)<(G.length:Int))=true:=d9q (by omega)
   obtain ⟨m1,m2,l1,l2⟩:=a8R hG g1 hf;have cw:a0b C0 54 [a3w (pv (a4h G g) f).1 (pv (a4h G g) f).2,spF s] (.tup [spF (a3B G g f s),boo (a4f G g f s)]):=a9J _ _ s l1 l2 h1 h2;rw [d9l g1] at hT;rw [d9q g1,e1b] at hQ;subst hT;unfold a6G at m1;unfold spF a4W at *;unfold GF.D at *;generalize a3B G g f s=T at *;generalize a4f G g f s=R at *;subst hQ;generalize a0p s.lo=A1 at *;generalize a0p s.hi=B1 at *;generalize mkG (A1.d:Int)=A12 at *;generalize mkG (B1.d:Int)=B12 at *;refine sZ 100 ?_;refine gwI (ff2 el e1) ?_;refine ifI ?_;refine sR 200 ?_;refine OkS.seq ?_;refine d8R w1 300 [0,1,2,3,4,5,6,7,8,9,10,11,12,13] [14] 13 [10,8,7,6,5,4,3,2,1,0,9,11] (1) (by kernel_rfl) (by kernel_rfl) ?_;refine dsI ?_;refine gvI kN ?_;refine a0N rfl rfl rfl rfl ?_;refine a2Z (fun _ _=>rfl) sdI ⟨rfl,by omega⟩ m1 ?_
   try dsimp only [D.cells]
   refine gvI kN ?_;refine a0N rfl rfl rfl rfl ?_;refine a2Z (fun _ _=>rfl) sdI ⟨rfl,by omega⟩ m2 ?_
   try dsimp only [D.cells]
   refine gvI kN ?_;refine a0N rfl rfl rfl rfl ?_;refine dsI ?_;refine And.intro (by exact sdI) ?_;refine dsI ?_;refine a0q.same _ cw d9k ?_;refine dsI ?_;refine gvI kN ?_;refine And.intro (.inl d9j) ?_;cases R
   ·refine goI a3c kB c0 d9j d9j d9j d9j d9j ?_
    exact a0a rfl IsPure.out
   ·refine goI a3c kB d9j d9j d9j d9j d9j d9j ?_
    exact ⟨by trivial,_,trivial,wkI⟩
  ·have e1:decide ((g:Int)<(G.length:Int))=false:=d9p (by omega)
   rw [d9m (by omega)] at hT;rw [d9p (by omega),e1o] at hQ;subst hT;subst hQ;unfold spF a4W at *;unfold GF.D at *;generalize a0p T.lo=A1 at *;generalize a0p T.hi=B1 at *;generalize mkG (A1.d:Int)=A12 at *;generalize mkG (B1.d:Int)=B12 at *;refine goI a3c (ff2 el e1) d9j d9j d9j d9j d9j d9j ?_;exact ⟨by trivial,_,trivial,wkI⟩
 rintro n0 hq;subst hq;clear hQ hT;unfold spF a4W at *;unfold GF.D at *;refine goI a3c kB d9j d9j d9j d9j d9j d9j ?_;refine OkS.loop (α:=Nat × Nat) (fun p=>⟨[(1,i64 (f:Int)),(2,i64 (g:Int)),(4,.optr 0 0 2 0 0),(8,.optr 2 2 4 0 0),(38,.sl true 4 [(.agg [i64 (a0p T.lo).n.s,(a0p T.lo).n.w,i64 (mkG ((a0p T.lo).d:Int)).s,(mkG ((a0p T.lo).d:Int)).w]:D),(.agg [i64 (a0p T.hi).n.s,(a0p T.hi).n.w,i64 (mkG ((a0p T.hi).d:Int)).s,(mkG ((a0p T.hi).d:Int)).w]:D)]),(39,i64 2),(40,i64 (p.1:Int))],[⟨2,2,116,4,[.agg [i64 0,a1w,i64 0,a1w]]⟩,⟨0,0,96,2,[.agg [i64 (n:Int),.sl false 1 (G.map a6G)]]⟩],p.2⟩) (fun p=>2 - p.1)
  (fun p=>p.1=0\/(p.1=1/\L1=false)\/(p.1=2/\L1=false/\L2=false)) (0,_) (.inl rfl) wkI ?_
 rintro ⟨i,m⟩ F h;dsimp only at h ⊢;have e0:decide (((0:Nat):Int)<2)=true:=rfl;have e1:decide (((1:Nat):Int)<2)=true:=rfl;have e2:decide (((2:Nat):Int)<2)=false:=rfl;have hm0:([(.agg [i64 (a0p T.lo).n.s,(a0p T.lo).n.w,i64 (mkG ((a0p T.lo).d:Int)).s,(mkG ((a0p T.lo).d:Int)).w]:D),(.agg [i64 (a0p T.hi).n.s,(a0p T.hi).n.w,i64 (mkG ((a0p T.hi).d:Int)).s,(mkG ((a0p T.hi).d:Int)).w]:D)])[0]? = some (.agg [i64 (a0p T.lo).n.s,(a0p T.lo).n.w,i64 (mkG ((a0p T.lo).d:Int)).s,(mkG ((a0p T.lo).d:Int)).w]:D):=rfl;have hm1:([(.agg [i64 (a0p T.lo).n.s,(a0p T.lo).n.w,i64 (mkG ((a0p T.lo).d:Int)).s,(mkG ((a0p T.lo).d:Int)).w]:D),(.agg [i64 (a0p T.hi).n.s,(a0p T.hi).n.w,i64 (mkG ((a0p T.hi).d:Int)).s,(mkG ((a0p T.hi).d:Int)).w]:D)])[1]? = some (.agg [i64 (a0p T.hi).n.s,(a0p T.hi).n.w,i64 (mkG ((a0p T.hi).d:Int)).s,(mkG ((a0p T.hi).d:Int)).w]:D):=rfl;have v0:=wiI (i:=0) (by omega);have v1:=wiI (i:=1) (by omega);rcases h with rfl|⟨rfl,hx⟩|⟨rfl,hx,hy⟩
 ·cases L1
  ·refine goI a3c (ff3 e0 v0 k1) hm0 d1 d9j d9j d9j d9j ?_
   exact ⟨(1,_),.inr (.inl ⟨rfl,trivial⟩),by dsimp only;omega,wkI⟩
  ·refine goI a3c (ff2 e0 k1) hm0 d1 d9j d9j d9j d9j ?_
   exact a0a rfl IsPure.out
 ·subst hx
  cases L2
  ·refine goI a3c (ff3 e1 v1 k2) hm1 d2 d9j d9j d9j d9j ?_
   exact ⟨(2,_),.inr (.inr ⟨rfl,trivial,trivial⟩),by dsimp only;omega,wkI⟩
  ·refine goI a3c (ff2 e1 k2) hm1 d2 d9j d9j d9j d9j ?_
   exact a0a rfl IsPure.out
 ·subst hx
  subst hy;refine goI a3c e2 c0 d9j d9j d9j d9j d9j ?_;exact a0a rfl IsPure.out
set_option maxHeartbeats 4000000
def sv (v:List SpT)(k:Nat):SpT:=v.getD k ⟨[],[]⟩
theorem b4U {v:List SpT}{k:Nat}{s:SpT}(h:v[k]? = some s):sv v k=s:=by
 unfold sv;rw [d9T,h];rfl
def b3P (v:List SpT):D:=.sl false 8 (v.map spF)
instance  (v:List SpT):CellsPure (b3P v):=by unfold b3P;exact d9k
instance  (v:List SpT):IsPure (b3P v):=by unfold b3P;exact d9k
def b8h (G:List (List LP))(g:Nat)(v:List SpT):List (List UInt8):=(List.range v.length).map fun k=>btT G k g (sv v k)
def c8U (G:List (List LP))(g:Nat)(v:List SpT):Bool:=(List.range v.length).all fun k=>btB G k g (sv v k)
def d3H (G:List (List LP))(g:Nat)(v:List SpT):Option Nat:=(List.range v.length).find? fun k=>(vlO G k g (sv v k)).isSome
def b6x (G:List (List LP))(g:Nat)(v:List SpT):Option (List (List UInt8)):=if c8U G g v then (d3H G g v).map fun k=>(b8h G g v).set k ((vlO G k g (sv v k)).getD []) else none
def c8q:Option (List (List UInt8))->D
 | some l=>.tup [frD l,boo true]
 | none=>.tup [a1w,boo false]
theorem c9c {G:List (List LP)}{g:Nat}{v:List SpT}{k:Nat}(h:k<v.length):(b8h G g v)[k]? = some (btT G k g (sv v k)):=by
 unfold b8h;rw [d9E,e0Y h];rfl
theorem c6s {G:List (List LP)}{g:Nat}{v:List SpT}:(b8h G g v).length=v.length:=by unfold b8h;simp
theorem c8r {G:List (List LP)}{g:Nat}{v:List SpT}{k:Nat}(h:k<v.length)(hb:btB G k g (sv v k)=false):b6x G g v=none:=by
 refine d9m fun h2=>?_
 have:=d9W.1 h2 k (List.mem_range.2 h)
 rw [hb] at this;cases this
theorem b5f {G:List (List LP)}{g:Nat}{v:List SpT}(h:∀ k,k<v.length->btB G k g (sv v k)=true):c8U G g v=true:=d9W.2 fun k hk=>h k (List.mem_range.1 hk)
theorem b6R {p:Nat->Bool}{n k:Nat}(hk:k<n)(ha:∀ j,j<k->p j=false)(hp:p k=true):(List.range n).find? p=some k:=by
 rw [List.find?_range_eq_some];exact ⟨hp,List.mem_range.2 hk,fun j hj=>by rw [ha j hj];rfl⟩
theorem d3y {G:List (List LP)}{g:Nat}{v:List SpT}{k:Nat}{l:List UInt8}(hB:∀ j,j<v.length->btB G j g (sv v j)=true)(hk:k<v.length)(ha:∀ j,j<k->vlO G j g (sv v j)=none)(hv:vlO G k g (sv v k)=some l):b6x G g v=some ((b8h G g v).set k l):=by
 unfold b6x d3H;rw [d9l (b5f hB),b6R hk (fun j hj=>by rw [ha j hj];rfl) (by rw [hv];rfl),e2z,hv];rfl
theorem c3I {G:List (List LP)}{g:Nat}{v:List SpT}(ha:∀ j,j<v.length->vlO G j g (sv v j)=none):b6x G g v=none:=by
 unfold b6x d3H;split
 ·rw [List.find?_eq_none.2 fun k hk=>by rw [ha k (List.mem_range.1 hk)];decide];rfl
 ·rfl
theorem c6V {G:List (List LP)}{g k:Nat}{v:List SpT}{l:List UInt8}:((b8h G g v).map fun l=>(a0p l).D).set k (a0p l).D=((b8h G g v).set k l).map fun l=>(a0p l).D:=by rw [List.map_set]
theorem d2s {H:Hp}{K g T sz N:Nat}{l:List D}(hl:l.length=N)(he:Hp.get H K=some ⟨K,g,T,sz,l⟩):Fz H [] (.osl K g sz 0 N) (.sl false sz l):=by
 subst hl;refine .osl (e:=⟨K,g,T,sz,l⟩) he rfl rfl rfl (by simp) (by simp) (fun j d d' h1 h2=>?_) fun j d d' q c c' h1 h2 h3 h4=>?_
 ·rw [d9S] at h1;rw [h1] at h2;cases h2;rfl
 ·rw [d9S] at h1;rw [h1] at h2;cases h2;rw [h3] at h4;cases h4;exact Fz.refl _
instance  (o:Option (List (List UInt8))):IsPure (c8q o):=by cases o<;>unfold c8q<;>exact d9k
theorem b7I (n:Nat)(G:List (List LP))(hG:a4H n G)(g:Nat)(hg:g<=G.length)(v:List SpT)(hn:v.length=n)(hl:v.length<=100000)(hc:∀ s∈v,chk s.lo=0/\chk s.hi=0):a0b C0 58 [a9v n G,b3P v,i64 (g:Int)] (c8q (b6x G g v)):=by
 refine a0c.walk w1 d1Y rfl fun F=>?_
 have el:(((v.map spF).length:Nat):Int)=(v.length:Int):=by rw [d9s]
 unfold b3P;refine goI dr0 (ff2 el kN) d9j d9j d9j d9j d9j d9j ?_;refine OkS.loop (α:=Nat × List D × Nat) (fun p=>⟨[(1,.sl false 8 (v.map spF)),(2,i64 (g:Int)),(3,.optr 0 0 2 0 0),(8,.osl 102 5 4 0 v.length),(19,.sl false 8 (v.map spF)),(20,i64 (v.length:Int)),(21,i64 (p.1:Int))],[⟨102,5,116,4,p.2.1⟩,⟨0,0,96,2,[a9v n G]⟩],p.2.2⟩) (fun p=>v.length - p.1)
  (fun p=>p.1<=v.length/\p.2.1.length=v.length/\∀ j,j<p.1->btB G j g (sv v j)=true/\p.2.1[j]? = some (a0p (btT G j g (sv v j))).D) (0,List.replicate v.length (.agg [i64 0,a1w,i64 0,a1w]),_) ⟨d9U _,e1E,fun j hj=>d9n hj (e0L j)⟩ wkI ?_
 rintro ⟨i,L,m⟩ F ⟨hi,hL,ha⟩;dsimp only at hi hL ha ⊢;rcases d9H i v.length with h2|h2
 ·have e0:=ltT h2
  have wi:=wiI (i:=i) (by omega);obtain ⟨s,hs⟩:=a0I h2;have hm:(v.map spF)[i]? = some (spF s):=by rw [d9E,hs];rfl
  have hsc:=hc s (d9r hs);have c:=b8e n G hG i g (by omega) hg s hsc.1 hsc.2;obtain ⟨z,hz⟩:∃ z,L[i]? = some z:=a0I (by omega);obtain ⟨b,hb⟩:∃ b,btB G i g s=b:=⟨_,rfl⟩
  rw [hb] at c;have e2:=b4U hs;unfold spF a4W at hm c;cases b
  ·rw [c8r h2 (by rw [e2];exact hb)]
   refine goI dr0 (ff4 e0 hz kN d9S) hm c d9j d9j d9j d9j ?_;exact a0a rfl IsPure.out
  ·refine goI dr0 (ff5 e0 wi hz kN d9S) hm c d9j d9j d9j d9j ?_
   refine ⟨(i+1,L.set i (a0p (btT G i g s)).D,_),⟨h2,by rw [e0i];exact hL,fun j hj=>?_⟩,by dsimp only;omega,wkI⟩;dsimp only at hj ⊢;rcases Nat.decEq j i with hne|rfl
   ·rw [e0N (fun h=>hne h.symm)];exact ha j (by omega)
   ·rw [e1T (by omega),e2]
    exact ⟨hb,rfl⟩
 ·have e0:=ltF h2
  have:i=v.length:=by omega
  subst this;have hLe:L=(b8h G g v).map fun l=>(a0p l).D:=e2w fun j=>by
   rw [d9E];rcases d9H j v.length with h|h
   ·rw [c9c h,(ha j h).2];rfl
   ·rw [e0c (by omega),e0c (by rw [c6s];exact h)];rfl
  have hB:=fun j hj=>(ha j hj).1
  refine goI dr0 (ff2 e0 el) d9j d9j d9j d9j d9j d9j ?_;refine OkS.loop (α:=Nat × Nat) (fun p=>⟨[(2,i64 (g:Int)),(3,.optr 0 0 2 0 0),(8,.osl 102 5 4 0 v.length),(40,.sl false 8 (v.map spF)),(41,i64 (v.length:Int)),(42,i64 (p.1:Int))],[⟨102,5,116,4,L⟩,⟨0,0,96,2,[a9v n G]⟩],p.2⟩) (fun p=>v.length - p.1)
   (fun p=>p.1<=v.length/\∀ j,j<p.1->vlO G j g (sv v j)=none) (0,_) ⟨d9U _,fun j hj=>d9n hj (e0L j)⟩ wkI ?_
  rintro ⟨i,m⟩ F ⟨hi,hN⟩;dsimp only at hi hN ⊢;rcases d9H i v.length with h2|h2
  ·have e0:=ltT h2
   have wi:=wiI (i:=i) (by omega);obtain ⟨s,hs⟩:=a0I h2;have hm:(v.map spF)[i]? = some (spF s):=by rw [d9E,hs];rfl
   have hsc:=hc s (d9r hs);have c:=c3G n G hG i g (by omega) hg s hsc.1 hsc.2;obtain ⟨z,hz⟩:∃ z,L[i]? = some z:=a0I (by omega);have e2:=b4U hs;unfold spF a4W at hm c;obtain ⟨o,ho⟩:∃ o,vlO G i g s=o:=⟨_,rfl⟩
   rw [ho] at c;cases o with
   | none =>
    dsimp only [Option.isSome,d5u] at c;refine goI dr0 (ff2 e0 wi) hm c d9j d9j d9j d9j ?_;refine ⟨(i+1,_),⟨h2,fun j hj=>?_⟩,by dsimp only;omega,wkI⟩;dsimp only at hj;rcases Nat.decEq j i with hne|rfl
    ·exact hN j (by omega)
    ·rw [e2];exact ho
   | some l =>
    dsimp only [Option.isSome,d5u] at c;rw [d3y hB h2 hN (by rw [e2];exact ho)];refine goI dr0 (ff4 e0 hz kN d9S) hm c d9j d9j d9j d9j ?_;have E:(.tup [.sl false 4 (L.set i (a0p l).D),boo true]:D)=c8q (some ((b8h G g v).set i l)):=by
     rw [hLe];exact congrArg (fun l=>D.tup [.sl false 4 l,boo true]) c6V
    exact ⟨_,b4t (d2s (by rw [e0i];exact hL) rfl),(congrArg a2n E).mpr (d9k:IsPure (c8q (some ((b8h G g v).set i l)))).out,E⟩
  ·have e0:=ltF h2
   have:i=v.length:=by omega
   subst this;rw [c3I hN];refine goI dr0 e0 d9j d9j d9j d9j d9j d9j ?_;exact a0a rfl IsPure.out
def b1H (G:List (List LP))(v:List SpT)(n:Nat):List Nat:=(List.range n).filter fun g=>(b6x G g v).isSome
theorem b7m (G:List (List LP))(v:List SpT)(n:Nat):b1H G v (n+1)=b1H G v n++if (b6x G n v).isSome then [n] else []:=by
 unfold b1H;rw [List.range_succ,List.filter_append];simp only [List.filter_cons,List.filter_nil]
def b1G (G:List (List LP))(v:List SpT):List Nat:=b1H G v (G.length+1)
def a2X (n:Nat)(v:List SpT):Nat:=if v.length=n then b3O a4l v else 2
def c5S (n:Nat)(v:List SpT):D:=if a2X n v=0 then b3P v else a1w
instance  (n:Nat)(v:List SpT):IsPure (c5S n v):=by unfold c5S;split<;>exact d9k
theorem c8b {n:Nat}{v:List SpT}(h:a2X n v=0):v.length=n/\∀ s∈v,chk s.lo=0/\chk s.hi=0/\¬ a1H (a0e s.lo) (a0e s.hi)>0:=by
 unfold a2X at h;split at h
 ·rename_i h1
  exact ⟨h1,fun s hs=>b0i (b2N h s hs)⟩
 ·cases h
theorem a9h (n:Nat)(G:List (List LP))(hG:a4H n G)(v:List SpT)(hn:v.length=n)(hl:v.length<=100000)(hc:∀ s∈v,chk s.lo=0/\chk s.hi=0):a0b C0 42 [a9v n G,b3P v] (.sl false 1 (a1J (b1G G v))):=by
 refine a0c.walk w1 d1S rfl fun F=>?_
 have el:(((G.map a6G).length:Nat):Int)=(G.length:Int):=by rw [d9s]
 have hlen:=hG.len;have ew:IntKind.i64.wrap ((G.length:Int)+1)=((G.length+1:Nat):Int):=wiI (by omega);have cw:=fun g hg=>b7I n G hG g hg v hn hl hc
 have pV:IsPure (b3P v):=d9k;generalize b3P v=V at *;refine goI dr0 (ff2 el ew) d9j d9j d9j d9j d9j d9j ?_;refine OkS.loop (α:=Nat × List D × Nat × Nat) (fun p=>⟨[(1,V),(2,.optr 0 0 2 0 0),(5,a6g 703 p.2.2.1 1 p.2.1),(12,i64 ((G.length+1:Nat):Int)),(13,i64 (p.1:Int))],a5O 703 p.2.2.1 3 1 p.2.1++[⟨0,0,96,2,[a9v n G]⟩],p.2.2.2⟩) (fun p=>G.length+1 - p.1)
  (fun p=>p.1<=G.length+1/\p.2.1=a1J (b1H G v p.1)) (0,[],0,_) ⟨d9U _,rfl⟩ wkI ?_
 rintro ⟨i,L,g2,m⟩ F ⟨hi,hL⟩;dsimp only at hi hL ⊢;rcases d9H i (G.length+1) with h2|h2
 rotate_left
 ·have e1:=ltF h2
  have:i=G.length+1:=by omega
  subst this;refine goI dr0 e1 d9j d9j d9j d9j d9j d9j ?_;subst hL;exact ⟨_,a5S a8Q rfl,IsPure.out,rfl⟩
 have e1:=ltT h2;have wi:=wiI (i:=i) (by omega);have c:=cw i (by omega);obtain ⟨o,ho⟩:∃ o,b6x G i v=o:=⟨_,rfl⟩
 have hsn:a1J (b1H G v (i+1))=L++if (b6x G i v).isSome then [i64 (i:Int)] else []:=by
  rw [hL,b7m];unfold a1J;rw [e0Q];split<;>rfl
 have hLl:L.length<=i:=by
  rw [hL];unfold a1J b1H;rw [d9s];exact d9V (List.length_filter_le _ _) (by rw [e1Y];exact d9y _)
 rw [ho] at c hsn;clear hL;cases o with
 | none =>
  dsimp only [c8q] at c;rw [d9m (by decide),e0D] at hsn;rcases L with _|⟨x,L⟩
  all_goals
   dsimp only [a2a,a2b,a1B,a1C,List.nil_append]
  ·refine goI dr0 (ff3 e1 wi kN) c d9j d9j d9j d9j d9j ?_
   exact ⟨(i+1,[],g2,_),⟨h2,hsn.symm⟩,by dsimp only;omega,wkI⟩
  ·refine goI dr0 (ff3 e1 wi kN) c d9j d9j d9j d9j d9j ?_
   exact ⟨(i+1,x::L,g2,_),⟨h2,hsn.symm⟩,by dsimp only;omega,wkI⟩
 | some l =>
  dsimp only [c8q] at c;rw [show (if (some l).isSome=true then [i64 (i:Int)] else [])=[i64 (i:Int)] from rfl] at hsn;rcases L with _|⟨x,L⟩
  all_goals
   (try simp only [d9u] at hLl)
   dsimp only [a2a,a2b,a1B,a1C,List.nil_append]
  ·refine goI dr0 (ff3 e1 wi kN) c d9j d9j d9j d9j d9j ?_
   exact ⟨(i+1,[i64 (i:Int)],_,_),⟨h2,hsn.symm⟩,by dsimp only;omega,wkI⟩
  ·have htk:List.take (L.length+1) (x::L)=x::L:=by simp
   refine goI dr0 (ff4 e1 wi htk kN) c d9j d9j d9j d9j d9j ?_;exact ⟨(i+1,x::L++[i64 (i:Int)],_,_),⟨h2,hsn.symm⟩,by dsimp only;omega,by (dsimp only;rw [a2s];exact wkI)⟩
abbrev a5j:Dr:=[(10,[0,1,2,3,4,5,6,7,8],[9,10])]
open Go.Proofs Go.RowKit
set_option maxRecDepth 20000
set_option maxHeartbeats 4000000
theorem b7B {v:List SpT}{i:Nat}{s:SpT}(h:v[i]? = some s):(v.take (i+1)).map spF=(v.take i).map spF++[spF s]:=by
 rw [e0Z,h,e0Q];rfl
theorem b7v (n:Nat)(G:List (List LP))(hG:a4H n G)(b:Bool)(v:List SpT)(hl:v.length<=100000)(hf:∀ l∈v,l.few):a0b C0 100 [a9v n G,spD b v] (.tup [c5S n v,i64 (a2X n v:Nat)]):=by
 refine a0c.walk w1 c4c rfl fun F=>?_
 have el:(((v.map SpT.D).length:Nat):Int)=(v.length:Int):=by rw [d9s]
 have hn:=hG.num;have c1:=c6Y v b (by omega) hf;unfold spD at *;rcases Nat.decEq v.length n with h1|h1
 ·have e0:=d3Z h1
  have hv:a2X n v=2:=d9m h1;have hd:c5S n v=a1w:=d9m (by rw [hv];decide);rw [hv,hd];refine goI a5j (ff2 el e0) d9j d9j d9j d9j d9j d9j ?_;exact a0a rfl IsPure.out
 have e0:=d3Y h1;have hv:a2X n v=b3O a4l v:=d9l h1;rcases Nat.decEq (b3O a4l v) 0 with h2|h2
 ·have e1:=b3N h2
  have hd:c5S n v=a1w:=d9m (by rw [hv];exact h2);rw [hv,hd];refine goI a5j (ff3 el e0 e1) c1 d9j d9j d9j d9j d9j ?_;exact a0a rfl IsPure.out
 have e1:=b4c h2;have hd:c5S n v=b3P v:=d9l (by rw [hv];exact h2);have hz:=fun s hs=>b0i (b2N h2 s hs)
 rw [hv,hd];refine goI a5j (ff3 el e0 e1) c1 d9j d9j d9j d9j d9j ?_;refine OkS.loop (α:=Nat × Nat × Nat) (fun p=>⟨[(7,a6g 1009 p.2.1 8 ((v.take p.1).map spF)),(20,.sl b 2 (v.map SpT.D)),(21,i64 (v.length:Int)),(22,i64 (p.1:Int))],a5O 1009 p.2.1 118 8 ((v.take p.1).map spF),p.2.2⟩) (fun p=>v.length - p.1)
  (fun p=>p.1<=v.length) (0,0,_) (d9U _) wkI ?_
 rintro ⟨i,g2,m⟩ F hi;dsimp only at hi ⊢;rcases d9H i v.length with h3|h3
 rotate_left
 ·have e2:=ltF h3
  have:i=v.length:=by omega
  subst this;rw [e0S];refine goI a5j e2 d9j d9j d9j d9j d9j d9j ?_;exact ⟨_,b4t (a5S (by rw [<- e0D (a5O ..)];exact a8Q) rfl),IsPure.out,by rw [h2];rfl⟩
 have e2:=ltT h3;have wi:=wiI (i:=i) (by omega);obtain ⟨s,hs⟩:=a0I h3;have hm:(v.map SpT.D)[i]? = some (.agg [str (sb s.lo),str (sb s.hi)]):=by rw [d9E,hs];rfl
 have hmem:=d9r hs;have hfs:=hf s hmem;have hzs:=hz s hmem;have k1:=a7u hfs.1 hzs.1;have k2:=a7u hfs.2 hzs.2.1;have hsn:(v.take (i+1)).map spF=(v.take i).map spF++[.agg [i64 (a0p s.lo).n.s,(a0p s.lo).n.w,i64 (mkG ((a0p s.lo).d:Int)).s,(mkG ((a0p s.lo).d:Int)).w,i64 (a0p s.hi).n.s,(a0p s.hi).n.w,i64 (mkG ((a0p s.hi).d:Int)).s,(mkG ((a0p s.hi).d:Int)).w]]:=b7B hs;have hLl:((v.take i).map spF).length<=i:=by rw [d9s,d9J];omega
 unfold GF.D at k1 k2;generalize (v.take i).map spF=L at *;rcases L with _|⟨x,L⟩
 all_goals
  (try simp only [d9u] at hLl)
  dsimp only [a2a,a2b,a1B,a1C,List.nil_append]
 ·refine goI a5j (ff3 e2 wi kN) hm k1 k2 d9j d9j d9j ?_
  exact ⟨(i+1,_,_),h3,by dsimp only;omega,by (dsimp only;rw [hsn];exact wkI)⟩
 ·have htk:List.take (L.length+1) (x::L)=x::L:=by simp
  refine goI a5j (ff4 e2 wi htk kN) hm k1 k2 d9j d9j d9j ?_;exact ⟨(i+1,_,_),h3,by dsimp only;omega,by (dsimp only;rw [hsn,a2s];exact wkI)⟩
def a5B (s:a1c)(v:List SpT):Nat:=if a0o s=0 then a2X s.fs.length v else a0o s
def c3c (e:Nat)(v:List SpT):D:=if e=0 then b3P v else a1w
instance  (e:Nat)(v:List SpT):IsPure (c3c e v):=by unfold c3c;split<;>exact d9k
theorem a3r {s:a1c}{v:List SpT}(h:a5B s v=0):a0o s=0/\v.length=s.fs.length/\∀ x∈v,chk x.lo=0/\chk x.hi=0/\¬ a1H (a0e x.lo) (a0e x.hi)>0:=by
 unfold a5B at h;split at h
 ·rename_i h1
  exact ⟨h1,c8b h⟩
 ·rename_i h1;exact d9n h h1
theorem a7n (s:a1c)(hs:s.few)(b:Bool)(v:List SpT)(hf:c8w v):a0b C0 41 [s.D,spD b v] (.tup [a4U s,c3c (a5B s v) v,i64 (a5B s v:Nat)]):=by
 refine a0c.walk w1 d1R rfl fun F=>?_
 have c1:=c0o s hs;obtain ⟨q,hq⟩:∃ q,a5B s v=q:=⟨_,rfl⟩
 rw [hq];unfold a1c.D at c1 ⊢;rcases Nat.decEq (a0o s) 0 with h0|h0
 ·have e0:=b3N h0
  have hd:a4U s=.agg [i64 0,a1w]:=d9m h0;have hv:q=a0o s:=by rw [<- hq];exact d9m h0
  have hd2:c3c q v=a1w:=d9m (by rw [hv];exact h0);rw [hd2,hd];rw [hd] at c1;refine goI dr0 e0 c1 d9j d9j d9j d9j d9j ?_;exact a0a (by rw [hv]) IsPure.out
 ·have e0:=b4c h0
  have hd:a4U s=a9v s.fs.length (a0d s):=d9l h0;have hv:a2X s.fs.length v=q:=by rw [<- hq];exact (d9l h0).symm
  have c2:=b7v s.fs.length (a0d s) (a4p (a1s h0)) b v hf.1 hf.2;have hd2:c3c q v=c5S s.fs.length v:=by unfold c3c c5S;rw [hv]
  rw [hd2,hd];rw [hd] at c1;rw [hv] at c2;refine goI dr0 e0 c1 c2 d9j d9j d9j d9j ?_;exact a0a rfl IsPure.out
def c1P (s:a1c)(v:List SpT):List Nat:=if a5B s v=0 then b1G (a0d s) v else []
theorem c0y (s:a1c)(hs:s.few)(b:Bool)(v:List SpT)(hf:c8w v):a0b C0 10 [s.D,spD b v] (.tup [.sl false 1 (a1J (c1P s v)),i64 (a5B s v:Nat)]):=by
 refine a0c.walk w1 c9v rfl fun F=>?_
 have c1:=a7n s hs b v hf;have hok:=@a3r s v;have hr:c1P s v=if a5B s v=0 then b1G (a0d s) v else []:=rfl
 rw [hr];obtain ⟨q,hq⟩:∃ q,a5B s v=q:=⟨_,rfl⟩
 rw [hq] at c1 hok ⊢;unfold a1c.D at c1 ⊢;rcases Nat.decEq q 0 with h0|h0
 ·have e0:=b3N h0
  obtain ⟨x,y,ho⟩:=a6B s;rw [ho] at c1;rw [d9m h0];refine goI dr0 e0 c1 d9j d9j d9j d9j d9j ?_;exact ⟨_,b4t (.nil 1),IsPure.out,rfl⟩
 have e0:=b4c h0;obtain ⟨k0,k2,k3⟩:=hok h0;have hd:a4U s=a9v s.fs.length (a0d s):=d9l k0;have hd2:c3c q v=b3P v:=d9l h0;rw [hd,hd2] at c1;have c2:=a9h s.fs.length (a0d s) (a4p (a1s k0)) v k2 hf.1 fun x hx=>⟨(k3 x hx).1,(k3 x hx).2.1⟩
 rw [d9l h0];refine goI dr0 e0 c1 c2 d9j d9j d9j d9j ?_;exact a0a (by rw [h0];rfl) IsPure.out
set_option maxHeartbeats 8000000
theorem b3q {l:List UInt8}(h:chk l=0):rR (a0e l)=str (sb l):=by unfold rR;rw [(a2u h).2.2.1]
theorem c2M {s:a1c}(h:a7y s=true):G40 s:=fun g hg=>by
 simp only [a7y,d9B,e0l,d9W] at h
 have:=h.2 g hg
 simp only [a7z,d9B,e0l] at this;exact ⟨a8E this.1.2,a8E this.2⟩
def t12 (l:List UInt8):Bool:=decide (l.length<=12)
def f12 (f:a1S):Bool:=t12 f.tol&&t12 f.step
def g12 (g:a1p):Bool:=g.least.all t12&&g.most.all t12
def b9c (s:a1c):Bool:=s.fs.all f12&&(s.gs.all g12&&decide (a0o s=0))
theorem d3J {l:List UInt8}{b:Bool}(h:t12 l=b):decide (((sb l).size:Int)>12) = !b:=by
 rw [a0x,<- h];exact b0A (b:=12)
theorem d5M (s:a1c)(hs:s.few):a0b C0 6 [s.D] (boo (b9c s)):=by
 refine a0c.walk w1 d6Y rfl fun F=>?_
 have el1:(((s.fs.map a1S.D).length:Nat):Int)=(s.fs.length:Int):=by rw [d9s]
 have el2:(((s.gs.map a1p.D).length:Nat):Int)=(s.gs.length:Int):=by rw [d9s]
 have c1:=d7A s hs;have l1:=hs.1;have l2:=hs.2.1;have hgf:=hs.2.2.2;have hq:b9c s=(s.fs.all f12&&(s.gs.all g12&&decide (a0o s=0))):=rfl;rw [hq];unfold a1c.D at c1 ⊢;refine goI dr0 kB d9j d9j d9j d9j d9j d9j ?_;refine OkS.loop (α:=Nat × Nat) (fun p=>⟨[(1,.optr 0 0 2 0 0),(3,i64 (p.1:Int))],[⟨0,0,25,2,[.agg [.sl false 4 (s.fs.map a1S.D),.sl false 3 (s.gs.map a1p.D)]]⟩],p.2⟩) (fun p=>s.fs.length - p.1) (fun p=>p.1<=s.fs.length/\(s.fs.take p.1).all f12=true) (0,_) ⟨d9U _,rfl⟩ wkI ?_;rintro ⟨i,m⟩ F ⟨hi,ha⟩;dsimp only at hi ha ⊢;rcases d9H i s.fs.length with h2|h2
 ·have e1:=ltT h2
  have wi:=wiI (i:=i) (by omega);obtain ⟨x,hx⟩:=a0I h2;have hm:(s.fs.map a1S.D)[i]? = some (.agg [str (sb x.name),str (sb x.tol),str (sb x.kind),str (sb x.step)]):=by rw [d9E,hx];rfl
  obtain ⟨p,hp⟩:∃ b,t12 x.tol=b:=⟨_,rfl⟩
  obtain ⟨q,hq⟩:∃ b,t12 x.step=b:=⟨_,rfl⟩
  have e2:=d3J hp;have e3:=d3J hq;have hf:f12 x=(p&&q):=by unfold f12;rw [hp,hq]
  cases p
  ·rw [a2t hx hf,e1o]
   refine goI dr0 (ff4 e1 e2 el1 kN) hm d9j d9j d9j d9j d9j ?_;exact a0a rfl IsPure.out
  cases q
  ·rw [a2t hx hf,e1o]
   refine goI dr0 (ff5 e1 e2 e3 el1 kN) hm d9j d9j d9j d9j d9j ?_;exact a0a rfl IsPure.out
  ·refine goI dr0 (ff6 e1 e2 e3 el1 wi kN) hm d9j d9j d9j d9j d9j ?_
   exact ⟨(i+1,_),⟨h2,a3F hx ha hf⟩,by dsimp only;omega,wkI⟩
 have e1:=ltF h2
 have:i=s.fs.length:=by omega
 subst this;rw [e0S] at ha;rw [ha,e1b];refine goI dr0 (ff2 e1 el1) d9j d9j d9j d9j d9j d9j ?_;refine OkS.loop (α:=Nat × Nat) (fun p=>⟨[(1,.optr 0 0 2 0 0),(4,i64 (p.1:Int))],[⟨0,0,25,2,[.agg [.sl false 4 (s.fs.map a1S.D),.sl false 3 (s.gs.map a1p.D)]]⟩],p.2⟩) (fun p=>s.gs.length - p.1) (fun p=>p.1<=s.gs.length/\(s.gs.take p.1).all g12=true) (0,_) ⟨d9U _,rfl⟩ wkI ?_;clear m ha h2 hi e1;rintro ⟨i,m⟩ F ⟨hi,ha⟩;dsimp only at hi ha ⊢;rcases d9H i s.gs.length with h2|h2
 rotate_left
 ·have e1:=ltF h2
  have:i=s.gs.length:=by omega
  subst this;rw [e0S] at ha;rw [ha,e1b];rcases Nat.decEq (a0o s) 0 with h|h
  ·have e2:=d6b h
   refine goI dr0 (ff3 e1 e2 el2) c1 d9j d9j d9j d9j d9j ?_;exact a0a (by rw [d9p h]) IsPure.out
  ·have e2:=d6c h
   refine goI dr0 (ff3 e1 e2 el2) c1 d9j d9j d9j d9j d9j ?_;exact a0a (by rw [d9q h]) IsPure.out
 have e1:=ltT h2;have wi:=wiI (i:=i) (by omega);obtain ⟨x,hx⟩:=a0I h2;have hm:(s.gs.map a1p.D)[i]? = some (.agg [str (sb x.name),.sl false 1 (x.least.map fun l=>str (sb l)),.sl false 1 (x.most.map fun l=>str (sb l))]):=by rw [d9E,hx];rfl
 have hxf:=hgf x (d9r hx);have l3:=hxf.2.1;have l4:=hxf.2.2.1;have el3:(((x.least.map fun l=>str (sb l)).length:Nat):Int)=(x.least.length:Int):=by rw [d9s]
 have el4:(((x.most.map fun l=>str (sb l)).length:Nat):Int)=(x.most.length:Int):=by rw [d9s]
 refine goI dr0 (ff2 e1 el2) d9j d9j d9j d9j d9j d9j ?_;refine OkS.loop (α:=Nat × Nat) (fun p=>⟨[(1,.optr 0 0 2 0 0),(4,i64 (i:Int)),(5,i64 (p.1:Int))],[⟨0,0,25,2,[.agg [.sl false 4 (s.fs.map a1S.D),.sl false 3 (s.gs.map a1p.D)]]⟩],p.2⟩) (fun p=>x.least.length - p.1) (fun p=>p.1<=x.least.length/\(x.least.take p.1).all t12=true) (0,_) ⟨d9U _,rfl⟩ wkI ?_;rintro ⟨j,m2⟩ F ⟨hj,hb⟩;dsimp only at hj hb ⊢;rcases d9H j x.least.length with h3|h3
 ·have e2:=ltT h3
  have wj:=wiI (i:=j) (by omega);obtain ⟨l,hl⟩:=a0I h3;have hm2:(x.least.map fun l=>str (sb l))[j]? = some (str (sb l)):=by rw [d9E,hl];rfl
  obtain ⟨p,hp⟩:∃ b,t12 l=b:=⟨_,rfl⟩
  have e3:=d3J hp;cases p
  ·have:g12 x=false:=by unfold g12;rw [a2t hl hp,e1o]
   rw [a2t hx this,e1o];refine goI dr0 (ff4 e2 e3 el3 kN) hm hm2 d9j d9j d9j d9j ?_;exact a0a rfl IsPure.out
  ·refine goI dr0 (ff5 e2 e3 el3 wj kN) hm hm2 d9j d9j d9j d9j ?_
   exact ⟨(j+1,_),⟨h3,a3F hl hb hp⟩,by dsimp only;omega,wkI⟩
 have e2:=ltF h3
 have:j=x.least.length:=by omega
 subst this;rw [e0S] at hb;refine goI dr0 (ff3 e2 el3 kN) hm d9j d9j d9j d9j d9j ?_;refine OkS.loop (α:=Nat × Nat) (fun p=>⟨[(1,.optr 0 0 2 0 0),(4,i64 (i:Int)),(6,i64 (p.1:Int))],[⟨0,0,25,2,[.agg [.sl false 4 (s.fs.map a1S.D),.sl false 3 (s.gs.map a1p.D)]]⟩],p.2⟩) (fun p=>x.most.length - p.1) (fun p=>p.1<=x.most.length/\(x.most.take p.1).all t12=true) (0,_) ⟨d9U _,rfl⟩ wkI ?_;rintro ⟨j,m3⟩ F ⟨hj,hc⟩;dsimp only at hj hc ⊢;rcases d9H j x.most.length with h4|h4
 ·have e2:=ltT h4
  have wj:=wiI (i:=j) (by omega);obtain ⟨l,hl⟩:=a0I h4;have hm2:(x.most.map fun l=>str (sb l))[j]? = some (str (sb l)):=by rw [d9E,hl];rfl
  obtain ⟨p,hp⟩:∃ b,t12 l=b:=⟨_,rfl⟩
  have e3:=d3J hp;cases p
  ·have:g12 x=false:=by unfold g12;rw [hb,a2t hl hp];rfl
   rw [a2t hx this,e1o];refine goI dr0 (ff4 e2 e3 el4 kN) hm hm2 d9j d9j d9j d9j ?_;exact a0a rfl IsPure.out
  ·refine goI dr0 (ff5 e2 e3 el4 wj kN) hm hm2 d9j d9j d9j d9j ?_
   exact ⟨(j+1,_),⟨h4,a3F hl hc hp⟩,by dsimp only;omega,wkI⟩
 have e4:=ltF h4
 have:j=x.most.length:=by omega
 subst this;rw [e0S] at hc;have hg:g12 x=true:=by unfold g12;rw [hb,hc];rfl
 refine goI dr0 (ff4 e4 el4 wi kN) hm d9j d9j d9j d9j d9j ?_;exact ⟨(i+1,_),⟨h2,a3F hx ha hg⟩,by dsimp only;omega,wkI⟩
theorem c7l (s:a1c)(hs:s.few)(v:List (List UInt8))(hf:Few v)(h:b6F s v=0):a0b C0 15 [s.D,txD false v] (.tup [i64 (a3b (a0d s) v:Nat),boo true]):=by
 refine a0c.walk w1 d4j rfl fun F=>?_
 have el2:(((s.gs.map a1p.D).length:Nat):Int)=(s.gs.length:Int):=by rw [d9s]
 have c1:=c7B s hs false v hf;rw [h] at c1;unfold b6U b4u at c1;rw [d9l rfl,d9l rfl] at c1;unfold a1c.D at c1 ⊢;have z0:((7:Int)==7)=true:=rfl;have z1:(((7:Nat):Int)==7)=true:=rfl;have z2:(((0:Nat):Int)==7)=false:=rfl;have z3:(((0:Nat):Int)==0)=true:=rfl;obtain ⟨A,hA⟩:∃ A,a3b (a0d s) v=A:=⟨_,rfl⟩
 rw [hA] at c1 ⊢
 by_cases g:A=s.gs.length
 ·rw [d9l g,d9l g] at c1
  refine goI dr0 (ff3 z0 z1 el2) c1 d9j d9j d9j d9j d9j ?_;exact a0a (by rw [g]) IsPure.out
 ·rw [d9m g,d9m g] at c1
  refine goI dr0 (ff3 z2 z3 el2) c1 d9j d9j d9j d9j d9j ?_;exact a0a rfl IsPure.out
set_option maxHeartbeats 4000000
theorem b2w (n:Nat):a1f (Lib.decDigits n)=true:=by
 obtain ⟨h1,h2,h3⟩:=a1u n;rcases e0m n with h|h
 ·have e:Lib.decDigits n=[48]:=by
   have:=b6u 0
   rw [h];exact d9N (this.trans (d9q rfl))
  rw [e];rfl
 ·obtain ⟨c,l,e,hc⟩:=c2j (Nat.pos_iff_ne_zero.1 h)
  rw [e] at h1 ⊢;unfold a1f c3T;rw [h1];simp [hc]
theorem b8y {n:Nat}{l:List UInt8}(h:n≠dv l):decide (Lib.decDigits n=l)=false:=d9p fun e=>h (by rw [<- e,(a1u n).2.1])
theorem c6w {r:Rat}(h:c8Z r=false):chk (txt r)=0:=by
 have hs:a0Q (txt r)=Lib.decDigits r.num.natAbs:=by unfold a0Q;rw [a9I,(a6u _).2]
 have hd:=a7o r;have hh:=b1U r;unfold c8Z at h;simp only [e1C,e1H] at h;have hb:a4j (txt r)=false:=by
  rw [a5h,hs,b1W,hh,b2w];have e1:(decide (r.num<0)&&decide (Lib.decDigits r.num.natAbs=[48]))=false:=by
   by_cases g:r.num<0
   ·rw [b8y (show r.num.natAbs≠dv [48] by show r.num.natAbs≠0;omega),Bool.and_false]
   ·rw [d9p g,e1o]
  rw [e1]
  by_cases g:r.den=1
  ·rw [d9q g];rfl
  ·rw [hd,d9m g,b2w,b8y (show r.den≠dv [48] from r.den_nz),b8y (show r.den≠dv [49] from g),d9p g];rfl
 unfold chk;rw [hb,d9m (by decide),hs]
 by_cases g:r.den=1
 ·rw [hd,d9l g,hh,d9q g,d9m (by simp;omega),d9m (fun k=>d9n k.1 (by decide))]
 ·rw [hd,d9m g,(a1u _).2.1,(a1u _).2.1,d9m (by omega),d9m (fun k=>k.2 r.reduced)]
theorem b3t (r:Rat):a0e (txt r)=r:=by
 unfold a0e b6g;rw [a9I,c0Z,b1U,a7o]
 by_cases g:r.den=1
 ·rw [d9q g]
  show mkRat r.num 1=r;rw [<- g];exact Rat.mkRat_self r
 ·rw [d9p g,d9m g,(a1u _).2.1]
  exact Rat.mkRat_self r
theorem c3i:a0e [49,47,50]=a5C:=by kernel_rfl
theorem c7I:rR a5C=str ⟨#[49,47,50]⟩:=by
 rw [<- c3i,b3q (by kernel_rfl)];all_goals rfl
theorem b8u {a b:Rat}:a1H a b<0↔a<b:=by
 unfold a1H;split
 ·rename_i h;exact ⟨fun _=>h,fun _=>by decide⟩
 ·rename_i h
  split
  ·exact ⟨fun k=>d9n k (by decide),fun k=>d9n k h⟩
  ·exact ⟨fun k=>d9n k (by decide),fun k=>d9n k h⟩
theorem b4g {a b:Rat}:a1H a b>0↔b<a:=by
 unfold a1H;split
 ·rename_i h;exact ⟨fun k=>d9n k (by decide),fun k=>by grind⟩
 ·split
  ·rename_i h;exact ⟨fun _=>h,fun _=>by decide⟩
  ·rename_i h;exact ⟨fun k=>d9n k (by decide),fun k=>d9n k h⟩
theorem a8y {a b:Rat}:¬ a1H a b>0↔a<=b:=by rw [b4g];exact Rat.not_lt
theorem b1a {a b:List UInt8}{x:Rat}:a2E a b x=true↔(a≠[]->a0e a<=x)/\(b≠[]->x<=a0e b):=by
 unfold a2E;simp only [d9B,e2d,e0l];have h1:a1H x (a0e a)>=0↔a0e a<=x:=by rw [<- Rat.not_lt,<- b8u];omega
 have h2:a1H x (a0e b)<=0↔x<=a0e b:=by rw [<- a8y];omega
 rw [h1,h2];constructor
 ·rintro ⟨k1,k2⟩
  exact ⟨fun h=>k1.resolve_left h,fun h=>k2.resolve_left h⟩
 ·rintro ⟨k1,k2⟩
  exact ⟨(Decidable.em (a=[])).imp id k1,(Decidable.em (b=[])).imp id k2⟩
def inS (s:SpT)(x:Rat):Prop:=a0e s.lo<=x/\x<=a0e s.hi
theorem c5z (a b:List UInt8)(s:SpT):((a7h a b s).lo=s.lo/\(a≠[]->a0e a<=a0e s.lo))\/((a7h a b s).lo=a/\a≠[]/\a0e s.lo<a0e a):=by
 unfold a7h;dsimp only;split
 ·rename_i h
  rw [d9B,e0l,e0l,b8u] at h;exact .inr ⟨rfl,h.1,h.2⟩
 ·rename_i h
  rw [d9B,e0l,e0l,b8u] at h;exact .inl ⟨rfl,fun h1=>Rat.not_lt.1 fun h2=>h ⟨h1,h2⟩⟩
theorem c5y (a b:List UInt8)(s:SpT):((a7h a b s).hi=s.hi/\(b≠[]->a0e s.hi<=a0e b))\/((a7h a b s).hi=b/\b≠[]/\a0e b<a0e s.hi):=by
 unfold a7h;dsimp only;split
 ·rename_i h
  rw [d9B,e0l,e0l,b4g] at h;exact .inr ⟨rfl,h.1,h.2⟩
 ·rename_i h
  rw [d9B,e0l,e0l,b4g] at h;exact .inl ⟨rfl,fun h1=>Rat.not_lt.1 fun h2=>h ⟨h1,h2⟩⟩
theorem c7s {a b:List UInt8}{s:SpT}:c5x a b s=true↔a0e (a7h a b s).lo<=a0e (a7h a b s).hi:=by
 unfold c5x;rw [e0l,<- a8y];omega
theorem a2Y {a b:List UInt8}{s:SpT}{x:Rat}:inS (a7h a b s) x↔inS s x/\a2E a b x=true:=by
 rw [b1a];unfold inS;rcases c5z a b s with ⟨h1,h2⟩|⟨h1,h2,h3⟩<;>rcases c5y a b s with ⟨k1,k2⟩|⟨k1,k2,k3⟩<;>rw [h1,k1]
 ·exact ⟨fun h=>⟨h,fun q=>Rat.le_trans (h2 q) h.1,fun q=>Rat.le_trans h.2 (k2 q)⟩,fun h=>h.1⟩
 ·exact ⟨fun h=>⟨⟨h.1,Rat.le_trans h.2 (Rat.le_of_lt k3)⟩,fun q=>Rat.le_trans (h2 q) h.1,fun q=>h.2⟩,fun h=>⟨h.1.1,h.2.2 k2⟩⟩
 ·exact ⟨fun h=>⟨⟨Rat.le_trans (Rat.le_of_lt h3) h.1,h.2⟩,fun q=>h.1,fun q=>Rat.le_trans h.2 (k2 q)⟩,fun h=>⟨h.2.1 h2,h.1.2⟩⟩
 ·exact ⟨fun h=>⟨⟨Rat.le_trans (Rat.le_of_lt h3) h.1,Rat.le_trans h.2 (Rat.le_of_lt k3)⟩,fun q=>h.1,fun q=>h.2⟩,fun h=>⟨h.2.1 h2,h.2.2 k2⟩⟩
theorem b7H {a b:List UInt8}{x y z:Rat}(hx:a2E a b x=true)(hz:a2E a b z=true)(h1:x<=y)(h2:y<=z):a2E a b y=true:=by
 rw [b1a] at *;exact ⟨fun h=>Rat.le_trans (hx.1 h) h1,fun h=>Rat.le_trans h2 (hz.2 h)⟩
theorem a3h {a b:List UInt8}{s:SpT}(h:c5x a b s=true):inS (a7h a b s) (a0e (a7h a b s).lo)/\inS (a7h a b s) (a0e (a7h a b s).hi):=by
 rw [c7s] at h;exact ⟨⟨Rat.le_refl,h⟩,⟨h,Rat.le_refl⟩⟩
theorem a2w {s:a1c}(h:a0o s=0){g k:Nat}(hg:g<s.gs.length)(hk:k<s.fs.length)(x:Rat):a0C (a0d s) k x<=g↔d5l (a0d s) g k x=true:=by
 have hs:=a1s h;rw [b6V hs hk,c7N h hg hk,c7d hs hg hk]
structure b2e (s:a1c)(k:Nat)(x:SpT)(M:List Rat):Prop where
 lo:a0e x.lo∈M
 hi:a0e x.hi∈M
 lim1:∀ g,g<s.gs.length->(pv (a4h (a0d s) g) k).1≠[]->inS x (a0e (pv (a4h (a0d s) g) k).1)->a0e (pv (a4h (a0d s) g) k).1∈M
 lim2:∀ g,g<s.gs.length->(pv (a4h (a0d s) g) k).2≠[]->inS x (a0e (pv (a4h (a0d s) g) k).2)->a0e (pv (a4h (a0d s) g) k).2∈M
 sub:∀ m∈M,inS x m
theorem b0K {s:a1c}{k g:Nat}{x:SpT}{M:List Rat}(hM:b2e s k x M)(hg:g<s.gs.length)(h:a4f (a0d s) g k x=true):a0e (a3B (a0d s) g k x).lo∈M:=by
 have h2:=(a2Y.1 (a3h h).1).1;rcases c5z (pv (a4h (a0d s) g) k).1 (pv (a4h (a0d s) g) k).2 x with ⟨h1,-⟩|⟨h1,h3,-⟩
 ·unfold a3B;rw [h1];exact hM.lo
 ·unfold a3B;rw [h1] at h2 ⊢;exact hM.lim1 g hg h3 h2
theorem b7g {s:a1c}{k g:Nat}{x:SpT}{M:List Rat}(hM:b2e s k x M)(hg:g<s.gs.length)(h:a4f (a0d s) g k x=true):a0e (a3B (a0d s) g k x).hi∈M:=by
 have h2:=(a2Y.1 (a3h h).2).1;rcases c5y (pv (a4h (a0d s) g) k).1 (pv (a4h (a0d s) g) k).2 x with ⟨h1,-⟩|⟨h1,h3,-⟩
 ·unfold a3B;rw [h1];exact hM.hi
 ·unfold a3B;rw [h1] at h2 ⊢;exact hM.lim2 g hg h3 h2
theorem c9b {s:a1c}(h:a0o s=0){g k:Nat}(hg:g<=s.gs.length)(hk:k<s.fs.length){x:SpT}{M:List Rat}(hM:b2e s k x M):btB (a0d s) k g x=true↔∃ m∈M,a0C (a0d s) k m<=g:=by
 unfold btB;rw [a1z]
 by_cases h1:g=s.gs.length
 ·rw [d9l h1]
  exact ⟨fun _=>⟨_,hM.lo,by rw [h1,<- a1z];exact a5m ..⟩,fun _=>rfl⟩
 rw [d9m h1];have hg':g<s.gs.length:=by omega
 constructor
 ·intro h2
  exact ⟨_,b0K hM hg' h2,(a2w h hg' hk _).2 (a2Y.1 (a3h h2).1).2⟩
 ·rintro ⟨m,hm,hle⟩
  have h3:=a2Y.2 ⟨hM.sub m hm,(a2w h hg' hk m).1 hle⟩;exact c7s.2 (Rat.le_trans h3.1 h3.2)
theorem b2P {s:a1c}(h:a0o s=0){g k:Nat}(hg:g<=s.gs.length)(hk:k<s.fs.length){x y z:Rat}(hx:a0C (a0d s) k x<g)(hz:a0C (a0d s) k z<g)(h1:x<=y)(h2:y<=z):a0C (a0d s) k y<g:=by
 have k1:=(a2w h (show g - 1<s.gs.length by omega) hk x).1 (by omega);have k2:=(a2w h (show g - 1<s.gs.length by omega) hk z).1 (by omega);have k3:=(a2w h (show g - 1<s.gs.length by omega) hk y).2 (b7H k1 k2 h1 h2);omega
theorem d3x {s:a1c}(h:a0o s=0){g k:Nat}(hg:g<=s.gs.length)(hk:k<s.fs.length){x:SpT}{M:List Rat}(hM:b2e s k x M):(vlO (a0d s) k g x).isSome=true↔∃ m∈M,a0C (a0d s) k m=g:=by
 have hv:vlO (a0d s) k g x=if vlQ (a0d s) k g x then none else if vlL (a0d s) k g (vlT (a0d s) k g x).lo then some (vlT (a0d s) k g x).lo else if vlL (a0d s) k g (vlT (a0d s) k g x).hi then some (vlT (a0d s) k g x).hi else none:=rfl
 have hQ:vlQ (a0d s) k g x=(decide (g<s.gs.length) && !a4f (a0d s) g k x):=by unfold vlQ;rw [a1z]
 have hT:vlT (a0d s) k g x=if g<s.gs.length then a3B (a0d s) g k x else x:=by unfold vlT;rw [a1z]
 have hl:vlQ (a0d s) k g x=false->a0e (vlT (a0d s) k g x).lo∈M/\a0e (vlT (a0d s) k g x).hi∈M/\a0C (a0d s) k (a0e (vlT (a0d s) k g x).lo)<=g/\a0C (a0d s) k (a0e (vlT (a0d s) k g x).hi)<=g:=fun hq=>by
  rw [hT]
  by_cases h1:g<s.gs.length
  ·rw [d9l h1]
   rw [hQ,d9q h1,e1b,d9x] at hq;exact ⟨b0K hM h1 hq,b7g hM h1 hq,(a2w h h1 hk _).2 (a2Y.1 (a3h hq).1).2,(a2w h h1 hk _).2 (a2Y.1 (a3h hq).2).2⟩
  ·rw [d9m h1]
   have:g=(a0d s).length:=by rw [a1z];omega
   rw [this];exact ⟨hM.lo,hM.hi,a5m ..,a5m ..⟩
 rw [hv];constructor
 ·intro h1
  split at h1
  ·cases h1
  rename_i h2;obtain ⟨l1,l2,-,-⟩:=hl (Bool.eq_false_iff.2 h2);split at h1
  ·rename_i h3
   exact ⟨_,l1,d9N h3⟩
  split at h1
  ·rename_i h3
   exact ⟨_,l2,d9N h3⟩
  ·cases h1
 ·rintro ⟨m,hm,he⟩
  have hms:=hM.sub m hm;have hq:vlQ (a0d s) k g x=false:=by
   rw [hQ]
   by_cases h1:g<s.gs.length
   ·have h3:=a2Y.2 ⟨hms,(a2w h h1 hk m).1 (by omega)⟩
    rw [show a4f (a0d s) g k x=true from c7s.2 (Rat.le_trans h3.1 h3.2)];simp
   ·rw [d9p h1];rfl
  obtain ⟨-,-,g1,g2⟩:=hl hq;rw [d9m (by rw [hq];decide)];have hin:inS (vlT (a0d s) k g x) m:=by
   rw [hT]
   by_cases h1:g<s.gs.length
   ·rw [d9l h1];exact a2Y.2 ⟨hms,(a2w h h1 hk m).1 (by omega)⟩
   ·rw [d9m h1];exact hms
  split
  ·rfl
  rename_i h3;split
  ·rfl
  rename_i h4;have h3:=d9I (Bool.eq_false_iff.2 h3);have h4:=d9I (Bool.eq_false_iff.2 h4)
  have:=b2P h hg hk (show _<g by omega) (show _<g by omega) hin.1 hin.2
  omega
def inT (a:List UInt8)(x:SpT):Bool:=!decide (a=[])&&(decide (a1H (a0e x.lo) (a0e a)<=0)&&decide (a1H (a0e a) (a0e x.hi)<=0))
def b2A (gs:List a1p)(k:Nat)(x:SpT):Nat->List (List UInt8)
 | 0=>[x.lo,x.hi]
 | g+1=>b2A gs k x g++(if inT (lv (gs.getD g default).least k) x then [lv (gs.getD g default).least k] else [])++(if inT (lv (gs.getD g default).most k) x then [lv (gs.getD g default).most k] else [])
def bub:Nat->List (List UInt8)->List (List UInt8)
 | 0,L=>L
 | j+1,L=>if a1H (a0e (lv L (j+1))) (a0e (lv L j))<0 then bub j ((L.set (j+1) (lv L j)).set j (lv L (j+1))) else L
def b7z (E:List (List UInt8)):Nat->List (List UInt8)
 | 0=>E
 | i+1=>bub i (b7z E i)
def b9W (a b:List UInt8):List UInt8:=txt ((a0e a+a0e b)*a5C)
def b7l (L:List (List UInt8)):Nat->List (List UInt8)
 | 0=>[]
 | i+1=>b7l L i++(if 0<i then [b9W (lv L (i - 1)) (lv L i)] else [])++[lv L i]
def b5Q (gs:List a1p)(k:Nat)(x:SpT):List (List UInt8):=b2A gs k x gs.length
def b0I (gs:List a1p)(k:Nat)(x:SpT):List (List UInt8):=b7z (b5Q gs k x) (b5Q gs k x).length
def c5u (gs:List a1p)(k:Nat)(x:SpT):List (List UInt8):=b7l (b0I gs k x) (b0I gs k x).length
theorem a8Z {L:List (List UInt8)}{i:Nat}(h:i<L.length):lv L i∈L:=by
 unfold lv;rw [d9T,d9t h];exact List.getElem_mem h
theorem b9V {L:List (List UInt8)}{m:List UInt8}(h:m∈L):∃ i,i<L.length/\lv L i=m:=by
 obtain ⟨i,hi,e⟩:=e1x h;exact ⟨i,hi,by unfold lv;rw [d9T,d9t hi,e];rfl⟩
theorem b5O {L:List (List UInt8)}{i j:Nat}{m:List UInt8}(h:i<L.length):lv (L.set i m) j=if i=j then m else lv L j:=by
 unfold lv;rw [d9T,d9T];split
 ·rename_i e;subst e;rw [e1T h];rfl
 ·rename_i e;rw [e0N e]
theorem c3z {L:List (List UInt8)}{j:Nat}(h:j+1<L.length)(m:List UInt8):m∈(L.set (j+1) (lv L j)).set j (lv L (j+1))↔m∈L:=by
 constructor
 ·intro hm
  obtain ⟨i,hi,rfl⟩:=b9V hm;rw [e0i,e0i] at hi;rw [b5O (by rw [e0i];omega),b5O h];split
  ·exact a8Z h
  ·split
   ·exact a8Z (by omega)
   ·exact a8Z hi
 ·intro hm
  obtain ⟨i,hi,rfl⟩:=b9V hm;have key:∀ q,q<L.length->lv ((L.set (j+1) (lv L j)).set j (lv L (j+1))) q∈(L.set (j+1) (lv L j)).set j (lv L (j+1)):=fun q hq=>a8Z (by rw [e0i,e0i];exact hq)
  have val:∀ q,lv ((L.set (j+1) (lv L j)).set j (lv L (j+1))) q=if j=q then lv L (j+1) else if j+1=q then lv L j else lv L q:=fun q=>by
   rw [b5O (by rw [e0i];omega),b5O h]
  by_cases h1:i=j
  ·have:=key (j+1) h
   rw [val,d9m (by omega),d9l rfl] at this;rw [h1];exact this
  ·by_cases h2:i=j+1
   ·have:=key j (by omega)
    rw [val,d9l rfl] at this;rw [h2];exact this
   ·have:=key i hi
    rw [val,d9m (by omega),d9m (by omega)] at this;exact this
theorem b8i:∀ (j:Nat) (L:List (List UInt8)),(bub j L).length=L.length
 | 0,L=>rfl
 | j+1,L=>by
  unfold bub;split
  ·rw [b8i j,e0i,e0i]
  ·rfl
theorem b8j:∀ (j:Nat) (L:List (List UInt8)),j<L.length->∀ m,m∈bub j L↔m∈L
 | 0,L,_,m=>Iff.rfl
 | j+1,L,h,m=>by
  unfold bub;split
  ·rw [b8j j _ (by rw [e0i,e0i];omega),c3z h]
  ·exact Iff.rfl
theorem c1q (E:List (List UInt8)):∀ i,(b7z E i).length=E.length
 | 0=>rfl
 | i+1=>by unfold b7z;rw [b8i,c1q E i]
theorem c1r (E:List (List UInt8)):∀ i,i<=E.length->∀ m,m∈b7z E i↔m∈E
 | 0,_,m=>Iff.rfl
 | i+1,h,m=>by unfold b7z;rw [b8j _ _ (by rw [c1q];exact h),c1r E i (by omega)]
theorem b0J (gs:List a1p)(k:Nat)(x:SpT)(m:List UInt8):m∈b0I gs k x↔m∈b5Q gs k x:=c1r _ _ (d9y _) m
theorem b4H {L:List (List UInt8)}:∀ n,n<=L.length->(∀ i,i<n->lv L i∈b7l L n)/\∀ m∈b7l L n,m∈L\/∃ a∈L,∃ b∈L,m=b9W a b
 | 0,_=>⟨fun i hi=>d9n hi (e0L i),fun m hm=>by cases hm⟩
 | n+1,h=>by
  obtain ⟨h1,h2⟩:=b4H (L:=L) n (by omega);refine ⟨fun i hi=>?_,fun m hm=>?_⟩
  ·unfold b7l
   rcases d9H i n with g|g
   ·exact e1h _ (e1h _ (h1 i g))
   ·have:i=n:=by omega
    subst this;exact List.mem_append_right _ (List.mem_singleton.2 rfl)
  ·unfold b7l at hm
   rcases List.mem_append.1 hm with hm|hm
   ·rcases List.mem_append.1 hm with hm|hm
    ·exact h2 m hm
    ·split at hm
     ·exact .inr ⟨_,a8Z (L:=L) (i:=n - 1) (by omega),_,a8Z (L:=L) (i:=n) (by omega),List.mem_singleton.1 hm⟩
     ·cases hm
   ·exact .inl (by rw [List.mem_singleton.1 hm];exact a8Z (L:=L) (by omega))
theorem b4x {a:List UInt8}{x:SpT}:inT a x=true↔a≠[]/\inS x (a0e a):=by
 unfold inT inS;have e:∀ p q:Rat,a1H p q<=0↔p<=q:=fun p q=>by rw [<- a8y];omega
 rw [d9B,d9B,d9w,e1H,e0l,e0l,e,e]
theorem a5k {gs:List a1p}{k:Nat}{x:SpT}{m:List UInt8}:∀ n,m∈b2A gs k x n↔m=x.lo\/m=x.hi\/∃ g,g<n/\(m=lv (gs.getD g default).least k\/m=lv (gs.getD g default).most k)/\inT m x=true
 | 0=>by
  unfold b2A;constructor
  ·intro h
   rcases d9F.1 h with h|h
   ·exact .inl h
   ·exact .inr (.inl (List.mem_singleton.1 h))
  ·rintro (h|h|⟨g,hg,-⟩)
   ·rw [h];exact e0T
   ·rw [h];exact e0t _ (List.mem_singleton.2 rfl)
   ·exact d9n hg (e0L g)
 | n+1=>by
  unfold b2A;have ih:=a5k (gs:=gs) (k:=k) (x:=x) (m:=m) n;rw [List.mem_append,List.mem_append,ih];constructor
  ·rintro ((h|h)|h)
   ·rcases h with h|h|⟨g,hg,h⟩
    ·exact .inl h
    ·exact .inr (.inl h)
    ·exact .inr (.inr ⟨g,by omega,h⟩)
   ·split at h
    ·rename_i q
     have e:=List.mem_singleton.1 h;exact .inr (.inr ⟨n,by omega,.inl e,by rw [e];exact q⟩)
    ·cases h
   ·split at h
    ·rename_i q
     have e:=List.mem_singleton.1 h;exact .inr (.inr ⟨n,by omega,.inr e,by rw [e];exact q⟩)
    ·cases h
  ·rintro (h|h|⟨g,hg,h,q⟩)
   ·exact .inl (.inl (.inl h))
   ·exact .inl (.inl (.inr (.inl h)))
   ·rcases d9H g n with g1|g1
    ·exact .inl (.inl (.inr (.inr ⟨g,g1,h,q⟩)))
    ·have:g=n:=by omega
     subst this;rcases h with h|h
     ·exact .inl (.inr (by rw [<- h,d9l q];exact List.mem_singleton.2 rfl))
     ·exact .inr (by rw [<- h,d9l q];exact List.mem_singleton.2 rfl)
theorem c5v {x:SpT}{p q:Rat}(hp:inS x p)(hq:inS x q):inS x ((p+q)*a5C):=by
 have e:a5C+a5C=1:=by kernel_rfl
 have h0:(0:Rat)<=a5C:=by decide
 have f:∀ r:Rat,r=(r+r)*a5C:=fun r=>by
  rw [Rat.add_mul,<- Rat.mul_add,e,Rat.mul_one]
 constructor
 ·rw [f (a0e x.lo)]
  exact Rat.mul_le_mul_of_nonneg_right (by have:=hp.1;have:=hq.1;grind) h0
 ·rw [f (a0e x.hi)]
  exact Rat.mul_le_mul_of_nonneg_right (by have:=hp.2;have:=hq.2;grind) h0
theorem c0H (a b:List UInt8):a0e (b9W a b)=(a0e a+a0e b)*a5C:=b3t _
theorem b9T {s:a1c}(h:a0o s=0){k:Nat}(hk:k<s.fs.length){x:SpT}(hx:a0e x.lo<=a0e x.hi):b2e s k x ((c5u s.gs k x).map a0e):=by
 have hs:=a1s h;have hE:∀ m,m∈b5Q s.gs k x->a0e m∈(c5u s.gs k x).map a0e:=fun m hm=>by
  obtain ⟨i,hi,e⟩:=b9V ((b0J s.gs k x m).2 hm);exact List.mem_map.2 ⟨m,by rw [<- e];exact (b4H (L:=b0I s.gs k x) _ (d9y _)).1 i hi,rfl⟩
 have hp:∀ g,g<s.gs.length->pv (a4h (a0d s) g) k=(lv (s.gs.getD g default).least k,lv (s.gs.getD g default).most k):=fun g hg=>by
  rw [b3y hg,c0D (d2x hs hg) hk]
 have hsub:∀ m,m∈b0I s.gs k x->inS x (a0e m):=fun m hm=>by
  rcases (a5k _).1 ((b0J s.gs k x m).1 hm) with e|e|⟨g,-,-,q⟩
  ·rw [e];exact ⟨Rat.le_refl,hx⟩
  ·rw [e];exact ⟨hx,Rat.le_refl⟩
  ·exact (b4x.1 q).2
 refine ⟨hE _ ((a5k _).2 (.inl rfl)),hE _ ((a5k _).2 (.inr (.inl rfl))),fun g hg h1 h2=>?_,fun g hg h1 h2=>?_,fun m hm=>?_⟩
 ·rw [hp g hg] at h1 h2 ⊢
  exact hE _ ((a5k _).2 (.inr (.inr ⟨g,hg,.inl rfl,b4x.2 ⟨h1,h2⟩⟩)))
 ·rw [hp g hg] at h1 h2 ⊢
  exact hE _ ((a5k _).2 (.inr (.inr ⟨g,hg,.inr rfl,b4x.2 ⟨h1,h2⟩⟩)))
 ·obtain ⟨t,ht,rfl⟩:=List.mem_map.1 hm
  rcases (b4H (L:=b0I s.gs k x) _ (d9y _)).2 t ht with h1|⟨a,ha,b,hb,rfl⟩
  ·exact hsub t h1
  ·rw [c0H];exact c5v (hsub a ha) (hsub b hb)
set_option maxHeartbeats 8000000
theorem b5R {f:Nat->Nat}:∀ {n:Nat},0<a5U f n->∃ k,k<n/\f k=a5U f n
 | 0,h=>d9n h (Nat.lt_irrefl _)
 | n+1,h=>by
  have e:a5U f (n+1)=max (a5U f n) (f n):=rfl;rw [e] at h ⊢;rcases Nat.le_total (a5U f n) (f n) with q|q
  ·exact ⟨n,e1L n,(Nat.max_eq_right q).symm⟩
  ·rw [Nat.max_eq_left q] at h ⊢
   obtain ⟨k,hk,e⟩:=b5R h;exact ⟨k,by omega,e⟩
theorem b5S {f:Nat->Nat}{n k:Nat}(hk:k<n):f k<=a5U f n:=(a9c n).1 (d9y _) k hk
set_option maxHeartbeats 4000000
theorem b6y {G:List (List LP)}{g:Nat}{v:List SpT}:(b6x G g v).isSome=true↔(∀ k,k<v.length->btB G k g (sv v k)=true)/\∃ k,k<v.length/\(vlO G k g (sv v k)).isSome=true:=by
 unfold b6x;split
 ·rename_i h
  rw [Option.isSome_map];have hB:∀ k,k<v.length->btB G k g (sv v k)=true:=fun k hk=>d9W.1 h k (List.mem_range.2 hk)
  unfold d3H;rw [List.find?_isSome];exact ⟨fun ⟨k,hk,q⟩=>⟨hB,k,List.mem_range.1 hk,q⟩,fun ⟨_,k,hk,q⟩=>⟨k,List.mem_range.2 hk,q⟩⟩
 ·rename_i h
  exact ⟨fun q=>d9n q (by decide),fun q=>d9n (b5f q.1) h⟩
theorem c5Y {v:List SpT}{k:Nat}(h:k<v.length):sv v k∈v:=by
 unfold sv;rw [d9T,d9t h];exact List.getElem_mem h
theorem a6S {s:a1c}{v:List SpT}(h:a5B s v=0){k:Nat}(hk:k<v.length):chk (sv v k).lo=0/\chk (sv v k).hi=0/\a0e (sv v k).lo<=a0e (sv v k).hi:=by
 obtain ⟨-,-,k3⟩:=a3r h;obtain ⟨a,b,c⟩:=k3 _ (c5Y hk);exact ⟨a,b,a8y.1 c⟩
theorem d5V {s:a1c}(h:a0o s=0){g k:Nat}(hk:k<s.fs.length){x:SpT}(h1:chk x.lo=0)(h2:chk x.hi=0)(h3:a0e x.lo<=a0e x.hi){l:List UInt8}(hv:vlO (a0d s) k g x=some l):chk l=0/\inS x (a0e l)/\a0C (a0d s) k (a0e l)=g:=by
 obtain ⟨z1,z2⟩:=c1E (g:=g) (a4p (a1s h)) hk h1 h2;have hin:vlQ (a0d s) k g x=false->inS x (a0e (vlT (a0d s) k g x).lo)/\inS x (a0e (vlT (a0d s) k g x).hi):=fun hq=>by
  unfold vlT
  by_cases q:g<(a0d s).length
  ·rw [d9l q]
   unfold vlQ at hq;rw [d9q q,e1b,d9x] at hq;exact ⟨(a2Y.1 (a3h hq).1).1,(a2Y.1 (a3h hq).2).1⟩
  ·rw [d9m q]
   exact ⟨⟨Rat.le_refl,h3⟩,⟨h3,Rat.le_refl⟩⟩
 unfold vlO at hv;split at hv
 ·cases hv
 rename_i q;have hin:=hin (Bool.eq_false_iff.2 q);split at hv
 ·rename_i q;cases hv;exact ⟨z1,hin.1,d9N q⟩
 split at hv
 ·rename_i q;cases hv;exact ⟨z2,hin.2,d9N q⟩
 ·cases hv
theorem c7f {l:List Nat}{i a:Nat}(h:l[i]? = some a):(a1J l)[i]? = some (i64 (a:Int)):=by
 rw [d9E,h];rfl
theorem b4i {l:List Nat}{i a:Nat}(h:l[i]? = some a):l.contains a=true:=by
 rw [List.contains_iff_mem];exact d9r h
theorem b1m {l:List Nat}{a:Nat}(h:∀ (j x:Nat),j<l.length->l[j]? = some x->x≠a):l.contains a=false:=by
 rw [Bool.eq_false_iff];intro k;obtain ⟨j,hj⟩:=List.mem_iff_getElem?.1 (List.contains_iff_mem.1 k);exact h j a (List.getElem?_eq_some_iff.1 hj).1 hj rfl
theorem d7q (b:Bool)(l:List Nat)(g:Nat)(hl:l.length<=100000):a0b C0 50 [.sl b 1 (a1J l),i64 (g:Int)] (boo (l.contains g)):=by
 refine a0c.walk w1 d4I rfl fun F=>?_
 have el:(((a1J l).length:Nat):Int)=(l.length:Int):=by rw [d9s]
 have pL:IsPure (.sl b 1 (a1J l)):=d9k;have hat:∀ (i a:Nat),l[i]? = some a->(a1J l)[i]? = some (i64 (a:Int)):=fun i a h=>c7f h
 generalize a1J l=L at *;refine goI dr0 el d9j d9j d9j d9j d9j d9j ?_;refine OkS.loop (α:=Nat × Nat) (fun p=>⟨[(0,.sl b 1 L),(1,i64 (g:Int)),(5,i64 (p.1:Int))],[],p.2⟩) (fun p=>l.length - p.1) (fun p=>p.1<=l.length/\∀ (j x:Nat),j<p.1->l[j]? = some x->x≠g) (0,_) ⟨d9U _,fun j x hj=>d9n hj (e0L j)⟩ wkI ?_;rintro ⟨i,m⟩ F ⟨hi,ha⟩;dsimp only at hi ha ⊢;rcases d9H i l.length with h2|h2
 ·have e1:=ltT h2
  have wi:=wiI (i:=i) (by omega);obtain ⟨a,hla⟩:=a0I h2;have hm:=hat i a hla;have e2:=c2X a g
  by_cases h3:a=g
  ·rw [d9q h3] at e2
   subst h3;rw [b4i hla];refine goI dr0 (ff4 e1 e2 el kN) hm d9j d9j d9j d9j d9j ?_;exact a0a rfl IsPure.out
  ·rw [d9p h3] at e2
   refine goI dr0 (ff5 e1 e2 el wi kN) hm d9j d9j d9j d9j d9j ?_;exact ⟨(i+1,_),⟨h2,fun j x hj hx=>by
    rcases d9H j i with q|q
    ·exact ha j x q hx
    ·have:j=i:=by dsimp only at hj;omega
     subst this;rw [hla] at hx;cases hx;exact h3⟩,by dsimp only;omega,wkI⟩
 ·have e1:=ltF h2
  have:i=l.length:=by omega
  subst this;rw [b1m ha];refine goI dr0 (ff2 e1 el) d9j d9j d9j d9j d9j d9j ?_;exact a0a rfl IsPure.out
theorem d7o (b:Bool)(l:List Nat)(g:Nat)(hl:l.length<=100000):a0b C0 16 [.sl b 1 (a1J l),i64 (g:Int)] (boo (l.contains g)):=by
 refine a0c.walk w1 d4k rfl fun F=>?_
 have c:=d7q b l g hl;have pL:IsPure (.sl b 1 (a1J l)):=d9k;generalize a1J l=L at *;refine goI dr0 kB c d9j d9j d9j d9j d9j ?_;exact a0a rfl IsPure.out
theorem d5N (r:Rat)(k:Nat)(h:rk r k)(hk:k<10000):a0b C0 12 [rR r] (rR (r*a5C)):=by
 refine a0c.walk w1 d4g rfl fun F=>?_
 have c:=d7r r a5C k 1 h c7b.rk (by omega);rw [c7I] at c;refine goI dr0 kB c d9j d9j d9j d9j d9j ?_;exact a0a rfl IsPure.out
abbrev tsD (l:List (List UInt8)):List D:=l.map fun l=>str (sb l)
theorem d3q {a b:Rat}(ha:nb a E40 E40)(hb:nb b E40 E40):rk (a+b) 6:=d2H (c5A ha hb) (by decide) (by decide)
theorem c7n {a b:Rat}(ha:nb a E40 E40)(hb:nb b E40 E40):c8Z ((a+b)*a5C)=false :=
 d2F (d2G (c5A ha hb) (⟨by decide,by decide⟩:nb a5C 1 2)) (by decide) (by decide)
theorem d2C (a b:List UInt8):rR ((a0e a+a0e b)*a5C)=str (sb (b9W a b)):=rfl
def P40 (v:List SpT):Prop:=∀ x∈v,x.lo.length<=40/\x.hi.length<=40
abbrev b1o:Dr:=[(7,[0,1,2,3,4,5],[6,7])]
abbrev a6V:Dr:=[(3,[0,1,2,3,4],[5,6,7,8]),(6,[0,1,2,3,4,5,6,7,8,9,10,11,12,13,14,15,16,17],[18]),(9,[0,1,2,3,4],[5,6,7,8,9])]
open Go.Proofs Go.RowKit
set_option maxRecDepth 20000
set_option maxHeartbeats 4000000
theorem b2e.cons {s:a1c}{k:Nat}{x:SpT}{M:List Rat}(h:b2e s k x M){y:Rat}(hy:inS x y):b2e s k x (y::M) :=
 ⟨e0t _ h.lo,e0t _ h.hi,fun g a b c=>e0t _ (h.lim1 g a b c),fun g a b c=>e0t _ (h.lim2 g a b c),fun m hm=>by
  rcases d9F.1 hm with e|e
  ·rw [e];exact hy
  ·exact h.sub m e⟩
theorem b0k {s:a1c}(h:a0o s=0):0<s.fs.length:=by
 unfold a0o at h;split at h
 ·rename_i h1;exact d9n h h1
 ·rename_i h1
  have h2:=Decidable.not_not.1 h1;unfold b2b at h2;split at h2
  ·cases h2
  ·omega
theorem c5I {s:a1c}{v:List SpT}(h:a5B s v=0){w:List (List UInt8)}(hl:w.length=v.length)(hi:∀ k,k<v.length->inS (sv v k) (a0e (lv w k))):a3b (a0d s) w∈b1G (a0d s) v:=by
 obtain ⟨h0,hn,-⟩:=a3r h;have hle:=c1Y (a0d s) w;have hn0:0<s.fs.length:=by
  have:=b0k h0
  omega
 unfold b1G b1H;refine List.mem_filter.2 ⟨List.mem_range.2 (by omega),?_⟩;rw [a1z] at hle;have hM:=fun k (hk:k<v.length)=>(b9T h0 (k:=k) (by omega) (a6S h hk).2.2).cons (hi k hk)
 have ha:∀ k,k<w.length->a0C (a0d s) k (a0e (lv w k))<=a3b (a0d s) w:=fun k hk=>b5S (f:=fun k=>a0C (a0d s) k (a0e (lv w k))) hk
 refine b6y.2 ⟨fun k hk=>(c9b h0 hle (by omega) (hM k hk)).2 ⟨_,e0T,ha k (by omega)⟩,?_⟩;have hat:∃ k,k<w.length/\a0C (a0d s) k (a0e (lv w k))=a3b (a0d s) w:=by
  rcases e0m (a3b (a0d s) w) with h1|h1
  ·have:=ha 0 (by omega)
   exact ⟨0,by omega,by omega⟩
  ·exact b5R (f:=fun k=>a0C (a0d s) k (a0e (lv w k))) h1
 obtain ⟨k,hk,e⟩:=hat;exact ⟨k,by omega,(d3x h0 hle (by omega) (hM k (by omega))).2 ⟨_,e0T,e⟩⟩
theorem c5H {s:a1c}{v:List SpT}(h:a5B s v=0):b1G (a0d s) v≠[]:=fun e=>by
 have:=c5I h (w:=v.map fun x=>x.lo) (by rw [d9s]) fun k hk=>by
  have hl:lv (v.map fun x=>x.lo) k=(sv v k).lo:=by
   obtain ⟨x,hx⟩:=a0I hk;unfold lv;rw [b4U hx,d9T,d9E,hx];rfl
  rw [hl];exact ⟨Rat.le_refl,(a6S h hk).2.2⟩
 rw [e] at this;cases this
theorem c5G {G:List (List LP)}{v:List SpT}{g:Nat}(h:g∈b1G G v):g<=G.length:=by
 have:=List.mem_range.1 (List.mem_filter.1 h).1
 omega
def b4T (s:a1c)(v:List SpT):Nat:=match c1P s v with|[a]=>if a=s.gs.length then 0 else a|_=>0
def b4S (s:a1c)(v:List SpT):Nat:=if a5B s v=0 then (match c1P s v with|[a]=>if a=s.gs.length then 7 else 0|_=>15) else a5B s v
def c7r (s:a1c)(v:List SpT)(g f:Int):Nat × Bool × SpT:=if a5B s v=0 then (if c1O (unk g s.gs.length) (unk f s.fs.length)=0 then (if a4f (a0d s) g.toNat f.toNat (sv v f.toNat) then (0,true,a3B (a0d s) g.toNat f.toNat (sv v f.toNat)) else (0,false,⟨[],[]⟩)) else (c1O (unk g s.gs.length) (unk f s.fs.length),false,⟨[],[]⟩)) else (a5B s v,false,⟨[],[]⟩)
theorem d5B (s:a1c)(hs:s.few)(b:Bool)(v:List SpT)(hf:c8w v):a0b C0 11 [s.D,spD b v] (.tup [i64 (b4T s v:Nat),i64 (b4S s v:Nat)]):=by
 refine a0c.walk w1 c9E rfl fun F=>?_
 have c1:=a7n s hs b v hf;have hok:=@a3r s v;have hG:b4T s v=match c1P s v with|[a]=>if a=s.gs.length then 0 else a|_=>0:=rfl
 have hE:b4S s v=if a5B s v=0 then (match c1P s v with|[a]=>if a=s.gs.length then 7 else 0|_=>15) else a5B s v:=rfl
 have hr:c1P s v=if a5B s v=0 then b1G (a0d s) v else []:=rfl
 have hne:=@c5H s v;have hple:=fun g=>@c5G (a0d s) v g
 have el:((((a0d s).map a6G).length:Nat):Int)=(s.gs.length:Int):=by rw [d9s,a1z]
 rw [hr] at hE hG;rw [hG,hE];clear hr hG hE;obtain ⟨q,hq⟩:∃ q,a5B s v=q:=⟨_,rfl⟩
 rw [hq] at c1 hok hne ⊢;unfold a1c.D at c1 ⊢;rcases Nat.decEq q 0 with h0|h0
 ·have e0:=b3N h0
  obtain ⟨x,y,ho⟩:=a6B s;rw [ho] at c1;rw [d9m h0,d9m h0];refine goI b1o e0 c1 d9j d9j d9j d9j d9j ?_;exact a0a rfl IsPure.out
 have e0:=b4c h0;obtain ⟨k0,k2,k3⟩:=hok h0;have hne:=hne h0;have h16:=(a1s k0).2.1;have hd:a4U s=a9v s.fs.length (a0d s):=d9l k0;have hd2:c3c q v=b3P v:=d9l h0;rw [hd,hd2] at c1;have c2:=a9h s.fs.length (a0d s) (a4p (a1s k0)) v k2 hf.1 fun x hx=>⟨(k3 x hx).1,(k3 x hx).2.1⟩
 rw [d9l h0,d9l h0];have hPl:(b1G (a0d s) v).length<=s.gs.length+1:=by
  have:=List.length_filter_le (fun g=>(b6x (a0d s) g v).isSome) (List.range ((a0d s).length+1))
  rw [e1Y,a1z] at this;unfold b1G b1H;rw [a1z];exact this
 obtain ⟨P,hP⟩:∃ P,b1G (a0d s) v=P:=⟨_,rfl⟩
 rw [hP] at c2 hne hPl hple ⊢;rcases P with _|⟨a,_|⟨a2,P⟩⟩
 ·exact d9n rfl hne
 ·have hI:a1J [a]=[i64 (a:Int)]:=rfl
  rw [hI] at c2;have f1:decide (((1:Nat):Int)>1)=false:=rfl;have hm:([i64 (a:Int)]:List D)[0]? = some (i64 (a:Int)):=rfl;have e2:=c2X a s.gs.length
  by_cases h3:a=s.gs.length
  ·rw [d9q h3] at e2
   refine goI b1o (ff5 e0 f1 e2 el Int.toNat_zero) c1 c2 hm d9j d9j d9j ?_;rw [d9l h3,d9l h3];exact a0a rfl IsPure.out
  ·rw [d9p h3] at e2
   refine goI b1o (ff5 e0 f1 e2 el Int.toNat_zero) c1 c2 hm d9j d9j d9j ?_;rw [d9m h3,d9m h3];exact a0a rfl IsPure.out
 ·simp only [d9u] at hPl
  have pP:IsPure (.sl false 1 (a1J (a::a2::P))):=d9k;have f1:decide (((a1J (a::a2::P)).length:Int)>1)=true:=by
   refine d9q ?_;rw [d9s,d9u,d9u];omega
  generalize a1J (a::a2::P)=PD at c2 pP f1;refine goI b1o (ff2 e0 f1) c1 c2 d9j d9j d9j d9j ?_;exact a0a rfl IsPure.out
theorem c7D (s:a1c)(hs:s.few)(b:Bool)(v:List SpT)(hf:c8w v)(g f:Int):a0b C0 17 [s.D,spD b v,i64 g,i64 f] (.tup [(c7r s v g f).2.2.D,boo (c7r s v g f).2.1,i64 ((c7r s v g f).1:Nat)]):=by
 refine a0c.walk w1 d0g rfl fun F=>?_
 have c1:=a7n s hs b v hf;have hok:=@a3r s v;have hR:c7r s v g f=if a5B s v=0 then (if c1O (unk g s.gs.length) (unk f s.fs.length)=0 then (if a4f (a0d s) g.toNat f.toNat (sv v f.toNat) then (0,true,a3B (a0d s) g.toNat f.toNat (sv v f.toNat)) else (0,false,⟨[],[]⟩)) else (c1O (unk g s.gs.length) (unk f s.fs.length),false,⟨[],[]⟩)) else (a5B s v,false,⟨[],[]⟩):=rfl
 rw [hR];clear hR;obtain ⟨q,hq⟩:∃ q,a5B s v=q:=⟨_,rfl⟩
 rw [hq] at c1 hok ⊢;unfold a1c.D at c1 ⊢;rcases Nat.decEq q 0 with h0|h0
 ·have e0:=b3N h0
  have e0':=d6b h0;obtain ⟨x,y,ho⟩:=a6B s;rw [ho] at c1;rw [d9m h0];refine goI a6V (ff2 e0 e0') c1 d9j d9j d9j d9j d9j ?_;exact a0a rfl IsPure.out
 have e0:=b4c h0;have e0':=d6c h0;obtain ⟨k0,k2,k3⟩:=hok h0;have hd:a4U s=a9v s.fs.length (a0d s):=d9l k0;have hd2:c3c q v=b3P v:=d9l h0;rw [hd,hd2] at c1;rw [d9l h0];have cg:=b7u s.fs.length (a0d s) g;have cf:=b4O s.fs.length (a0d s) f;rw [a1z] at cg;have c4:=a8J [((unk g s.gs.length:Nat):Int),((unk f s.fs.length:Nat):Int)] (by simp);have hF:a2U [((unk g s.gs.length:Nat):Int),((unk f s.fs.length:Nat):Int)]=((c1O (unk g s.gs.length) (unk f s.fs.length):Nat):Int):=by
  unfold c1O;show (if ((unk g s.gs.length:Nat):Int)≠0 then _ else if ((unk f s.fs.length:Nat):Int)≠0 then ((unk f s.fs.length:Nat):Int) else 0)=_
  by_cases g1:unk g s.gs.length=0
  ·rw [d9l g1,g1,d9m (by simp)]
   by_cases g2:unk f s.fs.length=0
   ·rw [g2];rfl
   ·rw [d9l (by omega)]
  ·rw [d9m g1,d9l (by omega)]
 rw [hF] at c4;have hu:c1O (unk g s.gs.length) (unk f s.fs.length)=0->unk g s.gs.length=0/\unk f s.fs.length=0:=fun h=>by
  unfold c1O at h;split at h
  ·rename_i g1;exact ⟨g1,h⟩
  ·rename_i g1;exact d9n h g1
 obtain ⟨E,hE⟩:∃ E,c1O (unk g s.gs.length) (unk f s.fs.length)=E:=⟨_,rfl⟩
 rw [hE] at c4 hu ⊢;clear hF hE;rcases Nat.decEq E 0 with h1|h1
 ·have e1:=b3N h1
  rw [d9m h1];refine goI a6V (ff3 e0 e0' e1) c1 cg cf c4 d9j d9j ?_;exact a0a rfl IsPure.out
 have e1:=b4c h1;rw [d9l h1];obtain ⟨u1,u2⟩:=hu h1;obtain ⟨gi,rfl,hgi⟩:=b6v u1;obtain ⟨fi,rfl,hfi⟩:=b6v u2;rw [e1W,e1W];obtain ⟨m1,m2,l1,l2⟩:=a8R (a4p (a1s k0)) (g:=gi) (f:=fi) (by rw [a1z];exact hgi) hfi;obtain ⟨x,hx⟩:=a0I (l:=v) (i:=fi) (by omega);have hxc:=k3 x (d9r hx);rw [b4U hx];have m3:(v.map spF)[fi]? = some (spF x):=by rw [d9E,hx];rfl
 have c5:=a9J _ _ x l1 l2 hxc.1 hxc.2.1;have hTc:=b1C l1 l2 hxc.1 hxc.2.1;rw [show a7h (pv (a4h (a0d s) gi) fi).1 (pv (a4h (a0d s) gi) fi).2 x=a3B (a0d s) gi fi x from rfl] at c5 hTc;rw [show c5x (pv (a4h (a0d s) gi) fi).1 (pv (a4h (a0d s) gi) fi).2 x=a4f (a0d s) gi fi x from rfl] at c5;obtain ⟨T,hT⟩:∃ T,a3B (a0d s) gi fi x=T:=⟨_,rfl⟩
 obtain ⟨R,hR⟩:∃ R,a4f (a0d s) gi fi x=R:=⟨_,rfl⟩
 rw [hT] at c5 hTc ⊢;rw [hR] at c5 ⊢;have t1:=c5Z (a3H hTc.1) (by decide);have t2:=c5Z (a3H hTc.2) (by decide);rw [show str (sb (txt (a0e T.lo)))=str (sb T.lo) from b3q hTc.1] at t1;rw [show str (sb (txt (a0e T.hi)))=str (sb T.hi) from b3q hTc.2] at t2;unfold b3P at c1;unfold a6G at m1;unfold spF a4W at m3 c5;unfold GF.D at t1 t2;generalize a0p x.lo=A1 at *;generalize a0p x.hi=B1 at *;generalize a0p T.lo=A at *;generalize a0p T.hi=B at *;have q1:IsPure A.n.w:=d9k;have q2:IsPure B.n.w:=d9k;have q3:IsPure A1.n.w:=d9k;have q4:IsPure B1.n.w:=d9k;generalize mkG (A.d:Int)=A2 at *;generalize mkG (B.d:Int)=B2 at *;generalize mkG (A1.d:Int)=A12 at *;generalize mkG (B1.d:Int)=B12 at *;cases R
 ·rw [d9m (by decide)]
  refine goI a6V (ff2 e0 e0') c1 cg cf c4 d9j d9j ?_;rw [e1];dsimp only [brB];refine skI ?_;refine OkS.seq ?_;refine d8S w1 600 [0,1,2,3,4,5,6,7,8,9,10,11,12,13,14,15,16,17] [18] 17 16 [13,11,10,9,8,7,6,5,4,3,2,1,0,12,14,16] (by kernel_rfl) (by kernel_rfl) ?_;refine dsI ?_;refine gvI kN ?_;refine a0N rfl rfl rfl rfl ?_;refine a2Z (fun _ _=>rfl) sdI ⟨rfl,by omega⟩ m1 ?_
  try dsimp only [D.cells]
  refine gvI kN ?_;refine a0N rfl rfl rfl rfl ?_;refine a2Z (fun _ _=>rfl) sdI ⟨rfl,by omega⟩ m2 ?_
  try dsimp only [D.cells]
  refine gvI kN ?_;refine a0N rfl rfl rfl rfl ?_;refine a2Z (fun _ _=>rfl) sdI ⟨rfl,by omega⟩ m3 ?_
  try dsimp only [D.cells]
  refine gvI kN ?_;refine a0N rfl rfl rfl rfl ?_;refine dsI ?_;refine And.intro (by exact sdI) ?_;refine dsI ?_;refine a0q.same _ c5 d9k ?_;refine dsI ?_;refine gvI kN ?_;refine And.intro ⟨trivial,.inl d9j⟩ ?_;refine goI a6V kB d9j d9j d9j d9j d9j d9j ?_;exact a0a rfl IsPure.out
 ·rw [d9l rfl]
  refine goI a6V (ff2 e0 e0') c1 cg cf c4 d9j d9j ?_;rw [e1];dsimp only [brB];refine skI ?_;refine OkS.seq ?_;refine d8S w1 600 [0,1,2,3,4,5,6,7,8,9,10,11,12,13,14,15,16,17] [18] 17 16 [13,11,10,9,8,7,6,5,4,3,2,1,0,12,14,16] (by kernel_rfl) (by kernel_rfl) ?_;refine dsI ?_;refine gvI kN ?_;refine a0N rfl rfl rfl rfl ?_;refine a2Z (fun _ _=>rfl) sdI ⟨rfl,by omega⟩ m1 ?_
  try dsimp only [D.cells]
  refine gvI kN ?_;refine a0N rfl rfl rfl rfl ?_;refine a2Z (fun _ _=>rfl) sdI ⟨rfl,by omega⟩ m2 ?_
  try dsimp only [D.cells]
  refine gvI kN ?_;refine a0N rfl rfl rfl rfl ?_;refine a2Z (fun _ _=>rfl) sdI ⟨rfl,by omega⟩ m3 ?_
  try dsimp only [D.cells]
  refine gvI kN ?_;refine a0N rfl rfl rfl rfl ?_;refine dsI ?_;refine And.intro (by exact sdI) ?_;refine dsI ?_;refine a0q.same _ c5 d9k ?_;refine dsI ?_;refine gvI kN ?_;refine And.intro ⟨trivial,.inl d9j⟩ ?_;refine goI a6V kB t1 t2 d9j d9j d9j d9j ?_;exact a0a rfl IsPure.out
theorem b4f (s:SpT):a6T s.lo s.hi=a4l s:=by
 unfold a6T a4l two;split
 ·rfl
 ·rfl
theorem d3n (s:a1c)(b:Bool)(v:List SpT)(hf:c8w v):a0b C0 8 [s.D,spD b v] (i64 (a2X s.fs.length v:Nat)):=by
 refine a0c.walk w1 d7a rfl fun F=>?_
 have el:(((v.map SpT.D).length:Nat):Int)=(v.length:Int):=by rw [d9s]
 have el1:(((s.fs.map a1S.D).length:Nat):Int)=(s.fs.length:Int):=by rw [d9s]
 have hl:=hf.1;unfold a1c.D;obtain ⟨fD,hfD⟩:∃ fD,s.fs.map a1S.D=fD:=⟨_,rfl⟩
 obtain ⟨gD,hgD⟩:∃ gD,s.gs.map a1p.D=gD:=⟨_,rfl⟩
 have pF:IsPure (.sl false 4 fD):=by rw [<- hfD];exact d9k
 have pG:IsPure (.sl false 3 gD):=by rw [<- hgD];exact d9k
 rw [hfD] at el1;rw [hfD,hgD];have pV:IsPure (.sl b 2 (v.map SpT.D)):=d9k;rcases Nat.decEq v.length s.fs.length with h1|h1
 ·have e0:=d3Z h1
  have hv:a2X s.fs.length v=2:=d9m h1;rw [hv];refine goI dr0 (ff3 el el1 e0) d9j d9j d9j d9j d9j d9j ?_;exact a0a rfl IsPure.out
 have e0:=d3Y h1;have hv:a2X s.fs.length v=b3O a4l v:=d9l h1;rw [hv];refine goI dr0 (ff3 el el1 e0) d9j d9j d9j d9j d9j d9j ?_;refine OkS.loop (α:=Nat × Nat) (fun p=>⟨[(1,.sl b 2 (v.map SpT.D)),(5,i64 (p.1:Int))],[],p.2⟩) (fun p=>v.length - p.1) (fun p=>p.1<=v.length/\∀ (j:Nat) (y:SpT),j<p.1->v[j]? = some y->a4l y=0) (0,_) ⟨d9U _,fun j y hj=>d9n hj (e0L j)⟩ wkI ?_;rintro ⟨i,m⟩ F ⟨hi,ha⟩;dsimp only at hi ha ⊢;rcases d9H i v.length with h2|h2
 ·have e1:=ltT h2
  have wi:=wiI (i:=i) (by omega);obtain ⟨x,hx⟩:=a0I h2;have hm:(v.map SpT.D)[i]? = some (.agg [str (sb x.lo),str (sb x.hi)]):=by rw [d9E,hx];rfl
  have hxf:=hf.2 x (d9r hx);have c:=d3m x.lo x.hi hxf.1 hxf.2;rw [b4f] at c;have hat:=fun h=>b1v (f:=a4l) ha hx h
  obtain ⟨E,hE⟩:∃ E,a4l x=E:=⟨_,rfl⟩
  rw [hE] at c hat;rcases Nat.decEq E 0 with h3|h3
  ·have e2:=b3N h3
   rw [hat h3];refine goI dr0 (ff4 e1 el e2 kN) hm c d9j d9j d9j d9j ?_;exact a0a rfl IsPure.out
  ·have e2:=b4c h3
   refine goI dr0 (ff5 e1 el e2 wi kN) hm c d9j d9j d9j d9j ?_;exact ⟨(i+1,_),⟨h2,fun j y hj hy=>by
    rcases d9H j i with q|q
    ·exact ha j y q hy
    ·have:j=i:=by dsimp only at hj;omega
     subst this;rw [hx] at hy;cases hy;rw [hE];exact h3⟩,by dsimp only;omega,wkI⟩
 ·have e1:=ltF h2
  have:i=v.length:=by omega
  subst this;rw [a8a ha];refine goI dr0 (ff2 e1 el) d9j d9j d9j d9j d9j d9j ?_;exact a0a rfl IsPure.out
set_option maxHeartbeats 8000000
def b6O (s:SpT):Bool:=b5A [s.lo,s.hi]
theorem c6M (b:Bool)(l:List SpT)(hl:l.length<=9223372036854775807):a0b C0 7 [spD b l] (boo (l.all b6O)):=by
 refine a0c.walk w1 d6Z rfl fun F=>?_
 have el:(((l.map SpT.D).length:Nat):Int)=(l.length:Int):=by rw [d9s]
 refine goI dr0 el d9j d9j d9j d9j d9j d9j ?_;refine OkS.loop (α:=Nat × Nat) (fun p=>⟨[(5,spD b l),(6,i64 (l.length:Int)),(7,i64 (p.1:Int))],[],p.2⟩) (fun p=>l.length - p.1)
  (fun p=>p.1<=l.length/\(l.take p.1).all b6O=true) (0,_) ⟨d9U _,rfl⟩ wkI ?_
 rintro ⟨i,m⟩ F ⟨hi,ha⟩;dsimp only at hi ha ⊢;rcases d9H i l.length with h2|h2
 ·have e1:=ltT h2
  have wi:=wiI (i:=i) (by omega);obtain ⟨x,hx⟩:=a0I h2;have hm:(l.map SpT.D)[i]? = some (.agg [str (sb x.lo),str (sb x.hi)]):=by rw [d9E,hx];rfl
  have c:a0b C0 29 [.sl true 1 [str (sb x.lo),str (sb x.hi)]] (boo (b6O x)):=c2A true [x.lo,x.hi] (by simp);obtain ⟨p,hp⟩:∃ p,b6O x=p:=⟨_,rfl⟩
  rw [hp] at c;cases p
  ·rw [a2t hx hp]
   refine goI dr0 (ff2 e1 kN) hm c d9j d9j d9j d9j ?_;exact a0a rfl IsPure.out
  ·refine goI dr0 (ff3 e1 wi kN) hm c d9j d9j d9j d9j ?_
   exact ⟨(i+1,_),⟨h2,a3F hx ha hp⟩,by dsimp only;omega,wkI⟩
 ·have e1:=ltF h2
  have:i=l.length:=by omega
  subst this;rw [e0S] at ha;rw [ha];refine goI dr0 e1 d9j d9j d9j d9j d9j d9j ?_;exact a0a rfl IsPure.out
theorem a8x {l:List UInt8}(h:chk l=0):l.length<=100000:=by
 have h1:(a0Q l).length<=600/\(a1I l).length<=600:=by
  unfold chk at h;split at h
  ·cases h
  split at h
  ·cases h
  ·omega
 have h2:(a2q l).length<=(a0Q l).length+1:=by
  unfold a0Q a0l;split
  ·rw [e0x];omega
  ·omega
 have h3:l.length<=(a2q l).length+(a1I l).length+1:=by
  unfold a2q a1I;rw [d9J,e0x];omega
 omega
theorem c7E (G:List (List LP))(v:List SpT):(b1G G v).length<=G.length+1:=by
 have:=List.length_filter_le (fun g=>(b6x G g v).isSome) (List.range (G.length+1))
 rw [e1Y] at this;exact this
theorem c3y {s:a1c}{v:List SpT}{a:Nat}(h:a5B s v=0)(e:b1G (a0d s) v=[a]):b4T s v=b6U 0 a s.gs.length/\b4S s v=b4u 0 a s.gs.length:=by
 have e2:c1P s v=[a]:=by rw [<- e];exact d9l h
 unfold b4T b4S b6U b4u;rw [e2,d9l h];exact ⟨(d9l rfl).symm,(d9l rfl).symm⟩
theorem c1w {s:a1c}{v:List SpT}{a b:Nat}{l:List Nat}(h:a5B s v=0)(e:b1G (a0d s) v=a::b::l):b4T s v=0/\b4S s v=15:=by
 have e2:c1P s v=a::b::l:=by rw [<- e];exact d9l h
 unfold b4T b4S;rw [e2,d9l h];exact ⟨rfl,rfl⟩
def a1D {α:Type}(out:List (List α))(s:α × α):List (List α):=out.flatMap fun c=>[c++[s.1],c++[s.2]]
def a0L {α:Type}(l:List (α × α)):List (List α):=l.foldl a1D [[]]
theorem a4m {α:Type}(l:List (α × α))(s:α × α):a0L (l++[s])=a1D (a0L l) s:=by
 unfold a0L;rw [List.foldl_append];rfl
theorem a5H {α:Type}{out:List (List α)}{s:α × α}{c:List α}:c∈a1D out s↔∃ d∈out,c=d++[s.1]\/c=d++[s.2]:=by
 unfold a1D;rw [List.mem_flatMap];constructor
 ·rintro ⟨d,hd,h⟩
  simp only [d9F,e0j,or_false] at h;exact ⟨d,hd,h⟩
 ·rintro ⟨d,hd,h⟩
  exact ⟨d,hd,by simpa using h⟩
theorem a3I {α:Type}:∀ (n:Nat) (l:List (α × α)),l.length=n->∀ c:List α,c∈a0L l↔c.length=l.length/\∀ (k:Nat) (s:α × α),l[k]? = some s->c[k]? = some s.1\/c[k]? = some s.2
 | 0,l,hl,c=>by
  have:l=[]:=e0d hl
  subst this;show c∈[[]]↔_;rw [List.mem_singleton];constructor
  ·rintro rfl;exact ⟨rfl,fun k s h=>by simp at h⟩
  ·rintro ⟨h,-⟩;exact e0d h
 | n+1,l,hl,c=>by
  obtain ⟨l,s,rfl⟩:∃ l' s,l=l'++[s]:=by
   rcases e1O l with rfl|⟨l',s,rfl⟩
   ·simp at hl
   ·exact ⟨l',s,by rw [e1N]⟩
  have hl2:l.length=n:=by simpa using hl
  rw [a4m,a5H];constructor
  ·rintro ⟨d,hd,hc⟩
   obtain ⟨h1,h2⟩:=(a3I n l hl2 d).1 hd;have key:∀ x:α,(x=s.1\/x=s.2)->(d++[x]).length=(l++[s]).length/\∀ (k:Nat) (t:α × α),(l++[s])[k]? = some t->(d++[x])[k]? = some t.1\/(d++[x])[k]? = some t.2:=fun x hx=>by
    refine ⟨by simp [h1],fun k t ht=>?_⟩;rcases d9H k l.length with q|q
    ·rw [e0g q] at ht
     rw [e0g (by omega)];exact h2 k t ht
    ·rw [e0b q] at ht
     have hk:k=l.length:=by
      have:=(List.getElem?_eq_some_iff.1 ht).1
      simp at this;omega
     subst hk;rw [e0b (by omega),h1,Nat.sub_self];rw [Nat.sub_self] at ht;cases ht;rcases hx with rfl|rfl
     ·exact .inl rfl
     ·exact .inr rfl
   rcases hc with rfl|rfl
   ·exact key _ (.inl rfl)
   ·exact key _ (.inr rfl)
  ·rintro ⟨h1,h2⟩
   rcases e1O c with rfl|⟨d,x,rfl⟩
   ·simp at h1
   rw [e1N] at h1 h2 ⊢;have h3:d.length=l.length:=by simpa using h1
   refine ⟨d,(a3I n l hl2 d).2 ⟨h3,fun k t ht=>?_⟩,?_⟩
   ·have hk:k<l.length:=(List.getElem?_eq_some_iff.1 ht).1
    have:=h2 k t (by rw [e0g hk];exact ht)
    rwa [e0g (by omega)] at this
   ·have:=h2 l.length s (by rw [e0b (d9y _),Nat.sub_self];rfl)
    rw [e0b (by omega),h3,Nat.sub_self] at this;rcases this with h|h<;>cases h
    ·exact .inl rfl
    ·exact .inr rfl
theorem b8v {s:a1c}{v:List SpT}(h:a5B s v=0){g:Nat}(hg:g∈b1G (a0d s) v)(hlt:g<s.gs.length):(∀ k,k<v.length->a4f (a0d s) g k (sv v k)=true) /\
  ∃ c:List (List UInt8),c.length=v.length/\(∀ k,k<v.length->lv c k=(a3B (a0d s) g k (sv v k)).lo\/lv c k=(a3B (a0d s) g k (sv v k)).hi)/\a3b (a0d s) c=g:=by
 obtain ⟨h0,hn,-⟩:=a3r h;have hw:=(List.mem_filter.1 hg).2;obtain ⟨hB,k0,hk0,hv⟩:=b6y.1 hw;have hN:∀ k,k<v.length->a4f (a0d s) g k (sv v k)=true:=fun k hk=>by
  have:=hB k hk
  unfold btB at this
  rwa [d9m (by rw [a1z];omega)] at this
 have hle:∀ k,k<v.length->∀ x:Rat,inS (a3B (a0d s) g k (sv v k)) x->a0C (a0d s) k x<=g:=fun k hk x hx =>
  (a2w h0 hlt (by omega) x).2 (a2Y.1 hx).2
 have hend:=fun k hk=>a3h (hN k hk)
 obtain ⟨l,hl⟩:=Option.isSome_iff_exists.1 hv;have c0:=a6S h hk0;obtain ⟨-,i1,i2⟩:=d5V h0 (by omega) c0.1 c0.2.1 c0.2.2 hl;have hin:inS (a3B (a0d s) g k0 (sv v k0)) (a0e l):=a2Y.2 ⟨i1,(a2w h0 hlt (by omega) _).1 (by omega)⟩;have he:∃ e:List UInt8,(e=(a3B (a0d s) g k0 (sv v k0)).lo\/e=(a3B (a0d s) g k0 (sv v k0)).hi)/\a0C (a0d s) k0 (a0e e)=g:=by
  have a1:=hle k0 hk0 _ (hend k0 hk0).1;have a2:=hle k0 hk0 _ (hend k0 hk0).2;rcases d9H (a0C (a0d s) k0 (a0e (a3B (a0d s) g k0 (sv v k0)).lo)) g with q1|q1
  ·rcases d9H (a0C (a0d s) k0 (a0e (a3B (a0d s) g k0 (sv v k0)).hi)) g with q2|q2
   ·have:=b2P h0 (by omega) (by omega) q1 q2 hin.1 hin.2
    omega
   ·exact ⟨_,.inr rfl,Nat.le_antisymm a2 q2⟩
  ·exact ⟨_,.inl rfl,Nat.le_antisymm a1 q1⟩
 obtain ⟨e,he1,he2⟩:=he;refine ⟨hN,(List.range v.length).map fun k=>if k=k0 then e else (a3B (a0d s) g k (sv v k)).lo,by rw [d9s,e1Y],fun k hk=>?_,?_⟩
 ·have:lv ((List.range v.length).map fun k=>if k=k0 then e else (a3B (a0d s) g k (sv v k)).lo) k=if k=k0 then e else (a3B (a0d s) g k (sv v k)).lo:=b3g (by rw [d9E,e0Y hk];rfl)
  rw [this];split
  ·rename_i q;subst q;exact he1
  ·exact .inl rfl
 ·have key:∀ k,k<v.length->lv ((List.range v.length).map fun k=>if k=k0 then e else (a3B (a0d s) g k (sv v k)).lo) k=if k=k0 then e else (a3B (a0d s) g k (sv v k)).lo:=fun k hk=>b3g (by rw [d9E,e0Y hk];rfl)
  unfold a3b;rw [d9s,e1Y];refine Nat.le_antisymm ((a9c _).2 fun k hk=>?_) ?_
  ·rw [key k hk]
   split
   ·rename_i q;subst q;omega
   ·exact hle k hk _ (hend k hk).1
  ·have:=b5S (f:=fun k=>a0C (a0d s) k (a0e (lv ((List.range v.length).map fun k=>if k=k0 then e else (a3B (a0d s) g k (sv v k)).lo) k))) hk0
   rw [key k0 hk0,d9l rfl,he2] at this;exact this
def a0J (v:List SpT):List (List UInt8 × List UInt8):=v.map fun s=>(s.lo,s.hi)
def a4e (v:List SpT):List (List UInt8):=v.map fun s=>b9W s.lo s.hi
theorem b0W {v:List SpT}{k:Nat}(h:k<v.length):(a0J v)[k]? = some ((sv v k).lo,(sv v k).hi):=by
 obtain ⟨s,hs⟩:=a0I h;rw [b4U hs];unfold a0J;rw [d9E,hs];rfl
theorem b2t {v:List SpT}{c:List (List UInt8)}:c∈a0L (a0J v)↔c.length=v.length/\∀ k,k<v.length->lv c k=(sv v k).lo\/lv c k=(sv v k).hi:=by
 have hl:(a0J v).length=v.length:=by unfold a0J;rw [d9s]
 rw [a3I _ _ rfl,hl];constructor
 ·rintro ⟨h1,h2⟩
  refine ⟨h1,fun k hk=>?_⟩;rcases h2 k _ (b0W hk) with h|h
  ·exact .inl (b3g h)
  ·exact .inr (b3g h)
 ·rintro ⟨h1,h2⟩
  refine ⟨h1,fun k s hs=>?_⟩;have hk:k<v.length:=hl ▸ (List.getElem?_eq_some_iff.1 hs).1;rw [b0W hk] at hs;cases hs;obtain ⟨y,hy⟩:=a0I (l:=c) (i:=k) (by omega);rw [hy,<- b3g hy];rcases h2 k hk with h|h
  ·exact .inl (by rw [h])
  ·exact .inr (by rw [h])
theorem b6j {s:a1c}{c:List (List UInt8)}(h0:a0o s=0)(hl:c.length=s.fs.length)(hc:∀ k,k<c.length->chk (lv c k)=0):Few c/\b6F s c=0:=by
 have hm:∀ l∈c,chk l=0:=fun l hm=>by
  obtain ⟨k,hk⟩:=List.mem_iff_getElem?.1 hm
  have:=hc k (List.getElem?_eq_some_iff.1 hk).1
  rwa [b3g hk] at this
 have h8:=(a1s h0).1;refine ⟨⟨by omega,fun l hl=>a8x (hm l hl)⟩,?_⟩;unfold b6F a4O;rw [d9l h0,d9l hl];exact b0h fun j y _ hy=>hm y (d9r hy)
theorem c2T {s:a1c}{v:List SpT}(h:a5B s v=0)(h4:P40 v){k:Nat}(hk:k<v.length):chk (b9W (sv v k).lo (sv v k).hi)=0/\inS (sv v k) (a0e (b9W (sv v k).lo (sv v k).hi)):=by
 obtain ⟨c1,c2,c3⟩:=a6S h hk;have l4:=h4 _ (c5Y hk);refine ⟨c6w (c7n (a9d c1 l4.1) (a9d c2 l4.2)),?_⟩;unfold b9W;rw [b3t];exact c5v ⟨Rat.le_refl,c3⟩ ⟨c3,Rat.le_refl⟩
theorem d2B {v:List SpT}{k:Nat}(hk:k<v.length):lv (a4e v) k=b9W (sv v k).lo (sv v k).hi:=by
 obtain ⟨s,hs⟩:=a0I hk;rw [b4U hs];exact b3g (by unfold a4e;rw [d9E,hs];rfl)
theorem c6B {s:a1c}{v:List SpT}(h:a5B s v=0)(h4:P40 v){c:List (List UInt8)}(hc:c∈a0L (a0J v)++[a4e v]):Few c/\b6F s c=0/\a3b (a0d s) c∈b1G (a0d s) v:=by
 obtain ⟨h0,hn,-⟩:=a3r h;have key:c.length=v.length/\∀ k,k<v.length->chk (lv c k)=0/\inS (sv v k) (a0e (lv c k)):=by
  rcases List.mem_append.1 hc with hc|hc
  ·obtain ⟨h1,h2⟩:=b2t.1 hc
   refine ⟨h1,fun k hk=>?_⟩;obtain ⟨c1,c2,c3⟩:=a6S h hk;rcases h2 k hk with q|q<;>rw [q]
   ·exact ⟨c1,Rat.le_refl,c3⟩
   ·exact ⟨c2,c3,Rat.le_refl⟩
  ·rw [List.mem_singleton] at hc
   subst hc;refine ⟨by unfold a4e;rw [d9s],fun k hk=>?_⟩;rw [d2B hk];exact c2T h h4 hk
 obtain ⟨k1,k2⟩:=key;obtain ⟨f1,f2⟩:=b6j h0 (k1.trans hn) fun k hk=>(k2 k (by omega)).1
 exact ⟨f1,f2,c5I h k1 fun k hk=>(k2 k hk).2⟩
def a4E (s:a1c)(v:List SpT)(g n:Nat):List SpT:=(List.range n).map fun k=>a3B (a0d s) g k (sv v k)
theorem a6w (s:a1c)(v:List SpT)(g n:Nat):(a4E s v g n).length=n:=by unfold a4E;rw [d9s,e1Y]
theorem b9N (s:a1c)(v:List SpT)(g n:Nat){k:Nat}(hk:k<n):sv (a4E s v g n) k=a3B (a0d s) g k (sv v k):=b4U (by unfold a4E;rw [d9E,e0Y hk];rfl)
theorem b9M (s:a1c)(v:List SpT)(g n:Nat):a4E s v g (n+1)=a4E s v g n++[a3B (a0d s) g n (sv v n)]:=by unfold a4E;rw [List.range_succ,e0Q];rfl
theorem b2X {s:a1c}{v:List SpT}(h:a5B s v=0){g k:Nat}(hg:g<s.gs.length)(hk:k<v.length)(hb:a4f (a0d s) g k (sv v k)=true) :
  c7r s v g k=(0,true,a3B (a0d s) g k (sv v k))/\a6T (a3B (a0d s) g k (sv v k)).lo (a3B (a0d s) g k (sv v k)).hi=0/\chk (a3B (a0d s) g k (sv v k)).lo=0/\chk (a3B (a0d s) g k (sv v k)).hi=0:=by
 obtain ⟨h0,hn,-⟩:=a3r h;obtain ⟨c1,c2,-⟩:=a6S h hk;have hu:∀ a n:Nat,a<n->unk (a:Int) n=0:=fun a n h=>d9m (by omega)
 have hS:=a1s h0;have e:c7r s v g k=(0,true,a3B (a0d s) g k (sv v k)):=by
  unfold c7r;rw [d9l h,hu g _ hg,hu k _ (by omega),d9l (show c1O 0 0=0 from rfl),e1W,e1W,hb,d9l rfl]
 obtain ⟨-,-,m1,m2⟩:=a8R (a4p hS) (g:=g) (f:=k) (by rw [a1z];exact hg) (by omega);have hcc:=b1C m1 m2 c1 c2;have hle:a0e (a3B (a0d s) g k (sv v k)).lo<=a0e (a3B (a0d s) g k (sv v k)).hi:=(a3h hb).1.2;refine ⟨e,?_,hcc⟩;unfold a6T;rw [d9m (fun q=>q hcc.1),d9m (fun q=>q hcc.2),d9m (a8y.2 hle)]
theorem b7a {s:a1c}{v:List SpT}(h:a5B s v=0){g:Nat}(hg:g∈b1G (a0d s) v)(hlt:g<s.gs.length):(∀ k,k<v.length->a4f (a0d s) g k (sv v k)=true) /\
  (∀ c∈a0L (a0J (a4E s v g v.length)),Few c/\b6F s c=0)/\∃ c∈a0L (a0J (a4E s v g v.length)),a3b (a0d s) c=g:=by
 obtain ⟨h0,hn,-⟩:=a3r h;obtain ⟨hN,c,k1,k2,k3⟩:=b8v h hg hlt;refine ⟨hN,fun c hc=>?_,c,b2t.2 ⟨by rw [a6w];exact k1,fun k hk=>?_⟩,k3⟩
 ·obtain ⟨q1,q2⟩:=b2t.1 hc
  rw [a6w] at q1 q2;refine b6j h0 (q1.trans hn) fun k hk=>?_
  have hk2:k<v.length:=by omega
  obtain ⟨-,-,m1,m2⟩:=b2X h hlt hk2 (hN k hk2);rcases q2 k hk2 with q|q<;>rw [q,b9N _ _ _ _ hk2]
  ·exact m1
  ·exact m2
 ·rw [a6w] at hk
  rw [b9N _ _ _ _ hk];exact k2 k hk
abbrev a6W:Dr:=[(9,[0,1,2,3,4,5,6,7,8,9,10,11,12,13,14,15],[16,17])]
open Go.Proofs Go.RowKit
set_option maxRecDepth 20000
set_option maxHeartbeats 4000000
def a2T (c:List (List UInt8)):D:=if c=[] then a1w else txD false c
instance  (c:List (List UInt8)):IsPure (a2T c):=by unfold a2T;split<;>exact d9k
instance  (c:List (List UInt8)):CellsPure (a2T c):=by unfold a2T;split<;>exact d9k
theorem b8L:a2T []=a1w:=d9l rfl
theorem b6L (x:List UInt8)(c:List (List UInt8)):a2T (x::c)=txD false (x::c):=d9m (by simp)
theorem a2R {α:Type}:∀ (n:Nat) (l:List (α × α)),l.length=n->(a0L l).length=2^n
 | 0,l,h=>by rw [e0d h];rfl
 | n+1,l,h=>by
  rcases e1O l with rfl|⟨l',s,rfl⟩
  ·simp at h
  ·rw [e1N] at h ⊢
   have h2:l'.length=n:=by simpa using h
   rw [a4m,e0h,<- a2R n l' h2];unfold a1D;rw [List.length_flatMap];simp only [d9u,d9R]
   induction a0L l' with
   | nil=>rfl
   | cons c r ih=>rw [e0I,List.sum_cons,ih,d9u];omega
theorem b8M {tt:Nat->Option a0n}{H:Hp}{n k t:Nat}{g:Operand->D}{s x:Operand}{i:a0n}{e esz eby:Nat}{ez:Value}{news:List D}{p:Prop}{k1 g1 sz len:Nat}{e1:Ent}(h1:tt t=some i)(h2:i.ti=.slice e esz eby ez)(h3:b6q H esz (g x)=some (news,p))(h4:g s=.osl k1 g1 sz 0 len)(h5:Hp.get H k1=some e1) :
  evA tt H n k g (.call ⟨.builtin .append,#[s,x],#[t,t]⟩)=some (.osl k n esz 0 (len+news.length),⟨k,n,e,esz,e1.es.take len++news⟩::Hp.del H k1,
   p/\g1=e1.g/\sz=e1.sz/\sz=esz/\e1.T=e/\len<=e1.es.length/\(len+news.length)*eby<=140737488355328/\1<=eby/\1<=esz):=by
 have hb:Nat.beq t t=true:=e2p t;simp only [evA,hb,h1,h2,h3,h4,h5]
theorem b0z {H Hf:Hp}{K g T sz n:Nat}{l:List D}(h:Hp.get H K=some ⟨K,g,T,sz,l⟩)(hf:Hp.get Hf K=none)(hn:n=l.length):Fz H Hf (.osl K g sz 0 n) (.sl false sz l):=by
 subst hn;refine .osl (e:=⟨K,g,T,sz,l⟩) h hf rfl rfl (by simp) (by simp) (fun j d d' h1 h2=>?_) fun j d d' q c c' h1 h2 h3 h4=>?_
 ·rw [d9S] at h1;rw [h1] at h2;cases h2;rfl
 ·rw [d9S] at h1;rw [h1] at h2;cases h2;rw [h3] at h4;cases h4;exact Fz.refl _
theorem c6c {R:List D}{a b a' b' d d':D}{j:Nat}(h1:(R++[a,b])[j]? = some d)(h2:(R++[a',b'])[j]? = some d'):d=d'\/(d=a/\d'=a')\/(d=b/\d'=b'):=by
 rcases d9H j R.length with q|q
 ·rw [e0g q] at h1 h2
  rw [h1] at h2;cases h2;exact .inl rfl
 ·rw [e0b q] at h1 h2
  obtain ⟨k,hk⟩:∃ k,j - R.length=k:=⟨_,rfl⟩
  rw [hk] at h1 h2;rcases k with _|_|k
  ·cases h1;cases h2;exact .inr (.inl ⟨rfl,rfl⟩)
  ·cases h1;cases h2;exact .inr (.inr ⟨rfl,rfl⟩)
  ·simp at h1
theorem d8m {H Hf r r':Hp}{k g T sz:Nat}{R:List D}{a b a' b':D}(ha:a.cells=[a])(hb:b.cells=[b])(ha':a'.cells=[a'])(hb':b'.cells=[b'])(h1:Fz H Hf a a')(h2:Fz H Hf b b')(h:FzH H Hf r r') :
  FzH H Hf (⟨k,g,T,sz,R++[a,b]⟩::r) (⟨k,g,T,sz,R++[a',b']⟩::r'):=by
 refine FzH.turn (e:=⟨k,g,T,sz,R++[a,b]⟩) (by simp) (fun j d d' q1 q2=>?_) (fun j d d' q c c' q1 q2 q3 q4=>?_) h
 ·rcases c6c q1 q2 with rfl|⟨rfl,rfl⟩|⟨rfl,rfl⟩
  ·rfl
  ·rw [ha,ha'];rfl
  ·rw [hb,hb'];rfl
 ·have one:∀ {x y:D},x.cells=[x]->x.cells[q]? = some y->y=x:=fun hx hy=>by
   rw [hx] at hy;rcases q with _|q
   ·cases hy;rfl
   ·simp at hy
  rcases c6c q1 q2 with rfl|⟨rfl,rfl⟩|⟨rfl,rfl⟩
  ·rw [q3] at q4;cases q4;exact .refl _
  ·rw [one ha q3,one ha' q4];exact h1
  ·rw [one hb q3,one hb' q4];exact h2
def d4c (E1 E3 E8 E10:Ent)(i:Nat):Option Ent:=match i with
 | 3=>some E1
 | 7=>some E3
 | 10=>some E8
 | 14=>some E10
 | _=>none
def d3w (i:Nat):Option Nat:=match i with
 | 1=>some 3
 | 3=>some 7
 | 8=>some 10
 | 10=>some 14
 | _=>none
theorem c3B {ops:Array Oper}{d0 d1 d2 d3 d4 d5 d6 d7 d8 d9 d10 d11 d12 d13 d14 d15:D}{E1 E3 E7 E8 E10 E14:Ent}(h1:a1Z ops 3 1)(h2:a1Z ops 7 3)(h3:a1Z ops 10 8)(h4:a1Z ops 14 10) :
  b0f ops (c2V ops [(0,d0,none),(1,d1,some E1),(2,d2,none),(3,d3,some E3),(4,d4,none),(5,d5,none),(6,d6,none),(7,d7,some E7),(8,d8,some E8),(9,d9,none),(10,d10,some E10),(11,d11,none),(12,d12,none),(13,d13,none),(14,d14,some E14),(15,d15,none)]) (d4c E1 E3 E8 E10) d3w:=by
 constructor
 ·intro r hr e he
  simp only [c2V,e0I,List.map_nil,d9F,e0j,or_false] at hr;rcases hr with rfl|rfl|rfl|rfl|rfl|rfl|rfl|rfl|rfl|rfl|rfl|rfl|rfl|rfl|rfl|rfl<;>dsimp only [d4c] at he<;>first
   | (cases he;done)
   | (cases he;exact ⟨⟨1,ops.getD 1 default,d1,some _⟩,by simp [c2V],rfl,rfl⟩)
   | (cases he;exact ⟨⟨3,ops.getD 3 default,d3,some _⟩,by simp [c2V],rfl,rfl⟩)
   | (cases he;exact ⟨⟨8,ops.getD 8 default,d8,some _⟩,by simp [c2V],rfl,rfl⟩)
   | (cases he;exact ⟨⟨10,ops.getD 10 default,d10,some _⟩,by simp [c2V],rfl,rfl⟩)
 ·intro r hr j hj
  simp only [c2V,e0I,List.map_nil,d9F,e0j,or_false] at hr;rcases hr with rfl|rfl|rfl|rfl|rfl|rfl|rfl|rfl|rfl|rfl|rfl|rfl|rfl|rfl|rfl|rfl<;>dsimp only [d3w] at hj<;>first
   | (cases hj;done)
   | (cases hj;exact ⟨by simp [c2V],rfl,by assumption⟩)
 ·intro r hr r' hr' j hj hj'
  have key:∀ i k:Nat,d3w i=some k->(i=1/\k=3)\/(i=3/\k=7)\/(i=8/\k=10)\/(i=10/\k=14):=fun i k h=>by
   unfold d3w at h;split at h<;>first|(cases h;simp;done)|cases h
  rcases key _ _ hj with ⟨a,b⟩|⟨a,b⟩|⟨a,b⟩|⟨a,b⟩<;>rcases key _ _ hj' with ⟨c,d⟩|⟨c,d⟩|⟨c,d⟩|⟨c,d⟩<;>omega
def d3S (v:List SpT)(E:Ent)(d:D)(H':Hp)(_:Nat):Prop:=∃ g,d=.osl 916 g 1 0 ((a0L (a0J v)).map a2T).length/\H'=[⟨916,g,37,1,(a0L (a0J v)).map a2T⟩,E]
theorem b0m (v:List SpT)(hv0:0<v.length)(hv:v.length<=4)(n gS TS szS:Nat)(esS:List D):a0z C0 14 [spD false v] [⟨0,gS,TS,szS,esS⟩] n (d3S v ⟨0,gS,TS,szS,esS⟩):=by
 refine a0z.walk w1 d4i rfl fun F=>?_
 have elv:(((v.map SpT.D).length:Nat):Int)=(v.length:Int):=by rw [d9s]
 refine goI a6W elv d9j d9j d9j d9j d9j d9j ?_;have h0:(a0L ((a0J v).take 0)).map a2T=[a1w]:=rfl;refine OkS.loop (α:=Nat × Bool × Nat × Nat) (fun p=>if p.1<v.length then ⟨[(0,spD false v),(2,a1w),(3,.sl p.2.1 1 ((a0L ((a0J v).take p.1)).map a2T)),(10,spD false v),(11,i64 (v.length:Int)),(12,i64 (p.1:Int))],[⟨0,gS,TS,szS,esS⟩],p.2.2.2⟩
  else ⟨[(0,spD false v),(2,a1w),(3,.osl 916 p.2.2.1 1 0 ((a0L ((a0J v).take p.1)).map a2T).length),(10,spD false v),(11,i64 (v.length:Int)),(12,i64 (p.1:Int))],[⟨916,p.2.2.1,37,1,(a0L ((a0J v).take p.1)).map a2T⟩,⟨0,gS,TS,szS,esS⟩],p.2.2.2⟩) (fun p=>v.length - p.1) (fun p=>p.1<=v.length) (0,true,0,_) (d9U _) (by (dsimp only;rw [d9l hv0,h0];exact wkI)) ?_
 rintro ⟨i,bb,g00,m0⟩ F hi;dsimp only at hi ⊢;rcases d9H i v.length with h2|h2
 rotate_left
 ·rw [d9m (by omega)]
  have e1:=ltF h2
  have:i=v.length:=by omega
  subst this;have ht:(a0J v).take v.length=a0J v:=d9G (by unfold a0J;rw [d9s];exact d9y _);rw [ht];refine goI a6W e1 d9j d9j d9j d9j d9j d9j ?_;exact ⟨_,rfl,rfl⟩
 rw [d9l h2];have e1:=ltT h2;have wi:=wiI (i:=i) (by omega);obtain ⟨x,hx⟩:=a0I h2;have hm:(v.map SpT.D)[i]? = some (.agg [str (sb x.lo),str (sb x.hi)]):=by rw [d9E,hx];rfl
 obtain ⟨O,hO⟩:∃ O,a0L ((a0J v).take i)=O:=⟨_,rfl⟩
 have hsn:a0L ((a0J v).take (i+1))=a1D O (x.lo,x.hi):=by
  rw [e0Z,show (a0J v)[i]? = some (x.lo,x.hi) from by unfold a0J;rw [d9E,hx];rfl,Option.toList_some,a4m,hO]
 have hOl:O.length<=16:=by
  rw [<- hO,a2R i _ (by unfold a0J;rw [d9J,d9s];omega)];exact e0w (by decide) (show i<=4 by omega)
 have hO4:∀ c∈O,c.length<=4:=fun c hc=>by
  rw [<- hO] at hc
  have:=((a3I _ _ rfl c).1 hc).1
  unfold a0J at this;rw [d9J,d9s] at this;omega
 rw [hO];have eO:(((O.map a2T).length:Nat):Int)=(O.length:Int):=by rw [d9s]
 refine goI a6W (ff3 e1 eO kN) hm d9j d9j d9j d9j d9j ?_;refine OkS.loop (α:=Nat × List D × Nat × Nat) (fun p=>⟨[(0,spD false v),(2,a1w),(3,.sl bb 1 (O.map a2T)),(5,.optr 402 (m0+1+1+1) 2 0 0),(6,a6g 916 p.2.2.1 1 p.2.1),(10,spD false v),(11,i64 (v.length:Int)),(12,i64 (i:Int)),(16,.sl bb 1 (O.map a2T)),(17,i64 (O.length:Int)),(18,i64 (p.1:Int))],a5O 916 p.2.2.1 37 1 p.2.1++[⟨402,m0+1+1+1,40,2,[.agg [str (sb x.lo),str (sb x.hi)]]⟩,⟨0,gS,TS,szS,esS⟩],p.2.2.2⟩) (fun p=>O.length - p.1)
  (fun p=>p.1<=O.length/\p.2.1=(a1D (O.take p.1) (x.lo,x.hi)).map (txD false)) (0,[],0,_) ⟨d9U _,rfl⟩ wkI ?_
 rintro ⟨j,R,g2,m2⟩ F ⟨hj,hR⟩;dsimp only at hj hR ⊢;rcases d9H j O.length with h3|h3
 rotate_left
 ·have e2:=ltF h3
  have:j=O.length:=by omega
  subst this;have hR2:R=(a0L ((a0J v).take (i+1))).map a2T:=by
   rw [hR,hsn,e0S];refine e1M fun c hc=>?_
   obtain ⟨d,-,hd⟩:=a5H.1 hc
   have:c≠[]:=by rcases hd with rfl|rfl<;>simp
   unfold a2T;rw [d9m this]
  have hRl:R.length=2^(i+1):=by
   rw [hR2,d9s,a2R (i+1) _ (by unfold a0J;rw [d9J,d9s];omega)]
  rcases R with _|⟨y,R⟩
  ·have:=e1s (i+1)
   rw [d9R] at hRl;omega
  dsimp only [a2a,a2b,a1B,a1C];refine goI a6W (ff2 e2 wi) d9j d9j d9j d9j d9j d9j ?_
  by_cases hq:i+1<v.length
  ·exact ⟨(i+1,false,g2,_),h2,by dsimp only;omega,by (dsimp only;rw [d9l hq,<- hR2];exact wkI (b:=⟨.refl _,.refl _,a5S (K:=916) (g:=g2) (T:=37) (l:=y::R) (.inr rfl) rfl,.refl _,.refl _,.refl _,trivial⟩))⟩
  ·exact ⟨(i+1,false,g2,_),h2,by dsimp only;omega,by (dsimp only;rw [d9m hq,<- hR2];exact wkI)⟩
 have e2:=ltT h3;have wj:=wiI (i:=j) (by omega);obtain ⟨c,hc⟩:=a0I h3;have hc4:=hO4 c (d9r hc);have hmO:(O.map a2T)[j]? = some (a2T c):=by rw [d9E,hc];rfl
 obtain ⟨ed,hed⟩:∃ d,a2T c=d:=⟨_,rfl⟩
 rw [hed] at hmO;have hna:a6A ed=true:=by rw [<- hed];unfold a2T;split<;>rfl
 refine sZ 700 ?_;refine gwI e2 ?_;refine OkS.seq ?_;refine ifI ?_;refine skI ?_;refine OkS.seq ?_;refine OkS.block ?_;refine sZ 800 ?_;refine ixI kT hmO ?_;refine gwI hna ?_;have hRl:R.length<=32:=by
  have:∀ l:List (List (List UInt8)),(a1D l (x.lo,x.hi)).length=2*l.length:=fun l=>by
   unfold a1D
   induction l with
   | nil=>rfl
   | cons a l ih=>rw [List.flatMap_cons,d9Z,ih,d9u];simp;omega
  rw [hR,d9s,this,d9J];omega
 have hS:R++[txD false (c++[x.lo]),txD false (c++[x.hi])]=(a1D (O.take (j+1)) (x.lo,x.hi)).map (txD false):=by
  rw [hR,e0Z,hc];unfold a1D;simp
 have hed2:(ed=a1w/\c=[])\/ed=txD false c:=by
  rw [<- hed];rcases c with _|⟨c0,cr⟩
  ·exact .inl ⟨b8L,rfl⟩
  ·exact .inr (b6L _ _)
 obtain ⟨cs,hcs⟩:∃ cs,c.map (fun l=>str (sb l))=cs:=⟨_,rfl⟩
 have hsrc:∀ H:Hp,∃ q:Prop,b6q H 1 ed=some (cs,q)/\q:=fun H=>by
  rcases hed2 with ⟨rfl,rfl⟩|rfl
  ·exact ⟨True,by rw [<- hcs];rfl,trivial⟩
  ·exact ⟨1=1,by rw [<- hcs];rfl,rfl⟩
 have hcl:cs.length<=4:=by rw [<- hcs,d9s];exact hc4
 obtain ⟨N,hN⟩:∃ N,m2+1+1+1+1=N:=⟨_,rfl⟩
 obtain ⟨ga,hga⟩:∃ N,m0+1+1+1=N:=⟨_,rfl⟩
 rw [hN,hga];have hg4:Hp.get (a5O 916 g2 37 1 R++[⟨402,ga,40,2,[.agg [str (sb x.lo),str (sb x.hi)]]⟩,⟨0,gS,TS,szS,esS⟩]) 402=some ⟨402,ga,40,2,[.agg [str (sb x.lo),str (sb x.hi)]]⟩:=by cases R<;>rfl
 refine d8Q w1 900 [0,1,2,3,4,5,6,7,8,9,10,11,12,13,14,15] [16,17] (use:=d3w) (con:=d4c ⟨901,N+1,38,1,[]⟩ ⟨903,N+3,38,1,[].take 0++cs⟩ ⟨908,N+8,38,1,[]⟩ ⟨910,N+10,38,1,[].take 0++cs⟩)
  (rs:=c2V _ [(0,a6g 916 g2 1 R,none),(1,.osl 901 (N+1) 1 0 0,some ⟨901,N+1,38,1,[]⟩),(2,ed,none),(3,.osl 903 (N+3) 1 0 (0+cs.length),some ⟨903,N+3,38,1,[].take 0++cs⟩),(4,.optr 402 ga 2 0 0,none),(5,str (sb x.lo),none),(6,.sl true 1 [str (sb x.lo)],none),
   (7,.osl 907 (N+7) 1 0 (0+cs.length+1),some ⟨907,N+7,38,1,([].take 0++cs).take (0+cs.length)++[str (sb x.lo)]⟩),(8,.osl 908 (N+8) 1 0 0,some ⟨908,N+8,38,1,[]⟩),(9,ed,none),(10,.osl 910 (N+10) 1 0 (0+cs.length),some ⟨910,N+10,38,1,[].take 0++cs⟩),(11,.optr 402 ga 2 0 1,none),
   (12,str (sb x.hi),none),(13,.sl true 1 [str (sb x.hi)],none),(14,.osl 914 (N+14) 1 0 (0+cs.length+1),some ⟨914,N+14,38,1,([].take 0++cs).take (0+cs.length)++[str (sb x.hi)]⟩),
   (15,.sl true 1 [.osl 907 (N+7) 1 0 (0+cs.length+1),.osl 914 (N+14) 1 0 (0+cs.length+1)],none)])
  (N:=[⟨907,N+7,38,1,([].take 0++cs).take (0+cs.length)++[str (sb x.lo)]⟩,⟨914,N+14,38,1,([].take 0++cs).take (0+cs.length)++[str (sb x.hi)]⟩])
  (by kernel_rfl) rfl (c3B (a8g (l:=[0,1,2,3,4,5,6,7,8,9,10,11,12,13,14]) (by kernel_rfl)) (a8g (l:=[0,1,2,3,4,5,6,7,8,9,10,11,12,13,14]) (by kernel_rfl)) (a8g (l:=[0,1,2,3,4,5,6,7,8,9,10,11,12,13,14]) (by kernel_rfl)) (a8g (l:=[0,1,2,3,4,5,6,7,8,9,10,11,12,13,14]) (by kernel_rfl))) (c8K.at ?_) (List.Perm.refl _) ?_
 ·obtain ⟨q,hs1,hq⟩:=hsrc [⟨901,N+1,38,1,[]⟩]
  obtain ⟨q2,hs2,hq2⟩:=hsrc [⟨908,N+8,38,1,[]⟩];refine And.intro (And.intro rfl (Or.inl (And.intro rfl (a0s.p w1.tt rfl rfl d9j)))) ?_;refine And.intro (And.intro rfl (Or.inl (And.intro rfl (a0s.l' 901 w1.tt rfl rfl d9j)))) ?_;refine And.intro (And.intro rfl (Or.inl (And.intro rfl (a0s.p w1.tt rfl rfl d9j)))) ?_;refine And.intro (And.intro rfl (Or.inr ⟨_,_,rfl,rfl,a5N.app 903 w1.tt rfl (b8M (k1:=901) (e1:=⟨901,N+1,38,1,[]⟩) (len:=0) (news:=cs) (p:=q) rfl rfl hs1 rfl rfl) ⟨hq,rfl,rfl,rfl,rfl,d9y _,by show (0+cs.length)*16<=140737488355328;omega,by decide,by decide⟩⟩)) ?_;refine And.intro (And.intro rfl (Or.inl (And.intro rfl (a0s.p w1.tt rfl rfl d9j)))) ?_;refine And.intro (And.intro rfl (Or.inl (And.intro rfl (a0s.l' 905 w1.tt rfl (b1r rfl rfl hg4 rfl rfl) ⟨rfl,rfl,rfl⟩)))) ?_;refine And.intro (And.intro rfl (Or.inl (And.intro rfl (a0s.l' 906 w1.tt rfl rfl (by exact sdI))))) ?_;refine And.intro (And.intro rfl (Or.inr ⟨_,_,rfl,rfl,a5N.app 907 w1.tt rfl rfl ⟨rfl,rfl,rfl,rfl,rfl,by show 0+cs.length<=([]++cs).length;rw [e0p];omega,by show (0+cs.length+1)*16<=140737488355328;omega,by decide,by decide⟩⟩)) ?_;refine And.intro (And.intro rfl (Or.inl (And.intro rfl (a0s.l' 908 w1.tt rfl rfl d9j)))) ?_;refine And.intro (And.intro rfl (Or.inl (And.intro rfl (a0s.p w1.tt rfl rfl d9j)))) ?_;refine And.intro (And.intro rfl (Or.inr ⟨_,_,rfl,rfl,a5N.app 910 w1.tt rfl (b8M (k1:=908) (e1:=⟨908,N+8,38,1,[]⟩) (len:=0) (news:=cs) (p:=q2) rfl rfl hs2 rfl rfl) ⟨hq2,rfl,rfl,rfl,rfl,d9y _,by show (0+cs.length)*16<=140737488355328;omega,by decide,by decide⟩⟩)) ?_;refine And.intro (And.intro rfl (Or.inl (And.intro rfl (a0s.p w1.tt rfl rfl d9j)))) ?_;refine And.intro (And.intro rfl (Or.inl (And.intro rfl (a0s.l' 912 w1.tt rfl (b1r rfl rfl hg4 rfl rfl) ⟨rfl,rfl,rfl⟩)))) ?_;refine And.intro (And.intro rfl (Or.inl (And.intro rfl (a0s.l' 913 w1.tt rfl rfl (by exact sdI))))) ?_;refine And.intro (And.intro rfl (Or.inr ⟨_,_,rfl,rfl,a5N.app 914 w1.tt rfl rfl ⟨rfl,rfl,rfl,rfl,rfl,by show 0+cs.length<=([]++cs).length;rw [e0p];omega,by show (0+cs.length+1)*16<=140737488355328;omega,by decide,by decide⟩⟩)) ?_;refine And.intro (And.intro rfl (Or.inl (And.intro rfl (a0s.l' 915 w1.tt rfl rfl (by exact sdI))))) ?_;exact d9j
 have ht1:([]:List D).take 0++cs=cs:=rfl;have ht2:(([]:List D).take 0++cs).take (0+cs.length)=cs:=by rw [ht1,d9S,e0S]
 have htl:∀ t,(cs++[str (sb t)])=(c++[t]).map fun l=>str (sb l):=fun t=>by rw [<- hcs,e0Q];rfl
 have hcL:cs.length=c.length:=by rw [<- hcs,d9s]
 change a2g _ _ _ _ _ ⟨(37,.sl true 1 [.osl 907 (N+7) 1 0 (0+cs.length+1),.osl 914 (N+14) 1 0 (0+cs.length+1)])::(36,.osl 914 (N+14) 1 0 (0+cs.length+1))::(35,.sl true 1 [str (sb x.hi)])::(34,str (sb x.hi))::(33,.optr 402 ga 2 0 1)::(32,.osl 910 (N+10) 1 0 (0+cs.length))::(31,ed)::(30,.osl 908 (N+8) 1 0 0)::(29,.osl 907 (N+7) 1 0 (0+cs.length+1))::(28,.sl true 1 [str (sb x.lo)])::(27,str (sb x.lo))::(26,.optr 402 ga 2 0 0)::(25,.osl 903 (N+3) 1 0 (0+cs.length))::(24,ed)::(23,.osl 901 (N+1) 1 0 0)::(22,a6g 916 g2 1 R)::_,_,_⟩ _ _;rw [ht2];rcases R with _|⟨y,R⟩
 ·dsimp only [a2a,a2b,List.nil_append,List.cons_append]
  repeat (first|(refine a0v rfl rfl ?_;refine a2N (fun _ _=>rfl) ?_)|(refine a0B rfl rfl ?_;refine a2M (fun _ _=>rfl) ?_)|refine a1R rfl rfl rfl (by first|(simp only [];done)|fail) (by exact sdI) (a2N (fun _ _=>rfl) ?_)|refine a9N rfl rfl rfl (by first|(simp only [];done)|fail) (by exact sdI) ?_|refine a2Q rfl rfl rfl (by first|(simp only [];done)|fail) (by exact sdI) (a2M (fun _ _=>rfl) ?_)|refine a9M rfl rfl rfl (by first|(simp only [];done)|fail) (by exact sdI) ?_|(refine a0v rfl rfl ?_;refine b1c rfl rfl rfl (by (try dsimp only);(try simp only []);exact rfl) ?_)|(refine a0v rfl rfl ?_;refine a7J rfl rfl rfl (by (try dsimp only);(try simp only []);exact rfl) ?_)|(refine a1R rfl rfl rfl (by first|(simp only [];done)|fail) (by exact sdI) ?_;refine b1c rfl rfl rfl (by (try dsimp only);(try simp only []);exact rfl) ?_)|(refine a1R rfl rfl rfl (by first|(simp only [];done)|fail) (by exact sdI) ?_;refine a7J rfl rfl rfl (by (try dsimp only);(try simp only []);exact rfl) ?_)|(refine a0B rfl rfl ?_;refine a9K rfl rfl rfl (by (try dsimp only);(try simp only []);exact rfl) ?_)|(refine a2Q rfl rfl rfl (by first|(simp only [];done)|fail) (by exact sdI) ?_;refine a9K rfl rfl rfl (by (try dsimp only);(try simp only []);exact rfl) ?_))
  refine stI ?_;refine goI a6W wj d9j d9j d9j d9j d9j d9j ?_;rw [htl,htl];exact ⟨(j+1,[txD false (c++[x.lo]),txD false (c++[x.hi])],N+18,_),⟨h3,hS⟩,by dsimp only;omega,wkI (a:=d8m (R:=[]) rfl rfl rfl rfl (b0z rfl rfl (by simp [hcL])) (b0z rfl rfl (by simp [hcL])) (.drop (.drop (.keep (.keep .nil)))))⟩
 ·dsimp only [a1B,a1C,List.nil_append,List.cons_append]
  have htk:List.take (R.length+1) (y::R)=y::R:=by simp
  rw [d9u] at hRl;refine gwI htk ?_;refine goI a6W wj d9j d9j d9j d9j d9j d9j ?_;rw [htl,htl];exact ⟨(j+1,y::R++[txD false (c++[x.lo]),txD false (c++[x.hi])],N+18,_),⟨h3,hS⟩,by dsimp only;omega,by
   dsimp only;rw [show a6g 916 (N+18) 1 (y::R++[txD false (c++[x.lo]),txD false (c++[x.hi])])=.osl 916 (N+18) 1 0 (R.length+1+2) from by simp [a6g]];exact wkI (a:=d8m (R:=y::R) rfl rfl rfl rfl (b0z rfl rfl (by simp [hcL])) (b0z rfl rfl (by simp [hcL])) (.drop (.drop (.keep (.keep .nil)))))⟩
abbrev a1P:Dr:=[(45,[0,1,2,3,4,5],[6,7])]
open Go.Proofs Go.RowKit
set_option maxRecDepth 20000
set_option maxHeartbeats 8000000
theorem d2w (ha:a0b C0 9 [] (boo true))(s:a1c)(hs:s.fit)(v:List SpT)(hv:v.length<=9223372036854775807):a0b C0 3 [s.D,spD false v] (boo true):=by
 refine a0c.walk w1 d6W rfl fun F=>?_
 have cl:=c7i s hs;have cq:=c6M false v hv;have hf:=@b9O s;have h40:=@c2M s;have elv:(((v.map SpT.D).length:Nat):Int)=(v.length:Int):=by rw [d9s]
 have hall:=@d9W _ b6O v;obtain ⟨L,hL⟩:∃ L,a7y s=L:=⟨_,rfl⟩
 obtain ⟨A,hA⟩:∃ L,v.all b6O=L:=⟨_,rfl⟩
 rw [hL] at cl hf h40;rw [hA] at cq hall;have el2:(((s.gs.map a1p.D).length:Nat):Int)=(s.gs.length:Int):=by rw [d9s]
 obtain ⟨fsD,hfsD⟩:∃ d,s.fs.map a1S.D=d:=⟨_,rfl⟩
 obtain ⟨gsD,hgsD⟩:∃ d,s.gs.map a1p.D=d:=⟨_,rfl⟩
 have p1:IsPure (.sl false 4 fsD):=by rw [<- hfsD];exact d9k
 have p2:IsPure (.sl false 3 gsD):=by rw [<- hgsD];exact d9k
 have sD:s.D=.agg [.sl false 4 fsD,.sl false 3 gsD]:=by unfold a1c.D;rw [hfsD,hgsD]
 rw [hgsD] at el2;rw [sD] at cl ⊢;clear hfsD hgsD;cases L
 ·refine goI a1P kB cl ha d9j d9j d9j d9j ?_
  exact a0a rfl IsPure.out
 have hs:=hf rfl;have h4:=h40 rfl;have cF:=d5M s hs;have hF0:b9c s=true->a0o s=0:=fun h=>by
  unfold b9c at h;simp only [d9B,e0l] at h;exact h.2.2
 obtain ⟨FW,hFW⟩:∃ b,b9c s=b:=⟨_,rfl⟩
 rw [hFW,sD] at cF;rw [hFW] at hF0;cases FW
 ·refine goI a1P kB cl cF ha d9j d9j d9j ?_
  exact a0a rfl IsPure.out
 have h0:=hF0 rfl
 by_cases hv4:4<v.length
 ·have e4:decide ((v.length:Int)>4)=true:=d9q (by omega)
  refine goI a1P (ff2 e4 elv) cl cF ha d9j d9j d9j ?_;exact a0a rfl IsPure.out
 have e4:decide ((v.length:Int)>4)=false:=d9p (by omega);cases A
 ·refine goI a1P (ff2 e4 elv) cl cF cq ha d9j d9j ?_
  exact a0a rfl IsPure.out
 have hall:=hall.1 rfl;have hv40:P40 v:=fun y hy=>by
  have:=a8E (hall y hy)
  exact ⟨this y.lo (by simp),this y.hi (by simp)⟩
 have hvf:c8w v:=⟨by omega,fun y hy=>by have:=hv40 y hy;unfold SpT.few;omega⟩
 have c6:=d3n s false v hvf;have c1:=c0y s hs false v hvf;have c2:=d5B s hs false v hvf;have hq:a5B s v=a2X s.fs.length v:=d9l h0;rw [<- hq] at c6;rw [sD] at c6 c1 c2
 by_cases hq1:a5B s v≠0
 ·have e5:=b3N hq1
  refine goI a1P (ff3 e4 e5 elv) cl cF cq c6 ha d9j ?_;exact a0a rfl IsPure.out
 have h1:a5B s v=0:=Decidable.not_not.1 hq1;have eP:c1P s v=b1G (a0d s) v:=d9l h1;have hne:=c5H h1;have hlen:=c7E (a0d s) v;rw [a1z] at hlen;have hok8:=(a1s h0).2.1;have s1:=fun a=>@c3y s v a h1
 have s2:=fun a b l=>@c1w s v a b l h1
 have hpos:=fun c=>@c6B s v h1 hv40 c
 have hleft:=fun g=>@b7a s v h1 g
 have hple:=fun g=>@c5G (a0d s) v g
 have hgood:=fun g k=>@b2X s v h1 g k
 have hcR:=fun c hc hz=>c7l s hs c hc hz
 have hcN:=fun g k=>c7D s hs false v hvf g k
 rw [eP] at c1;rw [h1] at c1 c6;obtain ⟨P,hP⟩:∃ P,b1G (a0d s) v=P:=⟨_,rfl⟩
 rw [hP] at c1 hne hlen;simp only [hP] at s1 s2 hpos hleft;obtain ⟨SG,hSG⟩:∃ P,b4T s v=P:=⟨_,rfl⟩
 obtain ⟨SE,hSE⟩:∃ P,b4S s v=P:=⟨_,rfl⟩
 rw [hSG,hSE] at c2;rw [sD] at hcR hcN;have e0:(((0:Nat):Int) != 0)=false:=rfl;have eP0:((((a1J P).length:Nat):Int)==0)=false:=by
  rw [d9D];intro h;refine hne (e0d ?_);unfold a1J at h;rw [d9s] at h;omega
 refine goI a1P (ff4 e4 e0 elv eP0) cl cF cq c6 c1 c2 ?_;obtain ⟨box,hbox⟩:∃ b:Ent,(⟨0,0,25,2,[.agg [.sl false 4 fsD,.sl false 3 gsD]]⟩:Ent)=b:=⟨_,rfl⟩
 subst hbox;refine OkS.loop (α:=Nat × Nat × Nat) (fun p=>⟨[(1,spD false v),(2,.optr 0 0 2 0 0),(5,.sl false 1 (a1J P)),(7,i64 (SG:Nat)),(8,i64 (SE:Nat)),(9,a6g 1108 p.2.1 1 (tsD ((a4e v).take p.1))),(72,spD false v),(73,i64 (v.length:Int)),(74,i64 (p.1:Int))],a5O 1108 p.2.1 38 1 (tsD ((a4e v).take p.1))++[⟨0,0,25,2,[.agg [.sl false 4 fsD,.sl false 3 gsD]]⟩],p.2.2⟩) (fun p=>v.length - p.1)
  (fun p=>p.1<=v.length) (0,0,_) (d9U _) (by (dsimp only;rw [e2H,show tsD []=[] from rfl];exact wkI)) ?_
 rintro ⟨i,gM,m⟩ F hi;dsimp only at hi ⊢;have hml:(a4e v).length=v.length:=by unfold a4e;rw [d9s]
 rcases d9H i v.length with h2|h2
 ·have e1:=ltT h2
  have wi:=wiI (i:=i) (by omega);obtain ⟨x,hx⟩:=a0I h2;have hm:(v.map SpT.D)[i]? = some (.agg [str (sb x.lo),str (sb x.hi)]):=by rw [d9E,hx];rfl
  have hxm:=d9r hx;obtain ⟨x1,x2,-⟩:=(a3r h1).2.2 x hxm;obtain ⟨y1,y2⟩:=hv40 x hxm;have cA:=d6q (a0e x.lo) (a0e x.hi) 3 3 (rk3 x1 y1) (rk3 x2 y2) (by decide);have cH:=d5N (a0e x.lo+a0e x.hi) 6 (d3q (a9d x1 y1) (a9d x2 y2)) (by decide);rw [d2C] at cH;rw [b3q x1,b3q x2] at cA;have hsn:tsD ((a4e v).take (i+1))=tsD ((a4e v).take i)++[str (sb (b9W x.lo x.hi))]:=by
   rw [e0Z,show (a4e v)[i]? = some (b9W x.lo x.hi) from by unfold a4e;rw [d9E,hx];rfl];simp [tsD]
  have hle:(tsD ((a4e v).take i)).length<=4:=by unfold tsD;rw [d9s,d9J];omega
  obtain ⟨TL,hTL⟩:∃ TL,tsD ((a4e v).take i)=TL:=⟨_,rfl⟩
  rw [hTL] at hsn hle ⊢;rcases TL with _|⟨y,TL⟩
  ·dsimp only [a2a,a2b,List.nil_append]
   refine goI a1P (ff4 e1 wi elv kN) hm cA cH d9j d9j d9j ?_;exact ⟨(i+1,_,_),h2,by dsimp only;omega,by (dsimp only;rw [hsn];exact wkI)⟩
  ·dsimp only [a1B,a1C]
   rw [d9u] at hle;have htk:List.take (TL.length+1) (y::TL)=y::TL:=by simp
   refine goI a1P (ff5 e1 wi elv htk kN) hm cA cH d9j d9j d9j ?_;exact ⟨(i+1,_,_),h2,by dsimp only;omega,by (dsimp only;rw [hsn,a2s];exact wkI)⟩
 have e1:=ltF h2
 have:i=v.length:=by omega
 subst this;rw [show (a4e v).take v.length=a4e v from d9G (by omega)];refine sZ 900 ?_;refine gwI e1 ?_;refine OkS.seq ?_;refine ifI ?_;refine exI ?_;refine OkS.weak ⟨[(1,spD false v),(2,.optr 0 0 2 0 0),(5,.sl false 1 (a1J P)),(7,i64 (SG:Nat)),(8,i64 (SE:Nat)),(9,txD false (a4e v))],[⟨0,0,25,2,[.agg [.sl false 4 fsD,.sl false 3 gsD]]⟩],m+9⟩
  (wkI (a:=b1x (.keep .nil)) (b:=⟨.refl _,.refl _,.refl _,.refl _,.refl _,a5S a8Q rfl,trivial⟩)) ?_
 have hv0:0<v.length:=by
  have:=b0k h0
  have:=(a3r h1).2.1
  omega
 have cC:=b0m v hv0 (by omega) (m+9+1) 0 25 2 [.agg [.sl false 4 fsD,.sl false 3 gsD]];refine goI a1P kB d9j d9j d9j d9j d9j d9j ?_;refine a0j.own _ cC ?_;rintro d H' n' ⟨gC,rfl,rfl⟩;obtain ⟨LL,hLL⟩:∃ LL,a0L (a0J v)++[a4e v]=LL:=⟨_,rfl⟩
 have hne1:∀ c∈a0L (a0J v),c≠[]:=fun c hc e=>by
  have:=(b2t.1 hc).1
  rw [e,d9R] at this;omega
 have hKL:(a0L (a0J v)).map a2T++[txD false (a4e v)]=LL.map (txD false):=by
  rw [<- hLL,e0Q]
  congr 1
  refine e1M fun c hc=>?_
  unfold a2T;rw [d9m (hne1 c hc)]
 have hLl:(a0L (a0J v)).length+1=LL.length:=by rw [<- hLL,d9Z];rfl
 have hL16:(a0L (a0J v)).length<=16:=by
  rw [a2R v.length _ (by unfold a0J;rw [d9s])];exact e0w (by decide) (show v.length<=4 by omega)
 rw [hLL] at hpos;obtain ⟨K,hK⟩:∃ K,(a0L (a0J v)).map a2T=K:=⟨_,rfl⟩
 have hKl:K.length+1=LL.length:=by rw [<- hK,d9s];exact hLl
 rw [hK] at hKL ⊢;have htk:List.take K.length K=K:=e0S;refine goI a1P htk d9j d9j d9j d9j d9j d9j ?_;have eLL:((((K++[txD false (a4e v)]).length:Nat)):Int)=(LL.length:Int):=by rw [hKL,d9s]
 refine OkS.loop (α:=Nat × Nat) (fun p=>⟨[(1,spD false v),(2,.optr 0 0 2 0 0),(5,.sl false 1 (a1J P)),(7,i64 (SG:Nat)),(8,i64 (SE:Nat)),(92,.sl false 1 (LL.map (txD false))),(93,i64 (LL.length:Int)),(94,i64 (p.1:Int))],[⟨0,0,25,2,[.agg [.sl false 4 fsD,.sl false 3 gsD]]⟩],p.2⟩) (fun p=>LL.length - p.1) (fun p=>p.1<=LL.length) (0,_) (d9U _)
  (by dsimp only;rw [<- hKL,<- hKl];exact wkI (a:=.drop (.keep .nil)) (b:=⟨.refl _,.refl _,.refl _,.refl _,.refl _,b0z rfl rfl (by simp),.refl _,.refl _,trivial⟩)) ?_
 have hPl:P.length<=17:=by omega
 rintro ⟨j,m3⟩ F hj;dsimp only at hj ⊢;rcases d9H j LL.length with h2|h2
 ·have e1:=ltT h2
  have wj:=wiI (i:=j) (by omega);obtain ⟨c,hc⟩:=a0I h2;have hm:(LL.map (txD false))[j]? = some (txD false c):=by rw [d9E,hc];rfl
  obtain ⟨q1,q2,q3⟩:=hpos c (d9r hc);have cR:=hcR c q1 q2;have cH:=d7o false P (a3b (a0d s) c) (by omega);rw [List.contains_iff_mem.2 q3] at cH;obtain ⟨al,hal⟩:∃ a,a3b (a0d s) c=a:=⟨_,rfl⟩
  rw [hal] at cR cH;obtain ⟨cD,hcD⟩:∃ d,txD false c=d:=⟨_,rfl⟩
  have pc:IsPure cD:=by rw [<- hcD];exact d9k
  have hna:a6A cD=true:=by rw [<- hcD];rfl
  rw [hcD] at hm cR;refine goI a1P (ff3 e1 wj hna) hm cR cH d9j d9j d9j ?_;exact ⟨(j+1,_),h2,by dsimp only;omega,wkI⟩
 have e1:=ltF h2;have eP1:(((a1J P).length:Nat):Int)=(P.length:Int):=by unfold a1J;rw [d9s]
 refine goI a1P (ff2 e1 eP1) d9j d9j d9j d9j d9j d9j ?_;refine OkS.loop (α:=Nat × Nat) (fun p=>⟨[(1,spD false v),(2,.optr 0 0 2 0 0),(5,.sl false 1 (a1J P)),(7,i64 (SG:Nat)),(8,i64 (SE:Nat)),(113,.sl false 1 (a1J P)),(114,i64 (P.length:Int)),(115,i64 (p.1:Int))],[⟨0,0,25,2,[.agg [.sl false 4 fsD,.sl false 3 gsD]]⟩],p.2⟩) (fun p=>P.length - p.1) (fun p=>p.1<=P.length) (0,_) (d9U _) wkI ?_;rintro ⟨i,m4⟩ F hi;dsimp only at hi ⊢;clear hpos hLL hKL hKl htk eLL cC c1 c2 c6 cl cF cq;rcases d9H i P.length with h2|h2
 ·have e1:=ltT h2
  have wi:=wiI (i:=i) (by omega);obtain ⟨h,hh⟩:=a0I h2;have hm:(a1J P)[i]? = some (i64 (h:Int)):=by unfold a1J;rw [d9E,hh];rfl
  have hmem:=d9r hh;have hle:=hple h (by rw [hP];exact hmem);rw [a1z] at hle
  by_cases hg:h=s.gs.length
  ·have f1:((h:Int)==(s.gs.length:Int))=true:=by rw [hg];exact beq_self_eq_true _
   refine goI a1P (ff5 e1 wi el2 f1 kN) hm d9j d9j d9j d9j d9j ?_;exact ⟨(i+1,_),h2,by dsimp only;omega,wkI⟩
  have f1:((h:Int)==(s.gs.length:Int))=false:=by rw [d9D];omega
  obtain ⟨hN,hcor,hfnd⟩:=hleft h hmem (by omega);have hgd:=fun k hk=>hgood h k (by omega) hk (hN k hk)
  have hcN:=fun k:Nat=>hcN (h:Int) (k:Int)
  refine goI a1P (ff5 e1 el2 elv f1 kN) hm d9j d9j d9j d9j d9j ?_;refine OkS.loop (α:=Nat × Nat × Nat) (fun p=>⟨[(1,spD false v),(2,.optr 0 0 2 0 0),(5,.sl false 1 (a1J P)),(7,i64 (SG:Nat)),(8,i64 (SE:Nat)),(17,i64 (h:Int)),(18,a6g 3103 p.2.1 2 ((a4E s v h p.1).map SpT.D)),(113,.sl false 1 (a1J P)),(114,i64 (P.length:Int)),(115,i64 (i:Int)),(125,i64 (v.length:Int)),(126,i64 (p.1:Int))],a5O 3103 p.2.1 40 2 ((a4E s v h p.1).map SpT.D)++[⟨0,0,25,2,[.agg [.sl false 4 fsD,.sl false 3 gsD]]⟩],p.2.2⟩) (fun p=>v.length - p.1)
   (fun p=>p.1<=v.length) (0,0,_) (d9U _) (by (dsimp only;rw [show (a4E s v h 0).map SpT.D=[] from rfl];exact wkI)) ?_
  rintro ⟨k,gL,m5⟩ F hk;dsimp only at hk ⊢;rcases d9H k v.length with h3|h3
  ·have e2:=ltT h3
   have wk:=wiI (i:=k) (by omega);obtain ⟨n1,n2,n3,n4⟩:=hgd k h3;have cN:=hcN k;rw [n1] at cN;have hsn:(a4E s v h (k+1)).map SpT.D=(a4E s v h k).map SpT.D++[(a3B (a0d s) h k (sv v k)).D]:=by rw [b9M,e0Q];rfl
   obtain ⟨nG,hnG⟩:∃ x,a3B (a0d s) h k (sv v k)=x:=⟨_,rfl⟩
   rw [hnG] at n2 n3 n4 cN hsn;have cS:=d3m nG.lo nG.hi (a8x n3) (a8x n4);rw [n2] at cS;unfold SpT.D at cN;dsimp only at cN;have hll:((a4E s v h k).map SpT.D).length<=4:=by rw [d9s,a6w];omega
   obtain ⟨TL,hTL⟩:∃ TL,(a4E s v h k).map SpT.D=TL:=⟨_,rfl⟩
   rw [hTL] at hsn hll ⊢;rw [show nG.D=.agg [str (sb nG.lo),str (sb nG.hi)] from rfl] at hsn;have f3:(((0:Nat):Int) != 0)=false:=rfl;rcases TL with _|⟨y,TL⟩
   ·dsimp only [a2a,a2b,List.nil_append]
    refine goI a1P (ff3 e2 wk f3) cN cS d9j d9j d9j d9j ?_;exact ⟨(k+1,_,_),h3,by dsimp only;omega,by (dsimp only;rw [hsn];exact wkI)⟩
   ·dsimp only [a1B,a1C]
    rw [d9u] at hll;have htk:List.take (TL.length+1) (y::TL)=y::TL:=by simp
    refine goI a1P (ff4 e2 wk f3 htk) cN cS d9j d9j d9j d9j ?_;exact ⟨(k+1,_,_),h3,by dsimp only;omega,by (dsimp only;rw [hsn,a2s];exact wkI)⟩
  have e2:=ltF h3
  have:k=v.length:=by omega
  subst this;refine sZ 2600 ?_;refine gwI e2 ?_;refine OkS.seq ?_;refine ifI ?_;refine exI ?_;refine OkS.weak ⟨[(1,spD false v),(2,.optr 0 0 2 0 0),(5,.sl false 1 (a1J P)),(7,i64 (SG:Nat)),(8,i64 (SE:Nat)),(17,i64 (h:Int)),(18,spD false (a4E s v h v.length)),(113,.sl false 1 (a1J P)),(114,i64 (P.length:Int)),(115,i64 (i:Int))],[⟨0,0,25,2,[.agg [.sl false 4 fsD,.sl false 3 gsD]]⟩],m5+9⟩
   (wkI (a:=b1x (.keep .nil)) (b:=⟨.refl _,.refl _,.refl _,.refl _,.refl _,.refl _,a5S a8Q rfl,.refl _,.refl _,.refl _,trivial⟩)) ?_
  obtain ⟨lf,hlf⟩:∃ l,a4E s v h v.length=l:=⟨_,rfl⟩
  have hlfl:lf.length=v.length:=by rw [<- hlf,a6w]
  rw [hlf] at hcor hfnd ⊢;have cC:=b0m lf (by omega) (by omega) (m5+9+1+1) 0 25 2 [.agg [.sl false 4 fsD,.sl false 3 gsD]];refine goI a1P kB d9j d9j d9j d9j d9j d9j ?_;refine a0j.own _ cC ?_;rintro d H' n' ⟨gC,rfl,rfl⟩;obtain ⟨L2,hL2⟩:∃ L,a0L (a0J lf)=L:=⟨_,rfl⟩
  have hK2:L2.map a2T=L2.map (txD false):=by
   refine e1M fun c hc=>?_
   have:c≠[]:=fun e=>by
    rw [<- hL2] at hc
    have:=(b2t.1 hc).1
    rw [e,d9R] at this;omega
   unfold a2T;rw [d9m this]
  have hl2:L2.length<=16:=by
   rw [<- hL2,a2R lf.length _ (by unfold a0J;rw [d9s])];exact e0w (by decide) (show lf.length<=4 by omega)
  rw [hL2] at hcor hfnd ⊢;rw [hK2];have eL2:(((L2.map (txD false)).length:Nat):Int)=(L2.length:Int):=by rw [d9s]
  refine goI a1P eL2 d9j d9j d9j d9j d9j d9j ?_;refine OkS.loop (α:=Nat × Nat) (fun p=>⟨[(1,spD false v),(2,.optr 0 0 2 0 0),(5,.sl false 1 (a1J P)),(7,i64 (SG:Nat)),(8,i64 (SE:Nat)),(17,i64 (h:Int)),(23,boo ((L2.take p.1).any fun c=>(a3b (a0d s) c:Int)==(h:Int))),(113,.sl false 1 (a1J P)),(114,i64 (P.length:Int)),(115,i64 (i:Int)),(155,.sl false 1 (L2.map (txD false))),(156,i64 (L2.length:Int)),(157,i64 (p.1:Int))],[⟨0,0,25,2,[.agg [.sl false 4 fsD,.sl false 3 gsD]]⟩],p.2⟩) (fun p=>L2.length - p.1)
   (fun p=>p.1<=L2.length) (0,_) (d9U _) (wkI (a:=.drop (.keep .nil)) (b:=⟨.refl _,.refl _,.refl _,.refl _,.refl _,.refl _,.refl _,.refl _,.refl _,.refl _,b0z rfl rfl rfl,.refl _,.refl _,trivial⟩)) ?_
  rintro ⟨q,m6⟩ F hq;dsimp only at hq ⊢;rcases d9H q L2.length with h4|h4
  ·have e3:=ltT h4
   have wq:=wiI (i:=q) (by omega);obtain ⟨c,hc⟩:=a0I h4;have hm2:(L2.map (txD false))[q]? = some (txD false c):=by rw [d9E,hc];rfl
   obtain ⟨q1,q2⟩:=hcor c (d9r hc);have cR:=hcR c q1 q2;have hsn:((L2.take (q+1)).any fun c=>(a3b (a0d s) c:Int)==(h:Int))=(((L2.take q).any fun c=>(a3b (a0d s) c:Int)==(h:Int))||((a3b (a0d s) c:Int)==(h:Int))):=by
    rw [e0Z,hc,List.any_append];simp
   obtain ⟨al,hal⟩:∃ a,a3b (a0d s) c=a:=⟨_,rfl⟩
   rw [hal] at cR hsn;obtain ⟨cD,hcD⟩:∃ d,txD false c=d:=⟨_,rfl⟩
   have pc:IsPure cD:=by rw [<- hcD];exact d9k
   have hna:a6A cD=true:=by rw [<- hcD];rfl
   rw [hcD] at hm2 cR;obtain ⟨fd,hfd⟩:∃ b,((L2.take q).any fun c=>(a3b (a0d s) c:Int)==(h:Int))=b:=⟨_,rfl⟩
   rw [hfd] at hsn ⊢;obtain ⟨ee,hee⟩:∃ b,((al:Int)==(h:Int))=b:=⟨_,rfl⟩
   rw [hee] at hsn;cases fd
   ·refine goI a1P (ff4 e3 wq hna hee) hm2 cR d9j d9j d9j d9j ?_
    exact ⟨(q+1,_),h4,by dsimp only;omega,by (dsimp only;rw [hsn];exact wkI)⟩
   ·refine goI a1P (ff4 e3 wq hna hee) hm2 cR d9j d9j d9j d9j ?_
    exact ⟨(q+1,_),h4,by dsimp only;omega,by (dsimp only;rw [hsn];exact wkI)⟩
  have e3:=ltF h4
  have:q=L2.length:=by omega
  subst this;rw [e0S];have hT:(L2.any fun c=>(a3b (a0d s) c:Int)==(h:Int))=true:=by
   obtain ⟨c,hc,hg2⟩:=hfnd;exact List.any_eq_true.2 ⟨c,hc,by rw [hg2];exact beq_self_eq_true _⟩
  rw [hT];refine goI a1P (ff2 e3 wi) d9j d9j d9j d9j d9j d9j ?_;exact ⟨(i+1,_),h2,by dsimp only;omega,wkI⟩
 have e1:=ltF h2
 have:i=P.length:=by omega
 subst this;clear hleft hcR hcN hgood;refine sZ 2100 ?_;refine gwI e1 ?_;refine OkS.seq ?_;refine ifI ?_;refine exI ?_;refine OkS.weak ⟨[(2,.optr 0 0 2 0 0),(5,.sl false 1 (a1J P)),(7,i64 (SG:Nat)),(8,i64 (SE:Nat))],[⟨0,0,25,2,[.agg [.sl false 4 fsD,.sl false 3 gsD]]⟩],m4+9⟩ wkI ?_;clear e1;rcases P with _|⟨a,_|⟨a2,P⟩⟩
 ·exact d9n rfl hne
 ·obtain ⟨u1,u2⟩:=s1 a rfl
  rw [hSG] at u1;rw [hSE] at u2;have hI:a1J [a]=[i64 (a:Int)]:=rfl;have f1:decide (((1:Nat):Int)>1)=false:=rfl;have hm:([i64 (a:Int)]:List D)[0]? = some (i64 (a:Int)):=rfl;have hl1:((([i64 (a:Int)]:List D).length:Nat):Int)=((1:Nat):Int):=rfl;rw [hI]
  by_cases ha2:a=s.gs.length
  ·have g2:SE=7:=by rw [u2];unfold b4u;rw [d9l rfl,d9l ha2]
   have f2:((a:Int)==(s.gs.length:Int))=true:=by rw [ha2];exact beq_self_eq_true _
   subst g2;have f4:(((7:Nat):Int)==7)=true:=rfl;refine goI a1P (ff6 f1 f2 f4 hl1 el2 Int.toNat_zero) hm ha d9j d9j d9j d9j ?_;exact a0a rfl IsPure.out
  ·have g2:SE=0:=by rw [u2];unfold b4u;rw [d9l rfl,d9m ha2]
   have g1:SG=a:=by rw [u1];unfold b6U;rw [d9l rfl,d9m ha2]
   have f2:((a:Int)==(s.gs.length:Int))=false:=by rw [d9D];omega
   subst g2;subst g1;have f4:(((0:Nat):Int)==0)=true:=rfl;have f5:((SG:Int)==(SG:Int))=true:=beq_self_eq_true _;refine goI a1P (ff7 f1 f2 f4 f5 hl1 el2 Int.toNat_zero) hm ha d9j d9j d9j d9j ?_;exact a0a rfl IsPure.out
 ·obtain ⟨u1,u2⟩:=s2 a a2 P rfl
  rw [hSE] at u2;subst u2;have f1:decide (((a1J (a::a2::P)).length:Int)>1)=true:=by
   refine d9q ?_;rw [d9s,d9u,d9u];omega
  have f4:(((15:Nat):Int)==15)=true:=rfl;refine goI a1P (ff2 f1 f4) ha d9j d9j d9j d9j d9j ?_;exact a0a rfl IsPure.out
end Go.Ide
