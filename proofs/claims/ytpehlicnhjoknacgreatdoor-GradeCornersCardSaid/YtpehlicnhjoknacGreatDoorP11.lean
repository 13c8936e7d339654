/- The layer of own lemmas and contracts, part 11. -/
import Derived.Test.YtpehlicnhjoknacGreatDoorP10
import Derived.Lib.Bytealg
import Derived.Test.YtpehlicnhjoknacGreatDoorP6
set_option linter.unusedVariables false
set_option linter.unusedSimpArgs false
namespace Go.Ide
open Go.Proofs Go.RowKit
set_option maxRecDepth 20000
set_option maxHeartbeats 2000000
def d6n (x y:GF):GF:=b3h (mkG (x.n.z*y.n.z)) (x.d*y.d)
theorem d6j {a b:Rat}{x y:GF}{i j:Nat}(hx:FR a x i)(hy:FR b y j)(hk:i+j<300000):a0b C0 79 [x.D,y.D] (d6n x y).D:=by
 refine a0c.walk w1 c6T rfl fun F=>?_
 have l1:=hx.ln;have l2:=hy.ln;have l3:=hx.ld;have l4:=hy.ld;have dp:=e2h hx.dpos hy.dpos;have z1:=a4d x.n.z y.n.z;have z4:=a4T x.d y.d;have m1:=d2E x.n y.n hx.is.1 hy.is.1 (by omega) (by omega);have m3:=d6o x.d y.d (by omega) (by omega);have mk:=c2Q (mkG (x.n.z*y.n.z)) (x.d*y.d) (a1d _) dp (by show (a0h (x.n.z*y.n.z).natAbs).length<1000000;omega) (by omega);have p1:IsPure x.n.w:=d9k;have p2:IsPure y.n.w:=d9k;have p3:IsPure (mkG (x.d:Int)).w:=d9k;have p4:IsPure (mkG (y.d:Int)).w:=d9k;have p5:IsPure (mkG (x.n.z*y.n.z)).w:=d9k;have p6:IsPure (mkG ((x.d*y.d:Nat):Int)).w:=d9k;have p7:IsPure (b3h (mkG (x.n.z*y.n.z)) (x.d*y.d)).n.w:=d9k;have p8:IsPure (mkG ((b3h (mkG (x.n.z*y.n.z)) (x.d*y.d)).d:Int)).w:=d9k;unfold d6n;clear l1 l2 l3 l4 dp z1 z4 hx hy;dsimp only [GI.D,GF.D] at *;refine fR 0 ?_;refine OkS.seq ?_;refine d8K w1 100 [0,1,2,3,4,5,6,7,8] [9,10,11] (by kernel_rfl) ?_;refine nxI ?_;refine a0q.same _ (m1) d9k ?_;refine nxI ?_;refine dI m3 ?_;refine dI mk ?_;refine rtI ?_;exact a0a rfl IsPure.out
def a1H (a b:Rat):Int:=if a<b then -1 else if b<a then 1 else 0
theorem c9f (a b:Rat):a6M (a.num*b.den) (b.num*a.den)=a1H a b:=by
 unfold a6M a1H;simp only [Rat.lt_iff]
theorem b0r {a b:Rat}{x y:GF}{i j:Nat}(hx:FR a x i)(hy:FR b y j)(hk:i+j<300000):a0b C0 117 [x.D,y.D] (i64 (a1H a b)):=by
 refine a0c.walk w1 b9k rfl fun F=>?_
 have l1:=hx.ln;have l2:=hy.ln;have l3:=hx.ld;have l4:=hy.ld;have m1:=d5q x.n y.d hx.is.1 (by omega) (by omega);have m2:=d5q y.n x.d hy.is.1 (by omega) (by omega);have z1:=a4d x.n.z y.d;have z2:=a4d y.n.z x.d;rw [e0B] at z1 z2;have cm:=d4b (mkG (x.n.z*y.d)) (mkG (y.n.z*x.d)) (a1d _) (a1d _) (by show (a0h (x.n.z*y.d).natAbs).length<1000000;omega) (by show (a0h (y.n.z*x.d).natAbs).length<1000000;omega);have e:a6M (mkG (x.n.z*y.d)).z (mkG (y.n.z*x.d)).z=a1H a b:=by
  rw [a3U,a3U,<- c9f,hx.is.2.1,hx.is.2.2,hy.is.2.1,hy.is.2.2]
 rw [e] at cm;have p1:IsPure x.n.w:=d9k;have p2:IsPure y.n.w:=d9k;have p3:IsPure (mkG (x.d:Int)).w:=d9k;have p4:IsPure (mkG (y.d:Int)).w:=d9k;have p5:IsPure (mkG (x.n.z*y.d)).w:=d9k;have p6:IsPure (mkG (y.n.z*x.d)).w:=d9k;clear l1 l2 l3 l4 z1 z2 e hx hy;dsimp only [GI.D,GF.D] at *;refine fR 0 ?_;refine OkS.seq ?_;refine d8K w1 100 [0,1,2,3,4,5,6,7,8] [9,10,11] (by kernel_rfl) ?_;refine nxI ?_;refine a0q.same _ (m1) d9k ?_;refine nxI ?_;refine dI m2 ?_;refine dI cm ?_;refine rtI ?_;exact a0a rfl IsPure.out
def a9y (a:Rat):Int:=max (-1) (min 1 a.num)
theorem b9w {a:Rat}{x:GF}(hx:isF a x):a0b C0 135 [x.D] (i64 (a9y a)):=by
 refine a0c.walk w1 b9m rfl fun F=>?_
 have cg:=b0V x.n hx.1;rw [hx.2.1] at cg;have p1:IsPure x.n.w:=d9k;have p3:IsPure (mkG (x.d:Int)).w:=d9k;unfold a9y;dsimp only [GI.D,GF.D] at *;refine fR 0 ?_;refine fR 100 ?_;refine dI cg ?_;refine rtI ?_;exact a0a rfl IsPure.out
abbrev sb (l:List UInt8):ByteArray:=⟨l.toArray⟩
theorem a0x (l:List UInt8):(sb l).size=l.length:=by simp [ByteArray.size]
theorem a2r (l:List UInt8)(i j:Nat):(sb l).extract i j=sb ((l.take j).drop i):=by
 apply ByteArray.ext;rw [ByteArray.data_extract];simp [List.drop_take]
theorem c1b (l:List UInt8):(sb l).toList=l:=by
 rw [ByteArray.toList_eq]
theorem a5Z (l m:List UInt8):a1G (sb l) (sb m)=decide (l=m):=by
 unfold a1G;rw [c1b,c1b,e1j,e1i,decide_eq_true_iff]
def a2i (l:List UInt8):Bool:=match l with
 | []=>false
 | c::_=>c==45
def a0l (l:List UInt8):List UInt8:=if a2i l then l.drop 1 else l
def a0f (l:List UInt8):Nat:=(l.takeWhile (· != 47)).length
theorem a2L (l:List UInt8):a0f l<=l.length:=by
 unfold a0f;exact (List.takeWhile_sublist _).length_le
theorem b2U (l:List UInt8):Lib.indexByte l 47=if a0f l<l.length then (a0f l:Int) else -1:=by
 induction l with
 | nil=>rfl
 | cons c l ih =>
  unfold Lib.indexByte
  by_cases h:c=47
  ·subst h
   simp [a0f]
  ·have e1:a0f (c::l)=a0f l+1:=by
    unfold a0f;rw [e2D,d9l (by simpa using h),d9u]
   have hb:(c==47)=false:=by simpa using h
   rw [hb,ih,e1,d9u]
   by_cases h2:a0f l<l.length
   ·have h3:a0f l+1<l.length+1:=by omega
    have h4:(((a0f l:Nat):Int) == -1)=false:=d9D.2 (by omega);simp only [h2,h3,h4,if_true,e1k,if_false];omega
   ·have h3:¬ a0f l+1<l.length+1:=by omega
    simp only [h2,h3,e1k,if_false];rfl
theorem b0D (l:List UInt8)(hl:l.length<=1000000000):a0b C0 229 [str (sb l),str (sb [45])] (boo (a2i l)):=by
 refine a0c.walk w1 c4Z rfl fun F=>?_
 have hsz:=a0x l;have hs1:=a0x [45];refine sR 0 ?_;refine OkS.seq ?_;cases l with
 | nil =>
  have e1:decide (((sb []).size:Int)>=((sb [45]).size:Int))=false:=rfl;refine d8I w1 100 (by kernel_rfl) ?_;refine nwI e1 ?_;refine gwI e1 ?_;refine gwI e1 ?_;refine rtI ?_;exact a0a rfl IsPure.out
 | cons c l =>
  have e1:decide (((sb (c::l)).size:Int)>=((sb [45]).size:Int))=true:=d9q (by rw [hsz,hs1];simp only [d9u,d9R];omega);have e2:(sb (c::l)).extract 0 ((((sb [45]).size:Nat):Int)).toNat=sb [c]:=by rw [a2r];rfl
  have e3:a1G (sb [c]) (sb [45])=a2i (c::l):=by
   rw [a5Z,a2i,e1j,decide_eq_true_iff,e1i];simp
  have h0:(0:Int)<=((sb [45]).size:Int):=by omega
  have h1:((sb [45]).size:Int)<=((sb (c::l)).size:Int):=by rw [hsz,hs1];simp only [d9u,d9R];omega
  refine d8I w1 100 (by kernel_rfl) ?_;refine nwI e1 ?_;refine gwI (ff3 e1 e2 e3) ?_;refine gwI (ff3 e1 e2 e3) ?_;refine rtI ?_;exact a0a rfl IsPure.out
theorem b2S (l:List UInt8)(hl:l.length<=1000000000):a0b C0 191 [str (sb l),str (sb [45])] (boo (a2i l)):=by
 refine a0c.walk w1 c4E rfl fun F=>?_
 have c1:=b0D l hl;generalize sb l=s at *;generalize a2i l=b at *;refine fR 0 ?_;refine fR 100 ?_;refine dI c1 ?_;refine rtI ?_;exact a0a rfl IsPure.out
theorem b4Z (l:List UInt8)(hl:l.length<=1000000000):a0b C0 205 [str (sb l),str (sb [45])] (str (sb (a0l l))):=by
 refine a0c.walk w1 c4L rfl fun F=>?_
 have c1:=b0D l hl;have hsz:=a0x l;unfold a0l;refine sR 0 ?_;refine OkS.seq ?_;refine sR 100 ?_;refine cI c1 ?_;rcases hb:a2i l with _|_
 ·rw [d9m (by simp)]
  refine ifI ?_;refine skI ?_;refine sR 300 ?_;refine rtI ?_;exact a0a rfl IsPure.out
 ·rw [d9l rfl]
  have h1:(0:Int)<=((sb [45]).size:Int):=by omega
  have h2:((sb [45]).size:Int)<=((sb l).size:Int):=by
   rw [hsz];show (1:Int)<=_;cases l with
   | nil=>cases hb
   | cons c l=>simp only [d9u];omega
  have e2:(sb l).extract (((sb [45]).size:Nat):Int).toNat (sb l).size=sb (l.drop 1):=by
   rw [a2r,hsz,d9G (d9y _)];rfl
  refine ifI ?_;refine sZ 200 ?_;refine nwI e2 ?_;refine rtI ?_;exact a0a rfl IsPure.out
theorem a6J (l:List UInt8)(hl:l.length<=1000000000):a0b C0 150 [str (sb l),str (sb [45])] (str (sb (a0l l))):=by
 refine a0c.walk w1 c4s rfl fun F=>?_
 have c1:=b4Z l hl;generalize sb l=s at *;generalize sb (a0l l)=t at *;refine fR 0 ?_;refine fR 100 ?_;refine dI c1 ?_;refine rtI ?_;exact a0a rfl IsPure.out
theorem b6Z (l:List UInt8):a0b C0 256 [str (sb l),.prim (.int .u8 47)] (i64 (if a0f l<l.length then (a0f l:Int) else -1)):=by
 refine a0c.walk w1 c5g rfl fun F=>?_
 have e1:firstIdx (sb l) (((47:Int)).toNat.toUInt8)=(if a0f l<l.length then (a0f l:Int) else -1):=by
  rw [Lib.firstIdx_eq];exact b2U l
 generalize (if a0f l<l.length then (a0f l:Int) else -1)=r at *;refine fR 0 ?_;refine OkS.seq ?_;refine d8I w1 100 (by kernel_rfl) ?_;refine nwI e1 ?_;refine rtI ?_;exact a0a rfl IsPure.out
theorem c2H (l:List UInt8)(hl:l.length<=1000000000):a0b C0 228 [str (sb l),str (sb [47])] (i64 (if a0f l<l.length then (a0f l:Int) else -1)):=by
 refine a0c.walk w1 c4Y rfl fun F=>?_
 have c1:=b6Z l;have eS:=a5Z [47] l;have hr:[47]=l->(if a0f l<l.length then (a0f l:Int) else -1)=0:=fun h=>by subst h;rfl
 generalize (if a0f l<l.length then (a0f l:Int) else -1)=r at *;have e0:(((sb [47]).size:Int)==0)=false:=rfl;have e1:(((sb [47]).size:Int)==1)=true:=rfl;have hx:(((sb [47]).data.toList.getD ((0:Int)).toNat 0).toNat:Int)=47:=rfl;refine sR 0 ?_;refine sR 100 ?_;refine OkS.seq ?_;refine OkS.block ?_
 by_cases h:[47]=l
 ·rw [d9q h] at eS
  have hr:=hr h;subst hr;refine sZ 200 ?_;refine nwI e0 ?_;refine gwI (ff3 e0 kF eS) ?_;refine gwI (ff3 e0 kF eS) ?_;refine ifI ?_;refine sR 300 ?_;refine rtI ?_;exact a0a rfl IsPure.out
 ·rw [d9p h] at eS
  refine sZ 200 ?_;refine nwI e0 ?_;refine gwI (ff3 e0 kF eS) ?_;refine gwI (ff3 e0 kF eS) ?_;refine ifI ?_;refine sZ 400 ?_;refine nwI e1 ?_;refine ifI ?_;refine sZ 500 ?_;refine nwI hx ?_;refine cI c1 ?_;refine rtI ?_;exact a0a rfl IsPure.out
theorem d6S (l:List UInt8)(hl:l.length<=1000000000):a0b C0 190 [str (sb l),str (sb [47])] (.tup [str (sb (l.take (a0f l))),str (sb (l.drop (a0f l+1))),boo (decide (a0f l<l.length))]):=by
 refine a0c.walk w1 c4D rfl fun F=>?_
 have c1:=c2H l hl;have hsz:=a0x l;have hle:=a2L l;refine sR 0 ?_
 by_cases h:a0f l<l.length
 ·rw [d9l h] at c1
  have e1:decide (((a0f l:Nat):Int)>=0)=true:=d9q (by omega);have e2:(sb l).extract 0 (((a0f l:Nat):Int)).toNat=sb (l.take (a0f l)):=by rw [a2r];rfl
  have w3:IntKind.i64.wrap (((a0f l:Nat):Int)+((sb [47]).size:Int))=((a0f l+1:Nat):Int):=by
   show IntKind.i64.wrap (((a0f l:Nat):Int)+1)=_;rw [wI (by omega) (by omega)];omega
  have e3:(sb l).extract (((a0f l+1:Nat):Int)).toNat (sb l).size=sb (l.drop (a0f l+1)):=by
   rw [a2r,hsz,d9G (d9y _)];rfl
  rw [d9q h];refine OkS.seq ?_;refine sR 100 ?_;refine cI c1 ?_;refine sZ 200 ?_;refine nwI e1 ?_;refine ifI ?_;refine OkS.seq ?_;refine d8K w1 300 [0,1,2,3,4,5,6,7,8,9] [10,11] (by kernel_rfl) ?_;refine gwI (ff3 w3 e2 e3) ?_;refine rtI ?_;exact a0a rfl IsPure.out
 ·rw [d9m h] at c1
  have hk:a0f l=l.length:=by omega
  have e1:decide (((-1:Int))>=0)=false:=rfl;rw [d9p h,hk,d9G (d9y _),e0R (by omega)];refine OkS.seq ?_;refine sR 100 ?_;refine cI c1 ?_;refine sZ 200 ?_;refine nwI e1 ?_;refine ifI ?_;refine skI ?_;refine sR 400 ?_;refine rtI ?_;exact a0a rfl IsPure.out
theorem c3S (l:List UInt8)(hl:l.length<=1000000000):a0b C0 139 [str (sb l),str (sb [47])] (.tup [str (sb (l.take (a0f l))),str (sb (l.drop (a0f l+1))),boo (decide (a0f l<l.length))]):=by
 refine a0c.walk w1 c4n rfl fun F=>?_
 have c1:=d6S l hl;generalize sb l=s at *;generalize sb (l.take (a0f l))=t at *;generalize sb (l.drop (a0f l+1))=u at *;generalize decide (a0f l<l.length)=b at *;refine fR 0 ?_;refine fR 100 ?_;refine dI c1 ?_;refine rtI ?_;exact a0a rfl IsPure.out
def a0D (c:UInt8):Bool:=Nat.ble 48 c.toNat&&Nat.ble c.toNat 57
def b7w:D:=.agg ((List.range 256).map fun i=>boo (Nat.ble 48 i&&Nat.ble i 57))
abbrev ten:List UInt8:=[48,49,50,51,52,53,54,55,56,57]
noncomputable def X4:EV:=⟨tt2,xbt.get,fbt.get,fun _=>false,fun _ _=>none,fun _ _=>none,b7R⟩
theorem d3V:a9R C0 X4:=⟨d3r,b4V,ftab,fun _ _ _ h=>by simp [X4] at h,by kernel_rfl,fun _ _ _ h=>by simp [X4] at h,a5V⟩
theorem w4:WOk C0 X4:=d3V.w
theorem b7e:a0b C0 267 [str (sb ten)] (.tup [b7w,boo true]):=d9b d3V 1000 40 (by kernel_rfl)
def d5K (o:Option D)(b:Bool):Bool:=match o with
 | some (.prim (.bool c))=>c==b
 | _=>false
theorem c0S {o:Option D}{b:Bool}(h:d5K o b=true):o=some (boo b):=by
 unfold d5K at h;split at h
 ·rw [e1i] at h;subst h;rfl
 ·cases h
theorem b2s:((List.range 256).all fun c=>d5K ((evF X4 1000 40).1 295 [.pptr b7w,.prim (.int .u8 (c:Nat))]) (Nat.ble 48 c&&Nat.ble c 57))=true:=by kernel_rfl
theorem a8z (c:UInt8):a0b C0 295 [.pptr b7w,.prim (.int .u8 (c.toNat:Nat))] (boo (a0D c)):=by
 refine d9b d3V 1000 40 ?_;have h:=d9W.1 b2s c.toNat (List.mem_range.2 c.toNat_lt);exact c0S h
instance:CellsPure b7w:=⟨fun c hc=>by
 change c∈(List.range 256).map (fun i=>boo (Nat.ble 48 i&&Nat.ble i 57)) at hc;obtain ⟨i,_,rfl⟩:=List.mem_map.1 hc;exact .prim _⟩
def a6b (l:List UInt8):List UInt8:=(l.reverse.dropWhile a0D).reverse
theorem b7D (m:List UInt8)(c:UInt8):a6b (m++[c])=if a0D c then a6b m else m++[c]:=by
 unfold a6b;rw [List.reverse_append,List.reverse_singleton,List.singleton_append,e2e];split
 ·rfl
 ·rw [List.reverse_cons,List.reverse_reverse]
theorem c3E (l:List UInt8):((a6b l).dropWhile a0D=[])↔l.all a0D=true:=by
 constructor
 ·intro h
  have h1:∀ m:List UInt8,m.dropWhile a0D=[]->m.all a0D=true:=fun m=>by
   induction m with
   | nil=>intro _;rfl
   | cons c m ih =>
    intro hm;rw [e2e] at hm;split at hm
    ·rename_i hc
     rw [e1f,hc,ih hm];rfl
    ·cases hm
  have h2:(l.reverse.dropWhile a0D).all a0D=true:=by
   have:=h1 _ h
   unfold a6b at this
   rwa [List.all_reverse] at this
  have h3:∀ m:List UInt8,(m.dropWhile a0D).all a0D=true->m.all a0D=true:=fun m=>by
   induction m with
   | nil=>intro _;rfl
   | cons c m ih =>
    intro hm;rw [e2e] at hm;split at hm
    ·rename_i hc
     rw [e1f,hc,ih hm];rfl
    ·exact hm
  have:=h3 _ h2
  rwa [List.all_reverse] at this
 ·intro h
  have h1:∀ m:List UInt8,m.all a0D=true->m.dropWhile a0D=[]:=fun m=>by
   induction m with
   | nil=>intro _;rfl
   | cons c m ih =>
    intro hm;rw [e1f,d9B] at hm;rw [e2e,d9l hm.1];exact ih hm.2
  have hx:=h1 l.reverse (by rw [List.all_reverse];exact h);unfold a6b;rw [hx];rfl
theorem b4Y (l:List UInt8)(hl:l.length<=1000000000):a0b C0 268 [str (sb l),.pptr b7w] (str (sb (l.dropWhile a0D))):=by
 refine a0c.walk w1 c5h rfl fun F=>?_
 have hps:CellsPure b7w:=d9k;have hcc:=a8z;generalize b7w=sd at *;refine sR 0 ?_;refine OkS.seq ?_;refine OkS.block ?_;refine OkS.loop (α:=List UInt8 × Nat) (fun p=>⟨[(0,str (sb p.1)),(1,.pptr sd)],[],p.2⟩) (fun p=>p.1.length) (fun p=>p.1.dropWhile a0D=l.dropWhile a0D/\p.1.length<=l.length) (l,_) ⟨rfl,d9y _⟩ wkI ?_;rintro ⟨m,n⟩ F ⟨h1,h2⟩;dsimp only at h1 h2 ⊢;refine OkS.seq ?_;refine OkS.seq ?_;cases m with
 | nil =>
  have e1:decide (((sb []).size:Int)>0)=false:=rfl;refine d8I w1 100 (by kernel_rfl) ?_;refine nwI e1 ?_;refine ifI ?_;refine exI ?_;refine sR 400 ?_;refine rtI ?_;exact a0a (by rw [<- h1];rfl) IsPure.out
 | cons c m =>
  have hsz:=a0x (c::m);have e1:decide (((sb (c::m)).size:Int)>0)=true:=d9q (by rw [hsz,d9u];omega);have hx:(((sb (c::m)).data.toList.getD ((0:Int)).toNat 0).toNat:Int)=(c.toNat:Int):=rfl;have b1:(0:Int)<((sb (c::m)).size:Int):=by rw [hsz,d9u];omega
  have b2:(1:Int)<=((sb (c::m)).size:Int):=by omega
  have e3:(sb (c::m)).extract ((1:Int)).toNat (sb (c::m)).size=sb m:=by
   rw [a2r,hsz,d9G (d9y _)];rfl
  have cc:=hcc c;refine d8I w1 100 (by kernel_rfl) ?_;refine nwI e1 ?_;refine ifI ?_;refine skI ?_;refine OkS.block ?_;refine OkS.seq ?_;refine sZ 200 ?_;refine nwI hx ?_;refine cI cc ?_;rcases hb:a0D c with _|_
  ·refine ifI ?_
   refine exI ?_;refine sR 400 ?_;refine rtI ?_;refine a0a ?_ IsPure.out;rw [<- h1,e2e,d9m (by rw [hb];simp)]
  ·refine ifI ?_
   refine skI ?_;refine d8I w1 300 (by kernel_rfl) ?_;refine nwI e3 ?_;refine ⟨(m,_),⟨?_,?_⟩,?_,wkI⟩
   ·rw [<- h1,e2e,d9l hb]
   ·rw [d9u] at h2;dsimp only;omega
   ·show m.length<m.length+1;omega
theorem b3I (l:List UInt8)(hl:l.length<=1000000000):a0b C0 269 [str (sb l),.pptr b7w] (str (sb (a6b l))):=by
 refine a0c.walk w1 c5i rfl fun F=>?_
 have hps:CellsPure b7w:=d9k;have hcc:=a8z;generalize b7w=sd at *;refine sR 0 ?_;refine OkS.seq ?_;refine OkS.block ?_;refine OkS.loop (α:=List UInt8 × Nat) (fun p=>⟨[(0,str (sb p.1)),(1,.pptr sd)],[],p.2⟩) (fun p=>p.1.length) (fun p=>a6b p.1=a6b l/\p.1.length<=l.length) (l,_) ⟨rfl,d9y _⟩ wkI ?_;rintro ⟨m,n⟩ F ⟨h1,h2⟩;dsimp only at h1 h2 ⊢;refine OkS.seq ?_;refine OkS.seq ?_;rcases e1O m with rfl|⟨m,c,rfl⟩
 ·have e1:decide (((sb []).size:Int)>0)=false:=rfl
  refine d8I w1 100 (by kernel_rfl) ?_;refine nwI e1 ?_;refine ifI ?_;refine exI ?_;refine sR 400 ?_;refine rtI ?_;exact a0a (by rw [<- h1];rfl) IsPure.out
 ·rw [e1N] at h1 h2 ⊢
  have hsz:=a0x (m++[c]);rw [d9Z,e1a] at hsz h2;have e1:decide (((sb (m++[c])).size:Int)>0)=true:=d9q (by rw [hsz];omega);have wk1:IntKind.i64.wrap (((sb (m++[c])).size:Int) - 1)=(m.length:Int):=by rw [hsz,wI (by omega) (by omega)];omega
  have hx:(((sb (m++[c])).data.toList.getD (((m.length:Nat):Int)).toNat 0).toNat:Int)=(c.toNat:Int):=by
   show (((m++[c]).getD m.length 0).toNat:Int)=_;simp
  have b1:((m.length:Nat):Int)<((sb (m++[c])).size:Int):=by rw [hsz];omega
  have e3:(sb (m++[c])).extract 0 (((m.length:Nat):Int)).toNat=sb m:=by
   rw [a2r];simp
  have cc:=hcc c;have ht:=b7D m c;refine d8I w1 100 (by kernel_rfl) ?_;refine nwI e1 ?_;refine ifI ?_;refine skI ?_;refine OkS.block ?_;refine OkS.seq ?_;refine sZ 200 ?_;refine nwI (ff2 wk1 hx) ?_;refine cI cc ?_;rcases hb:a0D c with _|_
  ·rw [d9m (by rw [hb];simp)] at ht
   refine ifI ?_;refine exI ?_;refine sR 400 ?_;refine rtI ?_;exact a0a (by rw [<- h1,ht]) IsPure.out
  ·rw [d9l hb] at ht
   refine ifI ?_;refine skI ?_;refine d8I w1 300 (by kernel_rfl) ?_;refine nwI (ff2 wk1 e3) ?_;refine ⟨(m,_),⟨by rw [<- h1,ht],by dsimp only;omega⟩,?_,wkI⟩;dsimp only;rw [d9Z,e1a];omega
namespace TrimW
theorem w1:WOk C0 X4:=w4
theorem trim_ok (l:List UInt8)(hl:l.length<=1000000000):a0b C0 239 [str (sb l),str (sb ten)] (str (sb ((a6b l).dropWhile a0D))):=by
 refine a0c.walk w1 c5a rfl fun F=>?_
 have cm:=b7e;have c1:=b3I l hl;have hlr:(a6b l).length<=1000000000:=by
  unfold a6b;rw [List.length_reverse];exact d9V (List.dropWhile_sublist _).length_le (by rw [List.length_reverse];exact hl)
 have c2:=b4Y (a6b l) hlr;have hps:CellsPure b7w:=d9k;have eS:=a5Z l [];have e2:(((sb ten).size:Int)==1)=false:=rfl;have e4:a1G (sb ten) (sb [])=false:=by rw [a5Z];exact d9p (by simp)
 have hfit:a0Y true 256 b7w:=by
  have h:((List.range 256).map fun i=>boo (Nat.ble 48 i&&Nat.ble i 57)).length=256:=by rw [d9s,e1Y]
  have:=a0Y.agg (ds:=(List.range 256).map fun i=>boo (Nat.ble 48 i&&Nat.ble i 57))
  rw [h] at this;exact this
 refine sR 0 ?_
 by_cases h0:l=[]
 ·subst h0
  have eS':a1G (sb []) (sb [])=true:=by rw [a5Z];exact d9q rfl
  refine OkS.seq ?_;refine sZ 100 ?_;refine nwI eS' ?_;refine gwI (ff2 eS' kT) ?_;refine ifI ?_;refine sR 200 ?_;refine rtI ?_;exact a0a rfl IsPure.out
 ·rw [d9p h0] at eS
  refine OkS.seq ?_;refine sZ 100 ?_;refine nwI eS ?_;refine gwI (ff3 eS e4 kF) ?_;refine gwI (ff3 eS e4 kF) ?_;refine ifI ?_;refine skI ?_;refine OkS.seq ?_;refine sZ 300 ?_;refine nwI e2 ?_;refine gwI e2 ?_;refine gwI e2 ?_;refine ifI ?_;refine skI ?_;refine OkS.seq ?_;refine sR 500 ?_;refine a0j.same _ cm d9k ?_;refine dsI ?_;generalize b7w=sd at *
  repeat (refine a0v rfl rfl ?_;refine a2N (fun _ _=>rfl) ?_)
  refine a5g (And.intro (by repeat' (first|exact hfit|refine And.intro ?_ ?_|exact sdI)) ?_);refine dsI ?_;refine sR 600 ?_;refine ifI ?_;refine sR 700 ?_;refine a0j.own _ (d9h c1 rfl ?_ d9k (b0a.prim _)) ?_
  ·intro i x y hx hy
   match i with
   | 0=>simp at hx hy;subst hx;subst hy;exact FzS.refl _ _
   | 1=>simp at hx hy;subst hx;subst hy;exact FzS.ptr rfl rfl rfl rfl
   | i+2=>simp at hx
  rintro d H' n' ⟨rfl,rfl,rfl⟩;refine stI ?_;refine a0j.own _ (d9h c2 rfl ?_ d9k (b0a.prim _)) ?_
  ·intro i x y hx hy
   match i with
   | 0=>simp at hx hy;subst hx;subst hy;exact FzS.refl _ _
   | 1=>simp at hx hy;subst hx;subst hy;exact FzS.ptr rfl rfl rfl rfl
   | i+2=>simp at hx
  rintro d H' n' ⟨rfl,rfl,rfl⟩;refine stI ?_;refine rtI ?_;exact a0a rfl IsPure.out
end TrimW
def dvF (a:Nat)(l:List UInt8):Nat:=l.foldl (fun a c=>a*10+(c.toNat - 48)) a
def dv (l:List UInt8):Nat:=dvF 0 l
theorem c3V (l:List UInt8):∀ a,dvF a l=a*10^l.length+dv l:=by
 induction l with
 | nil=>intro a;simp [dvF,dv]
 | cons c l ih =>
  intro a;have h1:∀ b,dvF b (c::l)=dvF (b*10+(c.toNat - 48)) l:=fun b=>rfl
  have h2:dv (c::l)=dvF (0*10+(c.toNat - 48)) l:=rfl;rw [h1,h2,ih,ih (0*10+(c.toNat - 48)),d9u,e0h];rw [e0e,e2a,d9S,d9Y,d9O 10];omega
theorem a4Q (l m:List UInt8):dv (l++m)=dv l*10^m.length+dv m:=by
 have:dv (l++m)=dvF (dv l) m:=by unfold dv dvF;rw [List.foldl_append]
 rw [this,c3V]
theorem b4k (l:List UInt8):∀ a,l.all a0D=true->Lib.decFrom a l=some (dvF a l):=by
 induction l with
 | nil=>intro a _;rfl
 | cons c l ih =>
  intro a h;rw [e1f,d9B] at h;have hd:Lib.digitVal c=some (c.toNat - 48):=by
   have h1:=h.1;unfold a0D at h1;rw [d9B] at h1;unfold Lib.digitVal;rw [d9l ⟨d9A h1.1,d9A h1.2⟩]
  rw [Lib.decFrom,hd];exact ih _ h.2
theorem a2G {c:UInt8}(h:a0D c=true):48<=c.toNat/\c.toNat<=57:=by
 unfold a0D at h;rw [d9B] at h;exact ⟨d9A h.1,d9A h.2⟩
theorem c1Z {l:List UInt8}(h0:l≠[])(h:l.all a0D=true):Lib.atoi l=some (dv l:Int):=by
 cases l with
 | nil=>exact d9n rfl h0
 | cons c l =>
  have hc:a0D c=true:=by rw [e1f,d9B] at h;exact h.1
  obtain ⟨c1,c2⟩:=a2G hc;have e1:(c==45)=false:=by
   rw [d9D];intro hh;subst hh;simp at c1
  have e2:(c==43)=false:=by
   rw [d9D];intro hh;subst hh;simp at c1
  unfold Lib.atoi;dsimp only;rw [e1,e2];simp only [e1k,if_false];unfold Lib.decNat;simp only [List.isEmpty_cons,e1k,if_false];rw [b4k _ _ h];rfl
theorem a5R (l:List UInt8)(h:l.all a0D=true):dv l<10^l.length:=by
 induction l with
 | nil=>decide
 | cons c l ih =>
  rw [e1f,d9B] at h;have h1:dv (c::l)=dvF (0*10+(c.toNat - 48)) l:=rfl;have h2:=ih h.2;obtain ⟨c1,c2⟩:=a2G h.1;rw [h1,c3V,e2a,d9S,d9u,e0h,d9O _ 10];have h3:(c.toNat - 48)*10^l.length<=9*10^l.length:=d9K _ (by omega);omega
def d5L (o:Option D)(z:Int):Bool:=match o with
 | some (.agg [.prim (.int .i64 a),.prim (.slice none 0 0)])=>a==z
 | _=>false
theorem c0U {o:Option D}{z:Int}(h:d5L o z=true):o=some (smI z):=by
 unfold d5L at h;split at h
 ·rw [e1i] at h;subst h;rfl
 ·cases h
theorem c7F:((List.range 19).all fun k=>d5L ((evF X1 1000 60).1 193 [smI 10,i64 (k:Nat)]) ((10^k:Nat):Int))=true:=by kernel_rfl
theorem d2X (k:Nat)(h:k<19):a0b C0 193 [smI 10,i64 k] (smI ((10^k:Nat):Int)):=by
 refine d9b a4C 1000 60 ?_;exact c0U (d9W.1 c7F k (List.mem_range.2 h))
theorem c7Z {n:Nat}(h:n<9223372036854775808):smI (n:Int)=(mkG (n:Int)).D:=by
 rw [a7B ⟨by omega,by omega⟩];rfl
theorem d6D (a b:Nat)(ha:(a0h a).length<1000000)(hb:(a0h b).length<1000000):a0b C0 144 [(mkG (a:Int)).D,(mkG (b:Int)).D] (mkG ((a+b:Nat):Int)).D:=by
 have:=c6o (mkG (a:Int)) (mkG (b:Int)) (a1d _) (a1d _) (a3R ha) (a3R hb)
 have e:b5e (mkG (a:Int)) (mkG (b:Int))=mkG ((a+b:Nat):Int):=by
  have h1:=b7W (mkG (a:Int)) (mkG (b:Int));rw [a3U,a3U] at h1;rw [b8n (b3U _ _) (by rw [h1];omega),h1]
  congr 1
 rw [e] at this;exact this
theorem a4c {n k:Nat}(h:n<10^k):(a0h n).length<=k:=a1b (e0a h (e2F (by decide) k))
def rv (l:List UInt8):Int:=if a2i l then -(dv (a0l l):Int) else dv (a0l l)
theorem c7G (k:Nat)(h:k<19):a0b C0 193 [smI 10,i64 k] (mkG ((10^k:Nat):Int)).D:=by
 have:=d2X k h
 have h2:10^k<9223372036854775808:=e0f (e0w (by decide) (show k<=18 by omega)) (by decide)
 rwa [c7Z h2] at this
theorem d2N (n:Nat)(h:n<9223372036854775808):a0b C0 136 [i64 n] (mkG (n:Int)).D:=by
 have:=c0g (n:Int)
 rwa [c7Z h] at this
theorem b1M (l:List UInt8)(hd:(a0l l).all a0D=true)(hl:l.length<=100000):a0b C0 140 [str (sb l)] (mkG (rv l)).D:=by
 refine a0c.walk w1 c4o rfl fun F=>?_
 have c1:=b2S l (by omega);have c2:=a6J l (by omega);have hml:(a0l l).length<=100000:=by
  unfold a0l;split
  ·rw [e0x];omega
  ·exact hl
 unfold rv;generalize hm0:a0l l=m0 at *;generalize a2i l=ng at *;generalize sb l=sl at *;have ez:smI 0=(mkG ((0:Nat):Int)).D:=c7Z (by decide);have hpm:∀ n:Nat,IsPure (mkG (n:Int)).w:=fun n=>d9k
 refine sR 0 ?_;refine sR 100 ?_;refine cI c1 ?_;refine sR 200 ?_;refine cI c2 ?_;refine sR 300 ?_;refine d8X (α:=Nat) (fun n=>⟨[(2,.optr 0 0 2 0 0),(3,boo ng),(4,.optr 301 8 2 0 0)],[⟨301,8,114,2,[(mkG (dv m0:Int)).D]⟩,⟨0,0,114,2,[smI 0]⟩],n⟩) (fun _=>True) ?_ ?_
 ·refine OkS.block ?_
  refine d8H (α:=List UInt8 × Nat × Nat) (fun p=>⟨[(0,str (sb p.1)),(2,.optr 0 0 2 0 0),(3,boo ng),(4,.optr 301 8 2 0 0)],[⟨301,8,114,2,[(mkG (p.2.1:Int)).D]⟩,⟨0,0,114,2,[smI 0]⟩],p.2.2⟩) (fun p=>p.1.length)
   (fun p F'=>F'=F/\p.1.all a0D=true/\p.1.length<=m0.length/\p.2.1<10^(m0.length - p.1.length)/\dv m0=p.2.1*10^p.1.length+dv p.1) (m0,0,20) ⟨rfl,hd,d9y _,by simp,by simp⟩ (by rw [<- ez];exact wkI) ?_
  rintro ⟨m,A,n⟩ F' ⟨rfl,h1,h2,h3,h4⟩;dsimp only at h1 h2 h3 h4 ⊢;refine OkS.seq ?_;refine OkS.seq ?_
  by_cases hm:m=[]
  ·subst hm
   have e1:decide (((sb []).size:Int)>0)=false:=rfl;have hA:dv m0=A:=by simpa [dv,dvF] using h4
   rw [hA];refine d8I w1 400 (by kernel_rfl) ?_;refine nwI e1 ?_;refine ifI ?_;refine exI ?_;exact ⟨rfl,_,trivial,wkI⟩
  ·have hm1:0<m.length:=List.length_pos_iff.2 hm
   have hsz:=a0x m;obtain ⟨k,hk⟩:∃ k,k=min 18 m.length:=⟨_,rfl⟩
   have e1:decide (((sb m).size:Int)>0)=true:=d9q (by rw [hsz];omega);have ek:min (18:Int) ((sb m).size:Int)=(k:Int):=by rw [hsz];omega
   have b1:(k:Int)<=((sb m).size:Int):=by rw [hsz];omega
   have e22:(sb m).extract 0 ((k:Int)).toNat=sb (m.take k):=by rw [a2r];rfl
   have e36:(sb m).extract ((k:Int)).toNat (sb m).size=sb (m.drop k):=by
    rw [a2r,hsz,d9G (d9y _)];rfl
   have htk:(m.take k).all a0D=true:=d9W.2 fun c hc=>d9W.1 h1 c (e1R hc)
   have hdk:(m.drop k).all a0D=true:=d9W.2 fun c hc=>d9W.1 h1 c (e1I hc)
   have hlk:(m.take k).length=k:=by rw [d9J];omega
   have hv:=a5R _ htk;rw [hlk] at hv;have h18:10^k<=10^18:=e0w (by decide) (by omega);have ca:=b3Z (sb (m.take k)) (dv (m.take k):Int) (by rw [a0x,hlk];omega) (c1Z (by intro h;change m.take k=[] at h;rw [h] at hlk;simp at hlk;omega) htk);have hval:dv m=dv (m.take k)*10^(m.drop k).length+dv (m.drop k):=by
    conv=>lhs;rw [<- e0H k m]
    exact a4Q _ _
   generalize dv (m.take k)=v at *;have hAl:(a0h A).length<=100000:=d9V (a4c h3) (by omega);have h10:(a0h (10^k)).length<=19:=a4c (k:=19) (Nat.pow_lt_pow_right (by decide) (by omega));have hmul:=a4T A (10^k);have cp:=c7G k (by omega);have c3:=d6o A (10^k) (by omega) (by omega);have cv:=d2N v (by omega);have hvl:(a0h v).length<=19:=a4c (k:=19) (e0a hv (e0w (by decide) (by omega)));have c4:=d6D (A*10^k) v (by omega) (by omega);refine d8I w1 400 (by kernel_rfl) ?_;refine nwI e1 ?_;refine ifI ?_;refine skI ?_;refine OkS.block ?_;refine sZ 500 ?_;refine nwI ek ?_;refine sZ 600 ?_;refine nwI e22 ?_;refine cI ca ?_;refine OkS.seq ?_;refine d8K w1 700 [0,1,2,3,4,5] [6,7,8] (by kernel_rfl) ?_;refine stI ?_;refine a0q.same _ (c0g 10) d9k ?_;refine stI ?_;refine a0q.same _ (cp) d9k ?_;refine stI ?_;refine a0q.same _ (c3) d9k ?_;refine stI ?_;refine cI cv ?_;refine cI c4 ?_;refine d8I w1 800 (by kernel_rfl) ?_;refine nwI e36 ?_;refine ⟨(m.drop k,A*10^k+v,_),⟨trivial,hdk,?_,?_,?_⟩,?_,wkI⟩
   ·dsimp only;rw [e0x];omega
   ·dsimp only
    rw [e0x,show m0.length - (m.length - k)=(m0.length - m.length)+k by omega,e1Q];have h5:(A+1)*10^k<=10^(m0.length - m.length)*10^k:=d9K _ h3;rw [e0e] at h5;omega
   ·dsimp only
    rw [h4,hval,e0x];have h6:10^m.length=10^k*10^(m.length - k):=by rw [<- e1Q];congr 1;omega
    rw [h6,e0e,d9Y];omega
   ·dsimp only;rw [e0x];omega
 rintro n -;have hAl:(a0h (dv m0)).length<=100000:=d9V (a4c (a5R _ hd)) hml;have cn:=c0e (mkG (dv m0:Int)) (a1d _) (a3R (by omega));rw [a3U] at cn;have hpn:IsPure (mkG (-(dv m0:Int))).w:=d9k;refine OkS.seq ?_;refine sR 900 ?_;cases ng with
 | true =>
  rw [d9l rfl];refine ifI ?_;refine sR 1000 ?_;refine cI cn ?_;refine rtI ?_;exact a0a rfl IsPure.out
 | false =>
  rw [d9m (by simp)];refine ifI ?_;refine skI ?_;refine sR 1100 ?_;refine rtI ?_;exact a0a rfl IsPure.out
def c3T (l:List UInt8):Bool:=!decide (l=[])&&l.all a0D
def a1f (l:List UInt8):Bool:=c3T l&&(decide (l=[48]) || !decide (l.head? = some 48))
def a2q (l:List UInt8):List UInt8:=l.take (a0f l)
def a1I (l:List UInt8):List UInt8:=l.drop (a0f l+1)
def a4D (l:List UInt8):Bool:=decide (a0f l<l.length)
def a0Q (l:List UInt8):List UInt8:=a0l (a2q l)
def a4j (l:List UInt8):Bool:=!a1f (a0Q l)||decide (a2q l=[45,48])||(a4D l&&(!a1f (a1I l)||decide (a1I l=[48])||decide (a1I l=[49])))
def chk (l:List UInt8):Nat:=if a4j l then 1 else if 600<(a0Q l).length\/600<(a1I l).length then 4
 else if a4D l=true/\Nat.gcd (dv (a0Q l)) (dv (a1I l))≠1 then 1 else 0
theorem a2V {l:List UInt8}(h:a1f l=true):l≠[]/\l.all a0D=true:=by
 unfold a1f c3T at h;rw [d9B,d9B] at h;exact ⟨by have:=h.1.1;simpa using this,h.1.2⟩
theorem a6U {l:List UInt8}(h:l.all a0D=true):a2i l=false:=by
 cases l with
 | nil=>rfl
 | cons c l =>
  rw [e1f,d9B] at h;obtain ⟨c1,c2⟩:=a2G h.1;show (c==45)=false;rw [d9D];intro hh;subst hh;simp at c1
theorem a1U {l:List UInt8}(h:l.all a0D=true):a0l l=l:=by unfold a0l;rw [a6U h];rfl
theorem b0T {l:List UInt8}(h:l.all a0D=true):rv l=(dv l:Int):=by
 unfold rv;rw [a6U h,a1U h];rfl
theorem b8C (l:List UInt8)(hl:l.length<=1000000000):a0b C0 206 [str (sb l)] (boo (c3T l)):=by
 refine a0c.walk w1 c4M rfl fun F=>?_
 have ct:=TrimW.trim_ok l hl;have eS:=a5Z l [];have eT:=a5Z ((a6b l).dropWhile a0D) [];have hall:decide ((a6b l).dropWhile a0D=[])=l.all a0D:=by
  rw [e1j,decide_eq_true_iff];exact c3E l
 rw [hall] at eT;unfold c3T;rw [<- eS];generalize hb:a1G (sb l) (sb [])=b at *;refine sR 0 ?_;refine OkS.seq ?_;cases b with
 | true =>
  have e1:(!a1G (sb l) (sb []))=false:=by rw [hb];rfl
  refine d8I w1 100 (by kernel_rfl) ?_;refine nwI e1 ?_;refine gwI e1 ?_;refine rtI ?_;exact a0a rfl IsPure.out
 | false =>
  have e1:(!a1G (sb l) (sb []))=true:=by rw [hb];rfl
  refine d8I w1 100 (by kernel_rfl) ?_;refine nwI e1 ?_;refine gwI e1 ?_;refine gcI e1 ?_;refine a0j.same _ ct d9k ?_;refine gwI (ff2 e1 eT) ?_;refine rtI ?_;exact a0a rfl IsPure.out
theorem b6a (l:List UInt8)(hl:l.length<=1000000000):a0b C0 151 [str (sb l)] (boo (a1f l)):=by
 refine a0c.walk w1 c4t rfl fun F=>?_
 have cd:=b8C l hl;have e0:=a5Z l [48];unfold a1f;refine sR 0 ?_;refine sR 100 ?_;refine cI cd ?_;rcases hd:c3T l with _|_
 ·refine gwI (ff2 kT e1k) ?_
  refine gwI (ff2 kT e1k) ?_;refine rtI ?_;exact a0a rfl IsPure.out
 ·obtain ⟨c,m,rfl⟩:∃ c m,l=c::m:=by
   cases l with
   | nil=>cases hd
   | cons c m=>exact ⟨c,m,rfl⟩
  have hsz:=a0x (c::m);rw [d9u] at hsz;have hx:(((sb (c::m)).data.toList.getD ((0:Int)).toNat 0).toNat:Int)=(c.toNat:Int):=rfl;have b0:(0:Int)<((sb (c::m)).size:Int):=by rw [hsz];omega
  by_cases h0:(c::m)=[48]
  ·rw [d9q h0] at e0 ⊢
   refine gwI e0 ?_;refine gwI (ff2 e0 kT) ?_;refine gwI (ff2 e0 kT) ?_;refine rtI ?_;exact a0a rfl IsPure.out
  ·rw [d9p h0] at e0 ⊢
   have e1:((c.toNat:Int) != 48) = !decide (c=48):=by
    rw [e1j];simp only [bne_iff_ne,ne_eq,d9w,e1H];constructor
    ·intro h hc;subst hc;exact h rfl
    ·intro h hc
     apply h
     have:c.toNat=48:=by omega
     exact UInt8.toNat_inj.1 this
   refine gwI e0 ?_;refine gwI (ff4 e0 kF hx e1) ?_;refine gwI (ff4 e0 kF hx e1) ?_;refine rtI ?_;exact a0a (by simp) IsPure.out
theorem c8a (n:Nat):a0b C0 153 [(mkG (n:Int)).D] (.tup [i64 (mkG (n:Int)).s,boo (decide (Sm (n:Int)))]):=by
 refine a0c.walk w1 c4u rfl fun F=>?_
 by_cases hs:Sm (n:Int)
 ·obtain ⟨a1,a2⟩:=d3M hs
  dsimp only [GI.D];rw [a1,a2,d9q hs];refine sR 0 ?_;refine OkS.seq ?_;refine d8K w1 100 [0,1,2,3,4,5] [6] (by kernel_rfl) ?_;refine stI ?_;refine rtI ?_;exact a0a rfl IsPure.out
 ·obtain ⟨a1,a2,a3⟩:=d5p hs
  dsimp only [GI.D];rw [a1,a2,d9p hs];generalize (a0h n).map a0k=l at *;refine sR 0 ?_;refine OkS.seq ?_;refine d8K w1 100 [0,1,2,3,4,5] [6] (by kernel_rfl) ?_;refine nwI (ff3 (@ne_eq (List D)) a3 e0A) ?_;refine rtI ?_;exact a0a rfl IsPure.out
def a0p (l:List UInt8):GF:=⟨mkG (rv (a2q l)),if a4D l then dv (a1I l) else 1⟩
theorem c6U (l:List UInt8)(hl:l.length<=100000)(h1:(a0Q l).all a0D=true)(h2:a4D l=true->(a1I l).all a0D=true):a0b C0 75 [str (sb l)] (a0p l).D:=by
 refine a0c.walk w1 d2e rfl fun F=>?_
 have cc:=c3S l (by omega);have r1:=b1M (a2q l) h1 (by unfold a2q;rw [d9J];omega);have hpw:IsPure (mkG (rv (a2q l))).w:=d9k;unfold a0p;change a0b C0 _ _ (.tup [str (sb (a2q l)),str (sb (a1I l)),boo (a4D l)]) at cc;rcases hs:a4D l with _|_
 ·rw [hs] at cc
  have wg:=c8p (mkG (rv (a2q l)));have hp1:IsPure (mkG ((1:Nat):Int)).w:=d9k;rw [d9m (by simp)];dsimp only [GI.D,GF.D] at *;refine sR 0 ?_;refine sR 100 ?_;refine cI cc ?_;refine OkS.seq ?_;refine sR 200 ?_;refine ifI ?_;refine sR 300 ?_;refine cI r1 ?_;refine cI wg ?_;refine rtI ?_;exact a0a rfl IsPure.out
 ·rw [hs] at cc
  have hd:=h2 hs;have r2:=b1M (a1I l) (by rw [a1U hd];exact hd) (by unfold a1I;rw [e0x];omega);rw [b0T hd] at r2;have hp1:IsPure (mkG (dv (a1I l):Int)).w:=d9k;rw [d9l rfl];dsimp only [GI.D,GF.D] at *;refine sR 0 ?_;refine sR 100 ?_;refine cI cc ?_;refine OkS.seq ?_;refine sR 200 ?_;refine ifI ?_;refine skI ?_;refine sR 400 ?_;refine cI r1 ?_;refine cI r2 ?_;refine rtI ?_;exact a0a rfl IsPure.out
set_option maxHeartbeats 4000000
theorem d2I (g:Nat):((g:Int) != 1)=decide (g≠1):=by
 rw [e1j,bne_iff_ne,decide_eq_true_iff];omega
theorem a6m (l:List UInt8)(hl:l.length<=100000):a0b C0 82 [str (sb l)] (i64 (chk l)):=by
 refine a0c.walk w1 d2h rfl fun F=>?_
 have cc:=c3S l (by omega);change a0b C0 _ _ (.tup [str (sb (a2q l)),str (sb (a1I l)),boo (a4D l)]) at cc;have hnl:(a2q l).length<=100000:=by unfold a2q;rw [d9J];omega
 have hdl:(a1I l).length<=100000:=by unfold a1I;rw [e0x];omega
 have hsl:(a0Q l).length<=100000:=by
  unfold a0Q a0l;split
  ·rw [e0x];omega
  ·exact hnl
 have ct:=a6J (a2q l) (by omega);change a0b C0 _ _ (str (sb (a0Q l))) at ct;have p1:=b6a (a0Q l) (by omega);have p2:=b6a (a1I l) (by omega);have en:=a5Z (a2q l) [45,48];have e0:=a5Z (a1I l) [48];have e1:=a5Z (a1I l) [49];have z1:=a0x (a0Q l);have z2:=a0x (a1I l);have hbf:∃ b,b=a4j l:=⟨_,rfl⟩
 obtain ⟨bf,hbf⟩:=hbf;unfold chk;rw [<- hbf];unfold a4j at hbf;refine sR 0 ?_;refine sR 100 ?_;refine cI cc ?_;refine sR 200 ?_;refine cI ct ?_;refine OkS.seq ?_;refine d8X (α:=Nat) (fun n=>⟨[(4,str (sb (a1I l))),(5,boo (a4D l)),(6,str (sb (a0Q l))),(39,boo bf)],[],n⟩) (fun _=>True) ?_ ?_
 ·refine rI 300 ?_
  refine cI p1 ?_;rcases hp:a1f (a0Q l) with _|_
  ·rw [hp] at hbf
   have hb:bf=true:=by rw [hbf];rfl
   subst hb;simp only [e0o];refine gwI kT ?_;refine gwI kT ?_;exact ⟨trivial,_,trivial,wkI⟩
  ·rw [hp] at hbf
   simp only [e0s]
   by_cases hn:a2q l=[45,48]
   ·rw [d9q hn] at en hbf
    have hb:bf=true:=by rw [hbf];rfl
    subst hb;refine gwI (ff2 kF en) ?_;refine gwI (ff3 kF kT en) ?_;exact ⟨trivial,_,trivial,wkI⟩
   ·rw [d9p hn] at en hbf
    rcases hs:a4D l with _|_
    ·rw [hs] at hbf
     have hb:bf=false:=by rw [hbf];rfl
     subst hb;refine gwI (ff2 kF en) ?_;refine gwI (ff4 kF kT en hs) ?_;refine gwI (ff4 kF kT en hs) ?_;exact ⟨trivial,_,trivial,wkI⟩
    ·rw [hs] at hbf
     refine gwI (ff2 kF en) ?_;refine gwI (ff3 kF en hs) ?_;refine gcI hs ?_;refine a0j.same _ p2 d9k ?_;refine dsI ?_;rcases hq:a1f (a1I l) with _|_
     ·rw [hq] at hbf
      have hb:bf=true:=by rw [hbf];rfl
      subst hb;refine gwI (ff3 kF kT hq) ?_;refine gwI (ff3 kF kT hq) ?_;refine gwI (ff3 kF kT hq) ?_;exact ⟨trivial,_,trivial,wkI⟩
     ·rw [hq] at hbf
      refine gwI hq ?_;simp only [e0s];refine gwI kF ?_
      by_cases h0:a1I l=[48]
      ·rw [d9q h0] at e0 hbf
       have hb:bf=true:=by rw [hbf];rfl
       subst hb;simp only [e0,imp_self];refine gwI kT ?_;refine a1R rfl rfl rfl (by simp only [e0o]) (by simp) (a2N (fun _ _=>rfl) ?_);refine gwI kF ?_;exact ⟨trivial,_,trivial,wkI⟩
      ·rw [d9p h0] at e0 hbf
       simp only [e0];refine gwI kF ?_
       by_cases h1:a1I l=[49]
       ·rw [d9q h1] at e1 hbf
        have hb:bf=true:=by rw [hbf];rfl
        subst hb;simp only [e1];exact ⟨trivial,_,trivial,wkI⟩
       ·rw [d9p h1] at e1 hbf
        have hb:bf=false:=by rw [hbf];rfl
        subst hb;simp only [e1];exact ⟨trivial,_,trivial,wkI⟩
 rintro n -;cases bf with
 | true =>
  rw [d9l rfl];refine ifI ?_;refine sR 400 ?_;refine rtI ?_;exact a0a rfl IsPure.out
 | false =>
  rw [d9m (by simp)];have hbf:=hbf.symm;simp only [e1C,d9x,Bool.and_eq_false_iff] at hbf;obtain ⟨⟨hp,hn⟩,hd⟩:=hbf;refine ifI ?_;refine skI ?_;have hsd:=(a2V hp).2;refine OkS.seq ?_;refine d8X (α:=Nat) (fun n=>⟨[(4,str (sb (a1I l))),(5,boo (a4D l)),(6,str (sb (a0Q l))),(47,boo (decide (600<(a0Q l).length\/600<(a1I l).length)))],[],n⟩) (fun _=>True) ?_ ?_
  ·by_cases hA:600<(a0Q l).length
   ·have ea:decide (((sb (a0Q l)).size:Int)>600)=true:=d9q (by rw [z1];omega)
    have eb:decide (600<(a0Q l).length\/600<(a1I l).length)=true:=d9q (Or.inl hA);rw [eb];refine d8I w1 500 (by kernel_rfl) ?_;refine nwI ea ?_;refine gwI kT ?_;exact ⟨trivial,_,trivial,wkI⟩
   ·have ea:decide (((sb (a0Q l)).size:Int)>600)=false:=d9p (by rw [z1];omega)
    have eb:decide (((sb (a1I l)).size:Int)>600)=decide (600<(a0Q l).length\/600<(a1I l).length):=by
     rw [e0C,z2];omega
    refine d8I w1 500 (by kernel_rfl) ?_;refine nwI ea ?_;refine gwI kF ?_;simp only [eb];exact ⟨trivial,_,trivial,wkI⟩
  rintro n -
  by_cases hL:600<(a0Q l).length\/600<(a1I l).length
  ·rw [d9q hL,d9l hL]
   refine ifI ?_;refine sR 600 ?_;refine rtI ?_;exact a0a rfl IsPure.out
  ·rw [d9p hL,d9m hL]
   refine ifI ?_;refine skI ?_;refine OkS.seq ?_;refine sR 700 ?_;rcases hs:a4D l with _|_
   ·rw [d9m (by simp)]
    refine ifI ?_;refine skI ?_;refine sR 1100 ?_;refine rtI ?_;exact a0a rfl IsPure.out
   ·rw [hs] at hd
    have hd':=hd.resolve_left (by simp);have hdd:=(a2V hd'.1.1).2;have r1:=b1M (a0Q l) (by rw [a1U hsd];exact hsd) hsl;have r2:=b1M (a1I l) (by rw [a1U hdd];exact hdd) hdl;rw [b0T hsd] at r1;rw [b0T hdd] at r2;have l1:(a0h (dv (a0Q l))).length<=100000:=d9V (a4c (a5R _ hsd)) hsl;have l2:(a0h (dv (a1I l))).length<=100000:=d9V (a4c (a5R _ hdd)) hdl;have cg:=d2v (mkG (dv (a0Q l):Int)) (mkG (dv (a1I l):Int)) (a1d _) (a1d _) (a3R (by omega)) (a3R (by omega));rw [a3U,a3U,e0B,e0B] at cg;have cs:=c8a (Nat.gcd (dv (a0Q l)) (dv (a1I l)));obtain ⟨g,hg0⟩:∃ g,g=Nat.gcd (dv (a0Q l)) (dv (a1I l)):=⟨_,rfl⟩
    rw [<- hg0] at cg cs;simp only [<- hg0];have hpa:IsPure (mkG (dv (a0Q l):Int)).w:=d9k;have hpb:IsPure (mkG (dv (a1I l):Int)).w:=d9k;have hpg:IsPure (mkG (g:Int)).w:=d9k;dsimp only [GI.D] at r1 r2 cg cs;refine ifI ?_;refine sR 800 ?_;refine cI r1 ?_;refine cI r2 ?_;refine cI cg ?_;refine cI cs ?_;refine d8X (α:=Nat) (fun n=>⟨[(63,boo (decide (g≠1)))],[],n⟩) (fun _=>True) ?_ ?_
    ·by_cases hg:Sm (g:Int)
     ·obtain ⟨a1,a2⟩:=d3M hg
      have eg:=d2I g;rw [a1,d9q hg];refine rI 900 ?_;simp only [e0s];refine gwI kF ?_;simp only [eg];exact ⟨trivial,_,trivial,wkI⟩
     ·have eg:decide (g≠1)=true:=d9q fun h=>hg (by rw [h];exact ⟨by decide,by decide⟩)
      rw [eg,d9p hg];refine rI 900 ?_;simp only [e0o];refine gwI kT ?_;exact ⟨trivial,_,trivial,wkI⟩
    rintro n -
    by_cases hg:g=1
    ·rw [d9p (fun h=>h hg),d9m (fun h=>h.2 hg)]
     refine ifI ?_;refine skI ?_;refine sR 1100 ?_;refine rtI ?_;exact a0a rfl IsPure.out
    ·rw [d9q hg,d9l ⟨trivial,hg⟩]
     refine ifI ?_;refine sR 1000 ?_;refine rtI ?_;exact a0a rfl IsPure.out
abbrev RB:Nat:=1000000000
def a0r (n:Nat):List Nat:=if _h:n=0 then [] else (n%RB)::a0r (n / RB)
termination_by n
decreasing_by exact e1F (e0r _h) (by decide)
def a0i:List Nat->Nat
 | []=>0
 | a::l=>a+RB*a0i l
def Rd (l:List Nat):Prop:=∀ a∈l,a<RB
theorem a0M:a0r 0=[]:=by unfold a0r;rfl
theorem a1y {n:Nat}(h:n≠0):a0r n=(n%RB)::a0r (n / RB):=by rw [a0r,dif_neg h]
theorem a0E (n:Nat):Rd (a0r n):=by
 induction n using Nat.strongRecOn with
 | ind n ih =>
  by_cases h:n=0
  ·subst h;rw [a0M];intro a ha;cases ha
  ·rw [a1y h]
   intro a ha;rcases d9F.1 ha with rfl|ha
   ·exact e0k _ (by decide)
   ·exact ih _ (e1F (e0r h) (by decide)) a ha
theorem a0u (n:Nat):a0i (a0r n)=n:=by
 induction n using Nat.strongRecOn with
 | ind n ih =>
  by_cases h:n=0
  ·subst h;rw [a0M];rfl
  ·rw [a1y h,a0i,ih _ (e1F (e0r h) (by decide))]
   exact e0V n RB
theorem a1h (l m:List Nat):a0i (l++m)=a0i l+RB^l.length*a0i m:=by
 induction l with
 | nil=>simp [a0i]
 | cons a l ih =>
  simp only [e0M,a0i,ih,d9u,e0h,d9M];rw [d9O (RB^l.length) RB,d9Y,e1d]
theorem Rd.tail {a:Nat}{l:List Nat}(h:Rd (a::l)):Rd l:=fun b hb=>h b (e0t _ hb)
theorem Rd.head {a:Nat}{l:List Nat}(h:Rd (a::l)):a<RB:=h a e0T
theorem Rd.append {l m:List Nat}(h:Rd l)(k:Rd m):Rd (l++m):=fun a ha=>(List.mem_append.1 ha).elim (h a) (k a)
theorem Rd.take {l:List Nat}(h:Rd l)(n:Nat):Rd (l.take n):=fun a ha=>h a (e1R ha)
theorem a1l:∀ {l:List Nat},Rd l->a0i l<RB^l.length
 | [],_=>by simp [a0i]
 | a::l,h=>by
  have h1:=a1l h.tail;have h2:=h.head;rw [a0i,d9u,e0h]
  calc a+RB*a0i l<RB+RB*a0i l:=by omega
   _=RB*(a0i l+1):=by rw [d9M,e1z,e2K]
   _<=RB*RB^l.length:=d9X _ h1
   _=_:=d9O _ _
theorem a9n:∀ {l:List Nat},Rd l->(∀ a∈l.getLast?,a≠0)->a0r (a0i l)=l
 | [],_,_=>a0M
 | [a],h,hl=>by
  have ha:a≠0:=hl a (by simp);have hb:=h.head;rw [show a0i [a]=a from by simp [a0i],a1y ha,e0u hb,e1A hb,a0M]
 | a::b::l,h,hl=>by
  have ih:=a9n h.tail (fun x hx=>hl x (by simpa using hx));have hb:=h.head;have hv:a0i (b::l)≠0:=by
   intro h0;rw [h0,a0M] at ih;cases ih
  have e1:a0i (a::b::l)%RB=a:=by rw [a0i,e2u,e0u hb]
  have e2:a0i (a::b::l) / RB=a0i (b::l):=by
   rw [a0i,e2R _ _ (by decide),e1A hb,d9S]
  have hne:a0i (a::b::l)≠0:=by
   intro h0;rw [h0] at e2;exact hv (by rw [<- e2];rfl)
  rw [a1y hne,e1,e2,ih]
theorem a7H:∀ (k:Nat),a0i (List.replicate k 0)=0
 | 0=>rfl
 | k+1=>by rw [List.replicate_succ,a0i,a7H k,e1g]
theorem a0H (b:Nat):∀ a,b<=a->(a0r b).length<=(a0r a).length:=by
 induction b using Nat.strongRecOn with
 | ind b ih =>
  intro a h
  by_cases hb:b=0
  ·subst hb;rw [a0M];exact d9U _
  ·rw [a1y hb,a1y (n:=a) (by omega),d9u,d9u]
   exact Nat.succ_le_succ (ih _ (e1F (e0r hb) (by decide)) _ (Nat.div_le_div_right h))
theorem a5L {a b:Nat}(h:(a0r a).length<(a0r b).length):a<b:=by
 rcases d9H a b with h1|h1
 ·exact h1
 ·have:=a0H b a h1;omega
theorem a4Y {l:List Nat}{k a:Nat}(h:l[k]? = some a):a0i l=a0i (l.take k)+RB^k*(a+RB*a0i (l.drop (k+1))):=by
 have hk:k<l.length:=(List.getElem?_eq_some_iff.1 h).1
 conv=>lhs;rw [<- e0H k l]
 rw [a1h,d9J,e1n (by omega)]
 have:l.drop k=a::l.drop (k+1):=by
  rw [e0n hk]
  congr 1
  exact (List.getElem?_eq_some_iff.1 h).2
 rw [this,a0i]
theorem a7G {l m:List Nat}{k a b:Nat}(hl:Rd l)(ha:l[k]? = some a)(hb:m[k]? = some b)(hd:l.drop (k+1)=m.drop (k+1))(hab:a<b):a0i l<a0i m:=by
 have hk:k<l.length:=(List.getElem?_eq_some_iff.1 ha).1;rw [a4Y ha,a4Y hb,hd];have h1:=a1l (hl.take k);rw [d9J,e1n (by omega)] at h1;generalize a0i (m.drop (k+1))=r;have h2:RB^k*(a+RB*r)+RB^k<=RB^k*(b+RB*r):=by
  rw [<- Nat.mul_succ];exact d9X _ (by omega)
 omega
theorem a0X {l:List Nat}{i a:Nat}(hi:l.length=i):a0i (l++[a])=a0i l+RB^i*a:=by rw [a1h,hi];simp [a0i]
theorem Rd.set {l:List Nat}(h:Rd l){i a:Nat}(ha:a<RB):Rd (l.set i a):=fun b hb=>by
 rcases e2t hb with h1|rfl
 ·exact h b h1
 ·exact ha
theorem a7m (n:Nat):Rd (List.replicate n 0):=fun a ha=>by rw [e2c ha];decide
theorem a4g:∀ {l:List Nat} {k o d:Nat},l[k]? = some o->a0i (l.set k d)+RB^k*o=a0i l+RB^k*d
 | a::l,0,o,d,h=>by
  simp only [e2B,d9z] at h;subst h;simp only [List.set_cons_zero,a0i,e2V,e2E];omega
 | a::l,k+1,o,d,h=>by
  simp only [e1l] at h;have ih:=a4g (d:=d) h;simp only [List.set_cons_succ,a0i];have h1:RB^(k+1)*o=RB*(RB^k*o):=by rw [e0h,d9O (RB^k) RB,d9Y]
  have h2:RB^(k+1)*d=RB*(RB^k*d):=by rw [e0h,d9O (RB^k) RB,d9Y]
  have h3:RB*a0i (l.set k d)+RB*(RB^k*o)=RB*a0i l+RB*(RB^k*d):=by rw [<- d9M,<- d9M,ih]
  omega
theorem a1x {n k:Nat}(h:n<RB^k):(a0r n).length<=k:=by
 induction k generalizing n with
 | zero =>
  have:n=0:=by simpa using h
  subst this;rw [a0M];exact d9y _
 | succ k ih =>
  by_cases h0:n=0
  ·subst h0;rw [a0M];exact d9U _
  ·rw [a1y h0,d9u]
   exact Nat.succ_le_succ (ih (e0E (by rw [d9O,<- e0h];exact h)))
theorem a1N (n:Nat):n<RB^(a0r n).length:=by
 have:=a1l (a0E n)
 rwa [a0u] at this
theorem a9l (a b:Nat):(a0r (a+b)).length<=max (a0r a).length (a0r b).length+1:=by
 refine a1x ?_;have h1:=a1N a;have h2:=a1N b;have m1:RB^(a0r a).length<=RB^max (a0r a).length (a0r b).length:=e0w (by decide) (Nat.le_max_left _ _);have m2:RB^(a0r b).length<=RB^max (a0r a).length (a0r b).length:=e0w (by decide) (Nat.le_max_right _ _);rw [e0h];generalize RB^max (a0r a).length (a0r b).length=q at *;unfold RB;omega
theorem a9m (a b:Nat):(a0r (a - b)).length<=(a0r a).length:=a0H _ _ (Nat.sub_le _ _)
theorem a5X (a b:Nat):(a0r (a*b)).length<=(a0r a).length+(a0r b).length:=by
 refine a1x ?_;rw [e1Q];exact Nat.mul_lt_mul'' (a1N a) (a1N b)
theorem a4r {n:Nat}(h0:n≠0)(h:n<RB):a0r n=[n]:=by
 rw [a1y h0,e0u h,e1A h,a0M]
theorem c0F {l:List Nat}{k a:Nat}(hl:l.length=k+1)(ha:l[k]? = some a):a0i l=a0i (l.take k)+RB^k*a:=by
 rw [a4Y ha,e0R (by omega)];simp [a0i]
theorem d3e {l:List Nat}{k a b:Nat}(hl:l.length=k+2)(ha:l[k]? = some a)(hb:l[k+1]? = some b):a0i l=a0i (l.take k)+RB^k*(a+RB*b):=by
 rw [a4Y ha]
 have:l.drop (k+1)=[b]:=by
  rw [e0n (by omega),e0R (by omega)]
  congr 1
  exact (List.getElem?_eq_some_iff.1 hb).2
 rw [this];simp [a0i]
theorem d3f {l:List Nat}{k a b c:Nat}(hl:l.length=k+3)(ha:l[k]? = some a)(hb:l[k+1]? = some b)(hc:l[k+2]? = some c):a0i l=a0i (l.take k)+RB^k*(a+RB*(b+RB*c)):=by
 rw [a4Y ha];have h1:=c0F (l:=l.drop (k+1)) (k:=1) (a:=c) (by rw [e0x];omega) (by rw [e1m,e1d];exact hc);have h2:(l.drop (k+1)).take 1=[b]:=by
  rw [e0n (by omega)];simp only [List.take_succ_cons,e2H]
  congr 1
  exact (List.getElem?_eq_some_iff.1 hb).2
 rw [h1,h2];simp [a0i]
structure b2g (P v:List Nat)(m p0 p1 p2 v2 v1:Nat):Prop where
 lP:P.length=m+3
 lv:v.length=m+2
 wP:Rd P
 wv:Rd v
 h0:P[m]? = some p0
 h1:P[m+1]? = some p1
 h2:P[m+2]? = some p2
 g2:v[m]? = some v2
 g1:v[m+1]? = some v1
 top:0<v1
 less:a0i P<a0i v*RB
namespace b2g
variable {P v:List Nat} {m p0 p1 p2 v2 v1:Nat} (S:b2g P v m p0 p1 p2 v2 v1)
include S
theorem valP:a0i P=a0i (P.take m)+RB^m*(p0+RB*(p1+RB*p2)):=d3f S.lP S.h0 S.h1 S.h2
theorem valv:a0i v=a0i (v.take m)+RB^m*(v2+RB*v1):=d3e S.lv S.g2 S.g1
theorem lowP:a0i (P.take m)<RB^m:=by
 have:=a1l (S.wP.take m)
 rwa [d9J,e1n (by have:=S.lP;omega)] at this
theorem lowv:a0i (v.take m)<RB^m:=by
 have:=a1l (S.wv.take m)
 rwa [d9J,e1n (by have:=S.lv;omega)] at this
theorem p0l:p0<RB:=S.wP _ (d9r S.h0)
theorem p1l:p1<RB:=S.wP _ (d9r S.h1)
theorem p2l:p2<RB:=S.wP _ (d9r S.h2)
theorem v1l:v1<RB:=S.wv _ (d9r S.g1)
theorem v2l:v2<RB:=S.wv _ (d9r S.g2)
theorem below3:a0i P<(p0+RB*(p1+RB*p2)+1)*RB^m:=by
 rw [S.valP,e0e,e2E,d9O (RB^m)]
 have:=S.lowP
 omega
theorem below2:a0i P<(p1+RB*p2+1)*RB^(m+1):=by
 have h:=S.below3;have h1:=S.p0l;generalize p1+RB*p2=t at *;have h2:(p0+RB*t+1)*RB^m<=(RB*(t+1))*RB^m:=d9K _ (by rw [d9M RB t 1];omega);have h3:(t+1)*RB^(m+1)=(RB*(t+1))*RB^m:=by rw [e0h,d9O (RB^m) RB,<- d9Y,d9O (t+1) RB]
 omega
theorem abovev:v1*RB^(m+1)<=a0i v:=by
 rw [S.valv,e0h,d9M]
 have:v1*(RB^m*RB)=RB^m*(RB*v1):=by rw [d9O v1,d9Y]
 omega
theorem abovev2:(v2+RB*v1)*RB^m<=a0i v:=by
 rw [S.valv,d9O];omega
theorem pos:0<a0i v:=e0a (e2h S.top (Nat.pow_pos (by decide))) S.abovev
theorem p2v1:p2<=v1:=by
 rcases d9H v1 p2 with h|h
 ·exfalso
  have e1:RB^(m+2)*p2<=a0i P:=by
   rw [S.valP,d9M,d9M,d9M]
   have:RB^(m+2)*p2=RB^m*(RB*(RB*p2)):=by rw [e0h,e0h,d9Y,d9Y]
   omega
  have e2:a0i v<RB^(m+1)*(v1+1):=by
   have h1:=S.lowv;have h2:=S.v2l;have e3:RB^(m+1)*(v1+1)=RB^m*(RB*v1+RB):=by rw [e0h,d9Y,d9M,e1z]
   have e4:RB^m*(v2+RB*v1+1)<=RB^m*(RB*v1+RB):=d9X _ (by omega);rw [d9M _ _ 1,e1z] at e4;rw [S.valv,e3];omega
  have e5:RB^(m+1)*(v1+1)*RB=RB^(m+2)*(v1+1):=by rw [Nat.mul_right_comm,<- e0h]
  have e6:RB^(m+2)*(v1+1)<=RB^(m+2)*p2:=d9X _ h;have e7:(a0i v)*RB<=RB^(m+1)*(v1+1)*RB:=d9K _ (e2M e2)
  have:=S.less
  omega
 ·exact h
end b2g
theorem a9o {A P v:List Nat}{q i z x d b c b' c' lo:Nat}(hz:A[i]? = some z)(hx:v[i]? = some x)(hI:a0i A+q*a0i (v.take i)=a0i P+RB^i*(c+b))
  (h1:lo+RB*c'=q*x+c) (h2:d+lo+b=z+RB*b'):a0i (A.set i d)+q*a0i (v.take (i+1))=a0i P+RB^(i+1)*(c'+b'):=by
 have hs:=a4g (d:=d) hz;have hi:i<v.length:=(List.getElem?_eq_some_iff.1 hx).1;rw [a0U hx,a0X (i:=i) (by rw [d9J];omega),d9M,e1B q,e0h,d9Y];have e:RB^i*(d+q*x+(c+b))=RB^i*(z+RB*(c'+b')):=by congr 1;rw [d9M RB];omega
 rw [d9M,d9M,d9M (RB^i) z] at e;omega
theorem a7P {A P v:List Nat}{i z x c:Nat}(hz:A[i]? = some z)(hx:v[i]? = some x)(hI:a0i A+RB^i*c=a0i P+a0i (v.take i)) :
  a0i (A.set i ((z+x+c)%RB))+RB^(i+1)*((z+x+c) / RB)=a0i P+a0i (v.take (i+1)):=by
 have hs:=a4g (d:=(z+x+c)%RB) hz;have hi:i<v.length:=(List.getElem?_eq_some_iff.1 hx).1;rw [a0U hx,a0X (i:=i) (by rw [d9J];omega),e0h,d9Y];have e:RB^i*((z+x+c)%RB+RB*((z+x+c) / RB))=RB^i*(z+x+c):=by rw [e0V]
 rw [d9M,d9M,d9M (RB^i) z] at e;omega
theorem b4J {n k:Nat}(h1:RB^k<=n)(h2:n<RB^(k+1)):(a0r n).length=k+1:=by
 have h3:=a1x h2;have h4:=e0f h1 (a1N n);have h5:=(Nat.pow_lt_pow_iff_right (show 1<RB by decide)).1 h4;omega
theorem a4s:∀ (n:Nat) {k a:Nat},(a0r n).length=k+1->(a0r n)[k]? = some a->a≠0:=fun n=>by
 induction n using Nat.strongRecOn with
 | ind n ih =>
  intro k a h1 h2
  by_cases h0:n=0
  ·subst h0;rw [a0M] at h1;cases h1
  ·rw [a1y h0] at h1 h2
   rw [d9u] at h1;have h3:=Nat.succ.inj h1;cases k with
   | zero =>
    have h4:a0r (n / RB)=[]:=e0d h3;have h5:n / RB=0:=by rw [<- a0u (n / RB),h4];rfl
    have h6:=e0V n RB;rw [h5] at h6;simp at h2;intro h7;subst h7;rw [h2] at h6;omega
   | succ k =>
    rw [e1l] at h2;exact ih _ (e1F (e0r h0) (by decide)) h3 h2
theorem a7l {n k:Nat}(h:(a0r n).length=k+1):RB^k<=n:=by
 obtain ⟨a,ha⟩:=a3A (l:=a0r n) (i:=k) (by omega);have h1:=a4s n h ha;have h2:=c0F h ha;rw [a0u] at h2;have h3:=d9X (RB^k) (show 1<=a by omega);omega
theorem a5s {l:List Nat}{j a:Nat}(h:l[j]? = some a):a0i (l.drop j)=a+RB*a0i (l.drop (j+1)):=by
 have hj:j<l.length:=(List.getElem?_eq_some_iff.1 h).1;rw [e0n hj,(List.getElem?_eq_some_iff.1 h).2];rfl
theorem b3r {a q:List Nat}{j x b rest:Nat}(hb:0<b)(hx:a[j]? = some x)(hj:j<q.length)(hI:a0i (q.drop (j+1))*b+rest=a0i (a.drop (j+1))) :
  a0i ((q.set j ((rest*RB+x) / b)).drop j)*b+(rest*RB+x)%b=a0i (a.drop j)/\(rest*RB+x)%b<b:=by
 refine ⟨?_,e0k _ hb⟩;rw [a8h hj,a5s hx,<- hI,a0i];have e:=e0X (rest*RB+x) b;rw [e0e,d9M RB,d9Y RB,d9O RB rest,d9O _ b];omega
structure c6j (X:Nat)(v U q:List Nat)(lu lq k:Nat):Prop where
 lU:U.length=lu
 lQ:q.length=lq
 wU:Rd U
 wq:Rd q
 val:RB^k*a0i (q.drop k)*a0i v+a0i U=X
 less:a0i (U.drop k)<a0i v
theorem b7o {X:Nat}{v U q:List Nat}{lu lq j m:Nat}(I:c6j X v U q lu lq (j+1))(hv:v.length=m+2)(wv:Rd v)(v1 v2:Nat)(h2:v[m]? = some v2)(h1:v[m+1]? = some v1)(ht:0<v1)(hj:j+(m+3)<=lu) :
  ∃ p0 p1 p2,b2g ((U.drop j).take (m+3)) v m p0 p1 p2 v2 v1/\a0i (U.drop (j+(m+3)))=0/\a0i ((U.drop j).take (m+3))=a0i (U.drop j):=by
 obtain ⟨lU,lQ,wU,wq,val,less⟩:=I;obtain ⟨x,hx⟩:=a3A (l:=U) (i:=j) (by omega);have hxl:=wU x (d9r hx);have e1:=a5s hx;have hlt:a0i (U.drop j)<a0i v*RB:=by
  have:RB*(a0i (U.drop (j+1))+1)<=RB*a0i v:=d9X _ less
  rw [d9M,d9O RB (a0i v)] at this;omega
 have hPl:((U.drop j).take (m+3)).length=m+3:=by rw [d9J,e0x];omega
 have e2:a0i (U.drop j)=a0i ((U.drop j).take (m+3))+RB^(m+3)*a0i (U.drop (j+(m+3))):=by
  conv=>lhs;rw [<- e0H (m+3) (U.drop j)]
  rw [a1h,hPl,List.drop_drop]
 have hvl:=a1l wv;rw [hv] at hvl;have hz:a0i (U.drop (j+(m+3)))=0:=by
  rcases e0m (a0i (U.drop (j+(m+3)))) with h|h
  ·exact h
  ·exfalso
   have e3:RB^(m+3)*1<=RB^(m+3)*a0i (U.drop (j+(m+3))):=d9X _ h;have e4:a0i v*RB<=RB^(m+2)*RB:=d9K _ (e2M hvl);have e5:RB^(m+2)*RB=RB^(m+3):=(e0h RB (m+2)).symm;rw [e5] at e4;omega
 rw [hz,e1g,e0W] at e2;obtain ⟨p0,h0⟩:=a3A (l:=(U.drop j).take (m+3)) (i:=m) (by omega);obtain ⟨p1,h3⟩:=a3A (l:=(U.drop j).take (m+3)) (i:=m+1) (by omega);obtain ⟨p2,h4⟩:=a3A (l:=(U.drop j).take (m+3)) (i:=m+2) (by omega);exact ⟨p0,p1,p2,⟨hPl,hv,fun a ha=>wU a (e1I (e1R ha)),wv,h0,h3,h4,h2,h1,ht,by rw [<- e2];exact hlt⟩,hz,e2.symm⟩
theorem b7n {X:Nat}{v U q P':List Nat}{lu lq j m:Nat}(I:c6j X v U q lu lq (j+1))(hv:0<a0i v)(hj:j+(m+3)<=lu)(hjq:j<lq)(hz:a0i (U.drop (j+(m+3)))=0)(hP:a0i ((U.drop j).take (m+3))=a0i (U.drop j))
  (h1:P'.length=m+3) (h2:Rd P') (h3:a0i P'=a0i ((U.drop j).take (m+3))%a0i v) (hd:a0i ((U.drop j).take (m+3)) / a0i v<RB) :
  c6j X v (U.take j++(P'++U.drop (j+(m+3)))) (q.set j (a0i ((U.drop j).take (m+3)) / a0i v)) lu lq j:=by
 obtain ⟨lU,lQ,wU,wq,val,less⟩:=I;have hA:(U.take j).length=j:=by rw [d9J];omega
 have e0:a0i U=a0i (U.take j)+RB^j*a0i (U.drop j):=by
  conv=>lhs;rw [<- e0H j U]
  rw [a1h,hA]
 have e1:a0i (P'++U.drop (j+(m+3)))=a0i P':=by rw [a1h,hz,e1g,e0W]
 refine ⟨?_,by rw [e0i];exact lQ,?_,wq.set hd,?_,?_⟩
 ·rw [d9Z,d9Z,hA,h1,e0x];omega
 ·exact Rd.append (wU.take j) (Rd.append h2 fun a ha=>wU a (e1I ha))
 ·rw [a8h (by omega),a0i,a1h,hA,e1,h3,hP]
  rw [e0] at val;have e2:=e0X (a0i (U.drop j)) (a0i v);have e3:RB^(j+1)*a0i (q.drop (j+1))*a0i v=RB^j*(RB*a0i (q.drop (j+1))*a0i v):=by
   rw [e0h,d9Y,d9Y,d9Y]
  rw [e3] at val;have e4:RB^j*a0i (U.drop j)=RB^j*(a0i v*(a0i (U.drop j) / a0i v))+RB^j*(a0i (U.drop j)%a0i v):=by
   rw [<- d9M,e2]
  rw [d9Y,e0e,d9M,d9O (a0i (U.drop j) / a0i v)];omega
 ·rw [List.drop_left' hA,e1,h3]
  exact e0k _ hv
set_option maxHeartbeats 2000000
abbrev a0t (n:Nat):D:=i64 (n:Int)
def rL (l:List Nat):D:=.sl false 1 (l.map a0t)
def rD (n:Nat):D:=rL (a0r n)
theorem a9j (l:List Nat):a2n (rL l):=.sl fun e he d hd=>by
 obtain ⟨a,_,rfl⟩:=List.mem_map.1 he;simp only [D.cells,d9F,e0j,or_false] at hd;subst hd;exact .prim _
instance  (l:List Nat):IsPure (rL l):=⟨a9j l⟩
instance  (n:Nat):IsPure (rD n):=⟨a9j _⟩
theorem a7F {l:List Nat}{i a:Nat}(h:l[i]? = some a):(l.map a0t)[i]? = some (a0t a):=by rw [d9E,h];rfl
theorem b0O {l:List Nat}{i a:Nat}:(l.map a0t).set i (a0t a)=(l.set i a).map a0t:=List.map_set.symm
theorem d4d (c:Nat):((c:Int)==0)=decide (c=0):=by rw [e1j,e1i,decide_eq_true_iff];omega
theorem b4K (m:List Nat):a0i (m++[0])=a0i m:=by rw [a0X rfl];simp
theorem c0E {m:List Nat}{c:Nat}(h:Rd (m++[c]))(hc:c≠0):a0r (a0i (m++[c]))=m++[c]:=a9n h fun a ha=>by
 rw [List.getLast?_append] at ha;simp at ha;rw [<- ha];exact hc
theorem a9H (l:List Nat)(h:Rd l)(hlen:l.length<4000000000):a0b C0 175 [rL l] (rD (a0i l)):=by
 refine a0c.walk w1 c4z rfl fun F=>?_
 unfold rL;refine sR 0 ?_;refine OkS.seq ?_;refine OkS.block ?_;refine OkS.loop (α:=List Nat × Nat) (fun p=>⟨[(0,.sl false 1 (p.1.map a0t))],[],p.2⟩) (fun p=>p.1.length)
  (fun p=>a0i p.1=a0i l/\Rd p.1/\p.1.length<=l.length) (l,_) ⟨rfl,h,d9y _⟩ wkI ?_
 rintro ⟨m,n⟩ F ⟨h1,h2,h3⟩;dsimp only at h1 h2 h3 ⊢;refine OkS.seq ?_;refine OkS.seq ?_;rcases e1O m with rfl|⟨m,c,rfl⟩
 ·have e1:decide (((0:Nat):Int)>0)=false:=rfl
  refine d8I w1 100 (by kernel_rfl) ?_;refine nwI e1 ?_;refine gwI e1 ?_;refine ifI ?_;refine exI ?_;refine sR 300 ?_;refine rtI ?_;refine a0a (d0:=rL []) ?_ IsPure.out;rw [<- h1];unfold rD;rw [show a0i []=0 from rfl,a0M]
 ·rw [e1N] at h1 h2 h3 ⊢
  have el:((((m++[c]).map a0t).length:Nat):Int)=((m.length+1:Nat):Int):=by rw [d9s,d9Z];rfl
  rw [d9Z,e1a] at h3;have e1:decide (((m.length+1:Nat):Int)>0)=true:=d9q (by omega);have wk:IntKind.i64.wrap (((m.length+1:Nat):Int) - 1)=(m.length:Int):=by rw [wI (by omega) (by omega)];omega
  have wraw:IntKind.i64.wrap (((((m++[c]).map a0t).length:Nat):Int) - 1)=(m.length:Int):=by rw [el,wk]
  have hx:((m++[c]).map a0t)[m.length]? = some (a0t c):=a7F (by simp);have ec:=d4d c;refine d8I w1 100 (by kernel_rfl) ?_;refine nwI (ff2 el e1) ?_;refine gwI (ff5 e1 wraw el wk kN) ?_;refine ixI e1 hx ?_;refine gwI (ff5 e1 wraw el wk ec) ?_
  by_cases hc:c=0
  ·rw [d9q hc]
   subst hc;have e4:List.take (m.length - 0) (List.drop 0 ((m++[0]).map a0t))=m.map a0t:=by simp
   have e5:List.take m.length ((m++[0]).map a0t)=m.map a0t:=by simp
   rw [b4K] at h1;refine ifI ?_;refine skI ?_;refine OkS.block ?_;refine d8I w1 200 (by kernel_rfl) ?_;refine nwI (ff5 el wk wraw kN e4) ?_;exact ⟨(m,_),⟨h1,fun a ha=>h2 a (e1h _ ha),by dsimp only;omega⟩,by dsimp only;rw [d9Z,e1a];omega,wkI⟩
  ·rw [d9p hc]
   refine ifI ?_;refine exI ?_;refine sR 300 ?_;refine rtI ?_;refine a0a (d0:=rL (m++[c])) ?_ IsPure.out;unfold rD;rw [<- h1,c0E h2 hc]
theorem b4m (l:List Nat)(i:Nat)(hlen:l.length<4000000000)(hi:i<4000000000):a0b C0 177 [rL l,a0t i] (a0t (l.getD i 0)):=by
 refine a0c.walk w1 d0l rfl fun F=>?_
 unfold rL;have el:(((l.map a0t).length:Nat):Int)=(l.length:Int):=by rw [d9s]
 refine sR 0 ?_;refine OkS.seq ?_;refine OkS.seq ?_
 by_cases h:i<l.length
 ·have e1:decide ((i:Int)<(l.length:Int))=true:=d9q (by omega)
  obtain ⟨a,ha⟩:=a3A h;have hx:=a7F ha;have eg:l.getD i 0=a:=by rw [d9T,ha];rfl
  rw [eg];refine d8I w1 100 (by kernel_rfl) ?_;refine nwI (ff2 el e1) ?_;refine ifI ?_;refine sZ 200 ?_;refine gwI kN ?_;refine ixI kT hx ?_;refine gwI kN ?_;refine rtI ?_;exact a0a rfl IsPure.out
 ·have e1:decide ((i:Int)<(l.length:Int))=false:=d9p (by omega)
  have eg:l.getD i 0=0:=by rw [d9T,e0c (by omega)];rfl
  rw [eg];refine d8I w1 100 (by kernel_rfl) ?_;refine nwI (ff2 el e1) ?_;refine ifI ?_;refine skI ?_;refine sR 300 ?_;refine rtI ?_;exact a0a rfl IsPure.out
theorem c2g (a b:Nat)(ha:(a0r a).length<4000000000)(hb:(a0r b).length<4000000000):a0b C0 113 [rD a,rD b] (i64 (a6M a b)):=by
 refine a0c.walk w1 c9H rfl fun F=>?_
 have hwa:=a0E a;have hwb:=a0E b;have va:=a0u a;have vb:=a0u b;have hlt:=@a5L a b;have hgt:=@a5L b a;unfold rD rL a6M;generalize a0r a=la at *;generalize a0r b=lb at *;have ea:(((la.map a0t).length:Nat):Int)=(la.length:Int):=by rw [d9s]
 have eb:(((lb.map a0t).length:Nat):Int)=(lb.length:Int):=by rw [d9s]
 refine sR 0 ?_;refine OkS.seq ?_;refine sZ 100 ?_;refine nwI (ff2 ea eb) ?_;refine ifI ?_
 (refine brI (fun h10=>?_) (fun h10=>?_))<;>(try simp only [d9w,d9x] at h10)<;>(try simp only [h10])
 ·have hne:la.length≠lb.length:=by
   have:(la.length:Int)≠lb.length:=by simpa using h10
   omega
  refine OkS.seq ?_;refine sZ 200 ?_;refine nwI (ff2 ea eb) ?_;refine ifI ?_
  (refine brI (fun h15=>?_) (fun h15=>?_))<;>(try simp only [d9w,d9x] at h15)<;>(try simp only [h15])
  ·have h1:la.length<lb.length:=by
    have:(la.length:Int)<lb.length:=by simpa using h15
    omega
   rw [d9l (by have:=hlt h1;omega)];refine sR 300 ?_;refine rtI ?_;exact a0a rfl IsPure.out
  ·have h1:lb.length<la.length:=by
    have:¬ (la.length:Int)<lb.length:=by simpa using h15
    omega
   have h2:=hgt h1;rw [d9m (by omega),d9l (by omega)];refine skI ?_;refine sR 400 ?_;refine rtI ?_;exact a0a rfl IsPure.out
 ·have hl:la.length=lb.length:=by
   have:(la.length:Int)=lb.length:=by simpa using h10
   omega
  clear hlt hgt;refine skI ?_;refine OkS.seq ?_;refine sZ 500 ?_;refine nwI ea ?_;refine OkS.block ?_;have w0:IntKind.i64.wrap ((la.length:Int) - 1)=(la.length:Int) - 1:=wI (by omega) (by omega);rw [w0];refine OkS.loop (α:=Nat × Nat) (fun p=>⟨[(0,.sl false 1 (la.map a0t)),(1,.sl false 1 (lb.map a0t)),(5,i64 ((p.1:Int) - 1))],[],p.2⟩) (fun p=>p.1)
   (fun p=>p.1<=la.length/\la.drop p.1=lb.drop p.1) (la.length,_) ⟨d9y _,by rw [e2n,hl,e2n]⟩ wkI ?_
  rintro ⟨k,m⟩ F ⟨h1,h2⟩;dsimp only at h1 h2 ⊢;refine OkS.seq ?_;refine sR 600 ?_;refine ifI ?_
  (refine brI (fun h20=>?_) (fun h20=>?_))<;>(try simp only [d9w,d9x] at h20)<;>(try simp only [h20])
  ·obtain ⟨j,rfl⟩:∃ j,k=j+1:=⟨k - 1,by
    have:(k:Int) - 1>=0:=by simpa using h20
    omega⟩
   have wj:((j+1:Nat):Int) - 1=(j:Int):=by omega
   obtain ⟨x,hx⟩:∃ x,la[j]? = some x:=⟨la[j],d9t (by omega)⟩
   obtain ⟨y,hy⟩:∃ y,lb[j]? = some y:=⟨lb[j],d9t (by omega)⟩
   have hx':=a7F hx;have hy':=a7F hy;rw [wj];refine skI ?_;refine OkS.seq ?_;refine OkS.block ?_;refine OkS.seq ?_;refine OkS.seq ?_;refine d8K w1 800 [0,1,2,3,4,5,6,7] [8] (by kernel_rfl) ?_;refine gwI kN ?_;refine ixI kT hx' ?_;refine gwI kN ?_;refine ixI kT hy' ?_;refine gwI kN ?_;refine gwI kN ?_;refine ifI ?_
   (refine brI (fun h31=>?_) (fun h31=>?_))<;>(try simp only [d9w,d9x] at h31)<;>(try simp only [h31])
   ·have hxy:x<y:=by
     have:=d9N h31
     omega
    have:=a7G hwa hx hy h2 hxy
    rw [d9l (by omega)];refine sR 900 ?_;refine rtI ?_;exact a0a rfl IsPure.out
   ·have hxy0:¬ x<y:=by
     have:=d9I h31
     omega
    refine skI ?_;refine OkS.seq ?_;refine d8K w1 1000 [0,1,2,3,4,5,6,7] [8] (by kernel_rfl) ?_;refine gwI kN ?_;refine ixI kT hx' ?_;refine gwI kN ?_;refine ixI kT hy' ?_;refine gwI kN ?_;refine gwI kN ?_;refine ifI ?_
    (refine brI (fun h40=>?_) (fun h40=>?_))<;>(try simp only [d9w,d9x] at h40)<;>(try simp only [h40])
    ·have hxy:y<x:=by
      have:=d9N h40
      omega
     have:=a7G hwb hy hx h2.symm hxy
     rw [d9m (by omega),d9l (by omega)];refine sR 1100 ?_;refine rtI ?_;exact a0a rfl IsPure.out
    ·have hxy:x=y:=by
      have:=d9I h40
      omega
     subst hxy;have w5:IntKind.i64.wrap ((j:Int) - 1)=(j:Int) - 1:=wI (by omega) (by omega);refine skI ?_;refine d8I w1 700 (by kernel_rfl) ?_;refine nwI w5 ?_;have hj:=(List.getElem?_eq_some_iff.1 hx)
     have hj':=(List.getElem?_eq_some_iff.1 hy)
     refine ⟨(j,_),⟨by dsimp only;omega,?_⟩,by dsimp only;omega,wkI⟩;dsimp only;rw [e0n hj.1,e0n hj'.1,hj.2,hj'.2,h2]
  ·have hk:k=0:=by
    have:¬ ((k:Int) - 1>=0):=by simpa using h20
    omega
   subst hk;have hab:a=b:=by
    rw [<- va,<- vb]
    have:la=lb:=by simpa using h2
    rw [this]
   subst hab;rw [d9m (by omega),d9m (by omega)];refine exI ?_;refine sR 1200 ?_;refine rtI ?_;exact a0a rfl IsPure.out
theorem a5Y (l:List Nat)(i:Nat):a0i (l.take (i+1))=a0i (l.take i)+RB^i*l.getD i 0:=by
 by_cases h:i<l.length
 ·obtain ⟨a,ha⟩:=a3A h
  rw [a0U ha,a0X (i:=i) (by rw [d9J];omega),d9T,ha];rfl
 ·rw [d9G (by omega),d9G (by omega),d9T,e0c (by omega)]
  simp
theorem a9k {l:List Nat}(h:Rd l)(i:Nat):l.getD i 0<RB:=by
 by_cases hi:i<l.length
 ·obtain ⟨a,ha⟩:=a3A hi
  rw [d9T,ha];exact h a (d9r ha)
 ·rw [d9T,e0c (by omega)];decide
theorem b3s (l:List Nat)(i:Nat):a0i (l.take i)<=a0i l:=by
 conv=>rhs;rw [<- e0H i l]
 rw [a1h];exact Nat.le_add_right _ _
theorem b0N {a i:Nat}(h:i<(a0r a).length):RB^i<=a:=by
 obtain ⟨k,hk⟩:∃ k,(a0r a).length=k+1:=⟨(a0r a).length - 1,by omega⟩
 exact d9V (e0w (by decide) (by omega)) (a7l hk)
structure b2d (a b:Nat)(i c:Nat)(out:List Nat):Prop where
 len:out.length=i
 wd:Rd out
 c1:c<=1
 val:a0i out+RB^i*c=a0i ((a0r a).take i)+a0i ((a0r b).take i)
 can:i=0\/RB^(i - 1)<=a+b
theorem c1X {a b i c:Nat}{out:List Nat}(I:b2d a b i c out)(h:i<(a0r a).length\/i<(a0r b).length\/0<c) :
  b2d a b (i+1) (((a0r a).getD i 0+(a0r b).getD i 0+c) / RB) (out++[((a0r a).getD i 0+(a0r b).getD i 0+c)%RB])/\(a0r a).getD i 0+(a0r b).getD i 0+c<2*RB:=by
 obtain ⟨len,wd,c1,val,can⟩:=I;have h1:=a9k (a0E a) i;have h2:=a9k (a0E b) i;have hs:(a0r a).getD i 0+(a0r b).getD i 0+c<2*RB:=by omega
 have e1:=a5Y (a0r a) i;have e2:=a5Y (a0r b) i;have ta:=b3s (a0r a) i;have tb:=b3s (a0r b) i;rw [a0u] at ta tb;refine ⟨⟨by rw [d9Z,len];rfl,Rd.append wd fun x hx=>?_,?_,?_,.inr ?_⟩,hs⟩
 ·simp only [d9F,e0j,or_false] at hx
  subst hx;exact e0k _ (by decide)
 ·exact e2y (e0E (by rw [d9O];exact hs))
 ·rw [a0X len,e1,e2,e0h,d9Y]
  have e:=e0V ((a0r a).getD i 0+(a0r b).getD i 0+c) RB;generalize (a0r a).getD i 0=p at *;generalize (a0r b).getD i 0=q at *;have e3:RB^i*((p+q+c)%RB+RB*((p+q+c) / RB))=RB^i*(p+q+c):=by rw [e]
  rw [d9M,d9M,d9M (RB^i) p] at e3;omega
 ·rw [e1P]
  rcases h with h|h|h
  ·have:=b0N h;omega
  ·have:=b0N h;omega
  ·have hc:c=1:=by omega
   subst hc;rw [e1z] at val;omega
theorem c1W {a b i:Nat}{out:List Nat}(I:b2d a b i 0 out)(h1:¬ i<(a0r a).length)(h2:¬ i<(a0r b).length):out=a0r (a+b):=by
 obtain ⟨len,wd,c1,val,can⟩:=I;rw [d9G (by omega),d9G (by omega),a0u,a0u,e1g,e0W] at val;rcases e1O out with rfl|⟨m,c,rfl⟩
 ·rw [<- val];unfold a0r;rfl
 ·rw [e1N] at *
  rw [d9Z,e1a] at len;have hc:c≠0:=by
   intro hc;subst hc;rcases can with h|h
   ·omega
   ·rw [b4K] at val
    have:=a1l (l:=m) fun x hx=>wd x (e1h _ hx)
    rw [show i - 1=m.length by omega] at h;omega
  rw [<- val,c0E wd hc]
theorem d3W (a b:Nat)(ha:(a0r a).length<1000000)(hb:(a0r b).length<1000000):a0b C0 112 [rD a,rD b] (rD (a+b)):=by
 refine a0c.walk w1 c9G rfl fun F=>?_
 have hT:Fz [] [] (rD a) (rD a):=.refl _;change OkS C0 F none F _ ⟨a1n 0 [.sl false 1 ((a0r a).map a0t),.sl false 1 ((a0r b).map a0t)],[],0⟩ _;have ea:((((a0r a).map a0t).length:Nat):Int)=((a0r a).length:Int):=by rw [d9s]
 have eb:((((a0r b).map a0t).length:Nat):Int)=((a0r b).length:Int):=by rw [d9s]
 have I0:b2d a b 0 0 []:=⟨rfl,(fun x hx=>d9n hx e0j),d9U _,by simp [a0i],.inl rfl⟩
 refine sR 0 ?_;refine sR 100 ?_;refine sR 200 ?_;refine OkS.seq ?_;refine sR 300 ?_;refine OkS.block ?_;refine OkS.loop (α:=Nat × Nat × List Nat × List D × Nat × Nat) (fun p=>⟨[(0,.sl false 1 ((a0r a).map a0t)),(1,.sl false 1 ((a0r b).map a0t)),(5,a6g 704 p.2.2.2.2.1 1 p.2.2.2.1),(6,a0t p.2.1),(7,a0t p.1)],a5O 704 p.2.2.2.2.1 3 1 p.2.2.2.1,p.2.2.2.2.2⟩)
  (fun p=>(max (a0r a).length (a0r b).length - p.1)*2+p.2.1) (fun p=>b2d a b p.1 p.2.1 p.2.2.1/\p.2.2.2.1=p.2.2.1.map a0t/\p.1<=max (a0r a).length (a0r b).length+1) (0,0,[],[],0,_) ⟨I0,rfl,d9U _⟩ wkI ?_
 rintro ⟨i,c,out,L,g,n⟩ F ⟨I,hL,hi⟩;dsimp only at I hL hi ⊢;have c1:=I.c1;have hol:=I.len;refine OkS.seq ?_;refine d8X (α:=Nat) (fun n=>⟨[(0,.sl false 1 ((a0r a).map a0t)),(1,.sl false 1 ((a0r b).map a0t)),(5,a6g 704 g 1 L),(6,a0t c),(7,a0t i),(22,boo (decide (i<(a0r a).length\/i<(a0r b).length\/0<c)))],a5O 704 g 3 1 L,n⟩) (fun _=>True) ?_ ?_
 ·generalize a6g 704 g 1 L=od at *
  generalize a5O 704 g 3 1 L=oh at *
  by_cases h1:i<(a0r a).length
  ·have e1:decide ((i:Int)<((a0r a).length:Int))=true:=d9q (by omega)
   have e:decide (i<(a0r a).length\/i<(a0r b).length\/0<c)=true:=d9q (.inl h1);rw [e];refine d8I w1 400 (by kernel_rfl) ?_;refine nwI (ff2 ea e1) ?_;refine gwI kT ?_;refine gwI kT ?_;exact ⟨trivial,_,trivial,wkI⟩
  ·have e1:decide ((i:Int)<((a0r a).length:Int))=false:=d9p (by omega)
   by_cases h2:i<(a0r b).length
   ·have e2:decide ((i:Int)<((a0r b).length:Int))=true:=d9q (by omega)
    have e:decide (i<(a0r a).length\/i<(a0r b).length\/0<c)=true:=d9q (.inr (.inl h2));rw [e];refine d8I w1 400 (by kernel_rfl) ?_;refine nwI (ff2 ea e1) ?_;refine gwI kF ?_;simp only [eb,e2];refine gwI kT ?_;exact ⟨trivial,_,trivial,wkI⟩
   ·have e2:decide ((i:Int)<((a0r b).length:Int))=false:=d9p (by omega)
    have e:decide ((c:Int)>0)=decide (i<(a0r a).length\/i<(a0r b).length\/0<c):=by rw [e0C];omega
    rw [<- e];refine d8I w1 400 (by kernel_rfl) ?_;refine nwI (ff2 ea e1) ?_;refine gwI kF ?_;simp only [eb,e2];refine gwI kF ?_;exact ⟨trivial,_,trivial,wkI⟩
 rintro n2 -
 by_cases h:i<(a0r a).length\/i<(a0r b).length\/0<c
 ·obtain ⟨J,hs⟩:=c1X I h
  have d1:=b4m (a0r a) i (by omega) (by omega);have d2:=b4m (a0r b) i (by omega) (by omega);unfold rL at d1 d2;have hmu:∀ c',c'<=1->(max (a0r a).length (a0r b).length<=i->c'=0)->(max (a0r a).length (a0r b).length - (i+1))*2+c'<(max (a0r a).length (a0r b).length - i)*2+c:=fun c' h1 h2=>by
   rcases d9H i (max (a0r a).length (a0r b).length) with h3|h3
   ·omega
   ·have:=h2 h3;omega
  have hmu2:max (a0r a).length (a0r b).length<=i->((a0r a).getD i 0+(a0r b).getD i 0+c) / RB=0:=fun h3=>by
   rw [d9T,e0c (by omega),d9T,e0c (by omega)];show (0+0+c) / 1000000000=0;omega
  have hbnd:i<max (a0r a).length (a0r b).length+1:=by
   rcases h with h|h|h
   ·omega
   ·omega
   ·rcases d9H i (max (a0r a).length (a0r b).length+1) with h3|h3
    ·exact h3
    ·exfalso
     obtain ⟨len,wd,_,val,_⟩:=I;have hc:c=1:=by omega
     subst hc;rw [d9G (by omega),d9G (by omega),a0u,a0u,e1z] at val;have l1:=a1N a;have l2:=a1N b;have m1:RB^(a0r a).length<=RB^max (a0r a).length (a0r b).length:=e0w (by decide) (Nat.le_max_left _ _);have m2:RB^(a0r b).length<=RB^max (a0r a).length (a0r b).length:=e0w (by decide) (Nat.le_max_right _ _);have m3:RB^(max (a0r a).length (a0r b).length+1)<=RB^i:=e0w (by decide) h3;rw [e0h] at m3;generalize RB^max (a0r a).length (a0r b).length=Q at *;change Q*1000000000<=_ at m3;omega
  have hmu3:=hmu _ J.c1 hmu2;rw [d9q h];generalize hp:(a0r a).getD i 0=p at *;generalize hq:(a0r b).getD i 0=q at *;have k1:IntKind.i64.wrap ((p:Int)+(q:Int))=((p+q:Nat):Int):=by rw [wI (by omega) (by unfold RB at hs;omega)];omega
  have k2:IntKind.i64.wrap (((p+q:Nat):Int)+(c:Int))=((p+q+c:Nat):Int):=by rw [wI (by omega) (by unfold RB at hs;omega)];omega
  have k3:((p+q+c:Nat):Int).tmod 1000000000=(((p+q+c)%RB:Nat):Int):=rfl;have k4:IntKind.i64.wrap (((p+q+c:Nat):Int).tdiv 1000000000)=(((p+q+c) / RB:Nat):Int):=by
   show IntKind.i64.wrap ((((p+q+c) / 1000000000:Nat)):Int)=_;exact wN (by unfold RB at hs;omega)
  have wi:IntKind.i64.wrap ((i:Int)+1)=((i+1:Nat):Int):=wI (by omega) (by omega);generalize (p+q+c)%RB=d at *;generalize (p+q+c) / RB=c' at *;have hlo:L.length<=1000001:=by rw [hL,d9s];omega
  have hmo:L++[a0t d]=(out++[d]).map a0t:=by rw [hL,e0Q];rfl
  clear hmu hmu2 ea eb hL I;refine ifI ?_;refine skI ?_;refine OkS.seq ?_;refine OkS.block ?_;refine sR 600 ?_;refine cI d1 ?_;refine cI d2 ?_;simp only [k1,k2];refine OkS.seq ?_;rcases L with _|⟨x,L⟩
  all_goals
   (try simp only [d9u] at hlo)
   dsimp only [a2a,a2b,a1B,a1C];refine d8I w1 700 (by kernel_rfl) ?_;refine nwI k3 ?_;refine d8I w1 800 (by kernel_rfl) ?_;refine nwI k4 ?_;refine d8I w1 500 (by kernel_rfl) ?_;refine nwI wi ?_
  ·exact ⟨(i+1,c',out++[d],[]++[a0t d],_,_),⟨J,hmo,hbnd⟩,hmu3,wkI⟩
  ·have htk:List.take (L.length+1) (x::L)=x::L:=by simp
   rw [htk];refine ⟨(i+1,c',out++[d],x::L++[a0t d],_,_),⟨J,hmo,hbnd⟩,hmu3,by (dsimp only;rw [a2s];exact wkI)⟩
 ·rw [d9p h]
  have hc:c=0:=by omega
  subst hc;have hout:=c1W I (by omega) (by omega);refine ifI ?_;refine exI ?_;refine sR 900 ?_;refine rtI ?_;refine ⟨_,b9z _ _ _ _ _,?_,?_⟩
  ·rw [hL];exact a9j _
  ·rw [hL,hout];rfl
set_option maxHeartbeats 4000000
theorem d3z {env:Env}{t K g T n:Nat}{l:List D}(he:env.get t=a6g K g 1 l:=by exact rfl):Wk ⟨env,a5O K g T 1 l,n⟩ ⟨[(t,.sl false 1 l)],[],n⟩:=by
 refine ⟨?_,⟨?_,trivial⟩,d9y _⟩
 ·cases l with
  | nil=>exact .nil
  | cons x l=>exact .drop .nil
 ·dsimp only
  rw [he];exact b9z _ _ _ _ _
theorem c8t {env:Env}{t K g n N:Nat}{z:List Nat}{T:Nat}(hl:z.length=N)(he:env.get t=.osl K g 1 0 N:=by exact rfl):Wk ⟨env,[⟨K,g,T,1,z.map a0t⟩],n⟩ ⟨[(t,.sl false 1 (z.map a0t))],[],n⟩:=by
 subst hl;refine ⟨.drop .nil,⟨?_,trivial⟩,d9y _⟩;dsimp only;rw [he]
 have:=b0y K g T 1 (z.map a0t)
 rwa [d9s] at this
theorem b4L {a v c:Nat}(ha:a<RB)(hv:v<RB)(hc:c<=1):∃ d c',d<RB/\c'<=1/\d+v+c=a+RB*c'/\((c'=0/\(a:Int) - v - c=d)\/(c'=1/\(a:Int) - v - c<0/\(a:Int) - v - c+1000000000=d)):=by
 unfold RB at ha hv ⊢
 by_cases h:a<v+c
 ·exact ⟨a+1000000000 - v - c,1,by omega,by omega,by omega,.inr ⟨rfl,by omega,by omega⟩⟩
 ·exact ⟨a - v - c,0,by omega,by omega,by omega,.inl ⟨rfl,by omega⟩⟩
theorem d3p (a b:Nat)(hab:b<=a)(ha:(a0r a).length<1000000):a0b C0 114 [rD a,rD b] (rD (a - b)):=by
 refine a0c.walk w1 c9I rfl fun F=>?_
 change OkS C0 F none F _ ⟨a1n 0 [.sl false 1 ((a0r a).map a0t),.sl false 1 ((a0r b).map a0t)],[],0⟩ _;have hlb:=a0H b a hab;have va:=a0u a;have vb:=a0u b;have wx:=a0E a;have wy:=a0E b;generalize a0r a=x at *;generalize a0r b=y at *;have ea:(((x.map a0t).length:Nat):Int)=(x.length:Int):=by rw [d9s]
 refine sR 0 ?_;refine sR 100 ?_;refine sR 200 ?_;refine OkS.seq ?_;refine sR 300 ?_;refine OkS.block ?_;refine OkS.loop (α:=Nat × Nat × List Nat × List D × Nat × Nat) (fun p=>⟨[(0,.sl false 1 (x.map a0t)),(1,.sl false 1 (y.map a0t)),(5,a6g 1103 p.2.2.2.2.1 1 p.2.2.2.1),(6,a0t p.2.1),(7,a0t p.1)],a5O 1103 p.2.2.2.2.1 3 1 p.2.2.2.1,p.2.2.2.2.2⟩)
  (fun p=>x.length - p.1) (fun p=>p.1<=x.length/\p.2.1<=1/\p.2.2.1.length=p.1/\Rd p.2.2.1/\a0i p.2.2.1+a0i (y.take p.1)=a0i (x.take p.1)+RB^p.1*p.2.1/\p.2.2.2.1=p.2.2.1.map a0t) (0,0,[],[],0,_) ⟨d9U _,d9U _,rfl,(fun x hx=>d9n hx e0j),by simp [a0i],rfl⟩ wkI ?_
 rintro ⟨i,c,out,L,g,n⟩ F ⟨hi,hc,hol,how,hI,hL⟩;dsimp only at hi hc hol how hI hL ⊢;refine OkS.seq ?_;refine OkS.seq ?_
 by_cases h:i<x.length
 ·have e1:decide ((i:Int)<(x.length:Int))=true:=d9q (by omega)
  obtain ⟨p,hp⟩:=a3A h;have hx:=a7F hp;have hpl:=wx p (d9r hp);have d2:=b4m y i (by omega) (by omega);unfold rL at d2;have hql:=a9k wy i;have ty:=a5Y y i;have tx:a0i (x.take (i+1))=a0i (x.take i)+RB^i*p:=by rw [a0U hp,a0X (i:=i) (by rw [d9J];omega)]
  generalize y.getD i 0=q at *;obtain ⟨d,c',hd,hc',hdig,hcase⟩:=b4L hpl hql hc;have k1:IntKind.i64.wrap ((p:Int) - (q:Int))=(p:Int) - q:=wI (by unfold RB at *;omega) (by unfold RB at *;omega);have k2:IntKind.i64.wrap ((p:Int) - q - (c:Int))=(p:Int) - q - c:=wI (by unfold RB at *;omega) (by unfold RB at *;omega);have wi:IntKind.i64.wrap ((i:Int)+1)=((i+1:Nat):Int):=wI (by omega) (by omega);have hlo:L.length<=1000001:=by rw [hL,d9s];omega
  have hmo:L++[a0t d]=(out++[d]).map a0t:=by rw [hL,e0Q];rfl
  have hvn:a0i (out++[d])+a0i (y.take (i+1))=a0i (x.take (i+1))+RB^(i+1)*c':=by
   rw [a0X hol,ty,tx,e0h,d9Y];have e3:RB^i*(d+q+c)=RB^i*(p+RB*c'):=by rw [hdig]
   rw [d9M,d9M,d9M (RB^i) p] at e3;omega
  have how':Rd (out++[d]):=Rd.append how fun x hx=>by
   simp only [d9F,e0j,or_false] at hx;subst hx;exact hd
  have hol':(out++[d]).length=i+1:=by rw [d9Z,hol];rfl
  clear hI hL how;refine d8I w1 400 (by kernel_rfl) ?_;refine nwI (ff2 ea e1) ?_;refine ifI ?_;refine skI ?_;refine OkS.seq ?_;refine OkS.block ?_;refine OkS.seq ?_;refine d8K w1 600 [0,1,2,3,4,5,6,7,8] [9,10] (by kernel_rfl) ?_;refine gwI kN ?_;refine ixI kT hx ?_;refine gwI kN ?_;refine a0q.same _ d2 d9k ?_;refine gwI (ff2 k1 k2) ?_;refine sR 700 ?_;refine d8X (α:=Nat) (fun n=>⟨[(0,.sl false 1 (x.map a0t)),(1,.sl false 1 (y.map a0t)),(5,a6g 1103 g 1 L),(6,a0t c'),(7,a0t i),(8,a0t d)],a5O 1103 g 3 1 L,n⟩) (fun _=>True) ?_ ?_
  ·generalize a6g 1103 g 1 L=od at *
   generalize a5O 1103 g 3 1 L=oh at *;refine OkS.seq ?_;rcases hcase with ⟨rfl,h2⟩|⟨rfl,h2,h3⟩
   ·have e2:decide ((p:Int) - q - c<0)=false:=d9p (by omega)
    rw [h2] at e2;rw [h2];refine d8I w1 800 (by kernel_rfl) ?_;refine nwI e2 ?_;refine ifI ?_;refine skI ?_;exact ⟨rfl,_,trivial,wkI⟩
   ·have e2:decide ((p:Int) - q - c<0)=true:=d9q h2
    have k3:IntKind.i64.wrap ((p:Int) - q - c+1000000000)=(d:Int):=by rw [h3];exact wI (by unfold RB at *;omega) (by unfold RB at *;omega)
    refine d8I w1 800 (by kernel_rfl) ?_;refine nwI e2 ?_;refine ifI ?_;refine sZ 900 ?_;refine nwI k3 ?_;refine rI 1000 ?_;exact ⟨rfl,_,trivial,wkI⟩
  rintro n3 -;rcases L with _|⟨x0,L⟩
  all_goals
   (try simp only [d9u] at hlo)
   dsimp only [a2a,a2b,a1B,a1C];refine rI 1100 ?_;refine d8I w1 500 (by kernel_rfl) ?_;refine nwI wi ?_
  ·exact ⟨(i+1,c',out++[d],[]++[a0t d],_,_),⟨h,hc',hol',how',hvn,hmo⟩,by dsimp only;omega,wkI⟩
  ·have htk:List.take (L.length+1) (x0::L)=x0::L:=by simp
   rw [htk];refine ⟨(i+1,c',out++[d],x0::L++[a0t d],_,_),⟨h,hc',hol',how',hvn,hmo⟩,by dsimp only;omega,by (dsimp only;rw [a2s];exact wkI)⟩
 ·have e1:decide ((i:Int)<(x.length:Int))=false:=d9p (by omega)
  have hix:i=x.length:=by omega
  subst hix;rw [d9G (by omega),d9G (by omega),va,vb] at hI;have hlt:=a1l how;rw [hol] at hlt;have hxl:=a1l wx;rw [va] at hxl;have hov:a0i out=a - b:=by
   rcases e0m c with h|h
   ·subst h;rw [e1g] at hI;omega
   ·have:c=1:=by omega
    subst this;rw [e1z] at hI;omega
  refine d8I w1 400 (by kernel_rfl) ?_;refine nwI (ff2 ea e1) ?_;refine ifI ?_;refine exI ?_;refine OkS.weak ⟨[(5,.sl false 1 L)],[],_⟩ d3z ?_;rw [hL];refine sR 1200 ?_;refine a0j.same _ (a9H out how (by omega)) d9k ?_;refine stI ?_;refine rtI ?_;exact a0a (by rw [hov]) IsPure.out
theorem c7p (a b:Nat)(hla:(a0r a).length<1000000)(hlb:(a0r b).length<1000000):a0b C0 115 [rD a,rD b] (rD (a*b)):=by
 refine a0c.walk w1 c9J rfl fun F=>?_
 change OkS C0 F none F _ ⟨a1n 0 [.sl false 1 ((a0r a).map a0t),.sl false 1 ((a0r b).map a0t)],[],0⟩ _;have va:=a0u a;have vb:=a0u b;have ha:=a0E a;have hb:=a0E b;generalize a0r a=x at *;generalize a0r b=y at *;subst va;subst vb;have ea:(((x.map a0t).length:Nat):Int)=(x.length:Int):=by rw [d9s]
 have eb:(((y.map a0t).length:Nat):Int)=(y.length:Int):=by rw [d9s]
 have wl:IntKind.i64.wrap ((x.length:Int)+(y.length:Int))=((x.length+y.length:Nat):Int):=by rw [wI (by omega) (by omega)];omega
 have r3:List.replicate (x.length+y.length) (ofV (.int .i64 0))=(List.replicate (x.length+y.length) 0).map a0t:=by rw [e1J];rfl
 refine sR 0 ?_;refine sZ 100 ?_;refine nwI (ff4 ea eb wl kN) ?_;refine OkS.seq ?_;refine sR 200 ?_;refine OkS.block ?_;refine OkS.loop (α:=Nat × List Nat × Nat) (fun p=>⟨[(0,.sl false 1 (x.map a0t)),(1,.sl false 1 (y.map a0t)),(5,.osl 105 6 1 0 (x.length+y.length)),(6,i64 p.1)],[⟨105,6,3,1,p.2.1.map a0t⟩],p.2.2⟩) (fun p=>x.length - p.1)
  (fun p=>p.1<=x.length/\p.2.1.length=x.length+y.length/\Rd p.2.1/\a0i p.2.1=a0i (x.take p.1)*a0i y/\∀ k,p.1+y.length<=k->∀ d,p.2.1[k]? = some d->d=0) (0,List.replicate (x.length+y.length) 0,_)
  ⟨d9U _,by simp,a7m _,by simp [a0i,a7H],fun k _ d hd=>e2c (d9r hd)⟩ (by rw [<- r3];exact wkI) ?_
 rintro ⟨i,o,m⟩ F ⟨h1,h2,h3,h4,h5⟩;dsimp only at h1 h2 h3 h4 h5 ⊢;refine OkS.seq ?_;refine OkS.seq ?_
 by_cases hi:i<x.length
 ·have e1:decide ((i:Int)<(x.length:Int))=true:=d9q (by omega)
  obtain ⟨p,hp⟩:=a3A hi;have hp':=a7F hp;have hpl:p<RB:=ha p (d9r hp);have wi:IntKind.i64.wrap ((i:Int)+1)=((i+1:Nat):Int):=wI (by omega) (by omega);have hax:a0i (x.take (i+1))=a0i (x.take i)+RB^i*p:=by rw [a0U hp,a0X (i:=i) (by rw [d9J];omega)]
  refine d8I w1 300 (by kernel_rfl) ?_;refine nwI (ff2 ea e1) ?_;refine ifI ?_;refine skI ?_;refine OkS.seq ?_;refine OkS.block ?_;refine sR 500 ?_;refine OkS.seq ?_;refine sR 600 ?_;refine OkS.block ?_;refine OkS.loop (α:=Nat × Nat × List Nat × Nat) (fun q=>⟨[(0,.sl false 1 (x.map a0t)),(1,.sl false 1 (y.map a0t)),(5,.osl 105 6 1 0 (x.length+y.length)),(6,i64 i),(7,a0t q.2.1),(8,i64 q.1)],[⟨105,6,3,1,q.2.2.1.map a0t⟩],q.2.2.2⟩) (fun q=>y.length - q.1)
   (fun q=>q.1<=y.length/\q.2.1<RB/\q.2.2.1.length=x.length+y.length/\Rd q.2.2.1/\a0i q.2.2.1+RB^(i+q.1)*q.2.1=a0i (x.take i)*a0i y+RB^i*p*a0i (y.take q.1)/\∀ k,i+y.length<=k->∀ d,q.2.2.1[k]? = some d->d=0) (0,0,o,_)
   ⟨d9U _,(show 0<RB by decide),h2,h3,by simp [a0i,h4],h5⟩ wkI ?_
  rintro ⟨j,c,q,m2⟩ F ⟨g1,g2,g3,g4,g5,g6⟩;dsimp only at g1 g2 g3 g4 g5 g6 ⊢;clear h2 h3 h4 h5 r3 wl;refine OkS.seq ?_;refine OkS.seq ?_
  by_cases hj:j<y.length
  ·have e2:decide ((j:Int)<(y.length:Int))=true:=d9q (by omega)
   obtain ⟨r,hr⟩:=a3A hj;have hr':=a7F hr;have hrl:r<RB:=hb r (d9r hr);obtain ⟨z,hz⟩:=a3A (l:=q) (i:=i+j) (by omega);have hz':=a7F hz;have hzl:z<RB:=g4 z (d9r hz);have wj:IntKind.i64.wrap ((j:Int)+1)=((j+1:Nat):Int):=wI (by omega) (by omega);have wij:IntKind.i64.wrap ((i:Int)+(j:Int))=((i+j:Nat):Int):=by rw [wI (by omega) (by omega)];omega
   have hbx:a0i (y.take (j+1))=a0i (y.take j)+RB^j*r:=by rw [a0U hr,a0X (i:=j) (by rw [d9J];omega)]
   have hpr:p*r<=999999999*999999999:=e1p (by unfold RB at hpl;omega) (by unfold RB at hrl;omega);have k0:IntKind.i64.wrap ((p:Int)*(r:Int))=((p*r:Nat):Int):=by rw [<- e0O,wI (by omega) (by omega)]
   have k1:IntKind.i64.wrap ((z:Int)+((p*r:Nat):Int))=((z+p*r:Nat):Int):=by rw [wI (by omega) (by unfold RB at *;omega)];omega
   have k2:IntKind.i64.wrap (((z+p*r:Nat):Int)+(c:Int))=((z+p*r+c:Nat):Int):=by rw [wI (by omega) (by unfold RB at *;omega)];omega
   have hs:=a4g (d:=(z+p*r+c)%RB) hz;have e:=e0V (z+p*r+c) RB;have hq:(z+p*r+c) / RB<RB:=e0E (by unfold RB at *;omega);have hd:(z+p*r+c)%RB<RB:=e0k _ (by decide);have k3:((z+p*r+c:Nat):Int).tmod 1000000000=(((z+p*r+c)%RB:Nat):Int):=rfl;have k4:IntKind.i64.wrap (((z+p*r+c:Nat):Int).tdiv 1000000000)=(((z+p*r+c) / RB:Nat):Int):=by
    show IntKind.i64.wrap ((((z+p*r+c) / 1000000000:Nat)):Int)=_;exact wN (by change (z+p*r+c) / RB<=_;unfold RB at hq ⊢;omega)
   have hval:a0i (q.set (i+j) ((z+p*r+c)%RB))+RB^(i+(j+1))*((z+p*r+c) / RB)=a0i (x.take i)*a0i y+RB^i*p*a0i (y.take (j+1)):=by
    rw [hbx,d9M,<- e1d (a0i (x.take i)*a0i y),<- g5];have h6:RB^(i+j)*((z+p*r+c)%RB)+RB^(i+(j+1))*((z+p*r+c) / RB)=RB^i*p*(RB^j*r)+RB^(i+j)*z+RB^(i+j)*c:=by
     have:RB^i*p*(RB^j*r)=RB^(i+j)*(p*r):=by
      rw [e1Q,d9Y,d9Y,e1B p]
     rw [this,<- e1d i j 1,e0h,d9Y,<- d9M,<- d9M,<- d9M,e]
     congr 1;omega
    omega
   generalize (z+p*r+c)%RB=d at *;generalize (z+p*r+c) / RB=c' at *;clear hs e g5 hax hbx;refine d8I w1 700 (by kernel_rfl) ?_;refine nwI (ff2 eb e2) ?_;refine ifI ?_;refine skI ?_;refine OkS.seq ?_;refine OkS.block ?_;refine OkS.seq ?_;refine d8K w1 900 [0,1,2,3,4,5,6,7,8,9,10,11,12,13,14,15,16] [17,18] (by kernel_rfl) ?_;refine gwI (ff4 wij kN d9S hz') ?_;refine ixI kT hp' ?_;refine gwI (ff4 wij kN d9S hz') ?_;refine ixI kT hr' ?_;refine gwI (ff3 k0 k1 k2) ?_;refine sZ 1000 ?_;refine gwI (ff5 wij kN d9S hz' k3) ?_;rw [b0O];refine d8I w1 1100 (by kernel_rfl) ?_;refine nwI k4 ?_;refine d8I w1 800 (by kernel_rfl) ?_;refine nwI wj ?_;refine ⟨(j+1,c',q.set (i+j) d,_),⟨hj,hq,by dsimp only;rw [e0i];exact g3,g4.set hd,hval,fun k hk d hd=>?_⟩,by dsimp only;omega,wkI⟩;dsimp only at hk hd;rw [e0N (by omega)] at hd;exact g6 k hk d hd
  ·have e2:decide ((j:Int)<(y.length:Int))=false:=d9p (by omega)
   have hj:j=y.length:=by omega
   subst hj;obtain ⟨z,hz⟩:=a3A (l:=q) (i:=i+y.length) (by omega);have hz0:z=0:=g6 _ (d9y _) _ hz;subst hz0;have hz':=a7F hz;have wij:IntKind.i64.wrap ((i:Int)+(y.length:Int))=((i+y.length:Nat):Int):=by rw [wI (by omega) (by omega)];omega
   have wij0:IntKind.i64.wrap ((i:Int)+(((y.map a0t).length:Nat):Int))=((i+y.length:Nat):Int):=by rw [eb];exact wij
   have k1:IntKind.i64.wrap (((0:Nat):Int)+(c:Int))=(c:Int):=by rw [wI (by omega) (by unfold RB at *;omega)];omega
   have hs:=a4g (d:=c) hz;rw [d9G (d9y _)] at g5;have hval:a0i (q.set (i+y.length) c)=a0i (x.take (i+1))*a0i y:=by
    rw [hax,e0e];omega
   clear hs g5 hax;refine d8I w1 700 (by kernel_rfl) ?_;refine nwI (ff2 eb e2) ?_;refine ifI ?_;refine exI ?_;refine d8I w1 1200 (by kernel_rfl) ?_;refine gwI (ff6 eb wij kN d9S hz' k1) ?_;rw [b0O];refine d8I w1 400 (by kernel_rfl) ?_;refine nwI wi ?_;refine ⟨(i+1,q.set (i+y.length) c,_),⟨hi,by dsimp only;rw [e0i];exact g3,g4.set g2,hval,fun k hk d hd=>?_⟩,by dsimp only;omega,wkI⟩;dsimp only at hk hd;rw [e0N (by omega)] at hd;exact g6 k (by omega) d hd
 ·have e1:decide ((i:Int)<(x.length:Int))=false:=d9p (by omega)
  have hi:i=x.length:=by omega
  subst hi;rw [d9G (d9y _)] at h4;refine d8I w1 300 (by kernel_rfl) ?_;refine nwI (ff2 ea e1) ?_;refine ifI ?_;refine exI ?_;refine OkS.weak ⟨[(5,.sl false 1 (o.map a0t))],[],_⟩ (c8t h2) ?_;refine sR 1300 ?_;refine a0j.same _ (a9H o h3 (by omega)) d9k ?_;refine stI ?_;refine rtI ?_;exact a0a (by rw [h4]) IsPure.out
theorem c1y (a b:Nat)(h:a / b<=9223372036854775807):IntKind.i64.wrap ((a:Int).tdiv (b:Int))=((a / b:Nat):Int):=by
 rw [<- Int.ofNat_tdiv];exact wN h
theorem c3D (a b:Nat):(a:Int).tmod (b:Int)=((a%b:Nat):Int):=(Int.ofNat_tmod a b).symm
theorem c3J {env:Env}{t K g n N t2:Nat}{z:List Nat}{T:Nat}{d2:D}(hl:z.length=N)(he:env.get t=.osl K g 1 0 N:=by exact rfl)(h2:env.get t2=d2:=by exact rfl):Wk ⟨env,[⟨K,g,T,1,z.map a0t⟩],n⟩ ⟨[(t,.sl false 1 (z.map a0t)),(t2,d2)],[],n⟩:=by
 subst hl;refine ⟨.drop .nil,⟨?_,?_,trivial⟩,d9y _⟩
 ·dsimp only
  rw [he]
  have:=b0y K g T 1 (z.map a0t)
  rwa [d9s] at this
 ·dsimp only
  rw [h2];exact .refl _
theorem c3j {r p d:Nat}(h:r*RB+p<d*RB)(hd:d<RB):IntKind.i64.wrap ((r:Int)*1000000000)=((r*RB:Nat):Int)/\IntKind.i64.wrap (((r*RB:Nat):Int)+(p:Int))=((r*RB+p:Nat):Int):=by
 unfold RB at *;refine ⟨?_,?_⟩
 ·rw [wI (by omega) (by omega)];omega
 ·rw [wI (by omega) (by omega)];omega
theorem b0o (a d:Nat)(hd:0<d)(hdl:d<RB)(hl:(a0r a).length<1000000):a0b C0 174 [rD a,a0t d] (.tup [rD (a / d),a0t (a%d)]):=by
 refine a0c.walk w1 d0j rfl fun F=>?_
 change OkS C0 F none F _ ⟨a1n 0 [.sl false 1 ((a0r a).map a0t),a0t d],[],0⟩ _;have va:=a0u a;have wa:=a0E a;generalize a0r a=x at *;have ea:(((x.map a0t).length:Nat):Int)=(x.length:Int):=by rw [d9s]
 have wl:IntKind.i64.wrap ((x.length:Int) - 1)=(x.length:Int) - 1:=wI (by omega) (by omega);have r3:List.replicate x.length (ofV (.int .i64 0))=(List.replicate x.length 0).map a0t:=by rw [e1J];rfl
 have d0:¬ (d:Int)=0:=by omega
 refine sR 0 ?_;refine sZ 100 ?_;refine nwI (ff2 ea kN) ?_;refine sR 200 ?_;refine OkS.seq ?_;refine sZ 300 ?_;refine nwI (ff2 ea wl) ?_;refine OkS.block ?_;refine OkS.loop (α:=Nat × Nat × List Nat × Nat) (fun p=>⟨[(0,.sl false 1 (x.map a0t)),(1,a0t d),(6,.osl 102 4 1 0 x.length),(7,a0t p.2.1),(8,i64 ((p.1:Int) - 1))],[⟨102,4,3,1,p.2.2.1.map a0t⟩],p.2.2.2⟩) (fun p=>p.1)
  (fun p=>p.1<=x.length/\p.2.1<d/\p.2.2.1.length=x.length/\Rd p.2.2.1/\a0i (p.2.2.1.drop p.1)*d+p.2.1=a0i (x.drop p.1)) (x.length,0,List.replicate x.length 0,_)
  ⟨d9y _,hd,by simp,a7m _,by simp [a0i]⟩ (by rw [<- r3];exact wkI) ?_
 rintro ⟨k,r,q,m⟩ F ⟨h1,h2,h3,h4,h5⟩;dsimp only at h1 h2 h3 h4 h5 ⊢;clear ea wl r3;refine OkS.seq ?_;refine sR 400 ?_;refine ifI ?_
 (refine brI (fun h20=>?_) (fun h20=>?_))<;>(try simp only [d9w,d9x] at h20)<;>(try simp only [h20])
 ·obtain ⟨j,rfl⟩:∃ j,k=j+1:=⟨k - 1,by
   have:=d9N h20
   omega⟩
  have wj:((j+1:Nat):Int) - 1=(j:Int):=by omega
  obtain ⟨p,hp⟩:=a3A (l:=x) (i:=j) (by omega);obtain ⟨z,hz⟩:=a3A (l:=q) (i:=j) (by omega);have hp':=a7F hp;have hz':=a7F hz;have hpl:=wa p (d9r hp);obtain ⟨J1,J2⟩:=b3r hd hp (by omega) h5;have hsb:r*RB+p<d*RB:=by
   have:(r+1)*RB<=d*RB:=d9K _ h2
   rw [e0e] at this;omega
  have hql:(r*RB+p) / d<RB:=e0E hsb;obtain ⟨k1,k2⟩:=c3j hsb hdl;have k3:=c1y (r*RB+p) d (d9V (e2M hql) (by decide));have k4:=c3D (r*RB+p) d;have wi:IntKind.i64.wrap ((j:Int) - 1)=(j:Int) - 1:=wI (by omega) (by omega);generalize (r*RB+p) / d=e at *;generalize (r*RB+p)%d=r' at *;rw [wj];refine skI ?_;refine OkS.seq ?_;refine OkS.block ?_;refine sZ 600 ?_;refine gwI kN ?_;refine ixI kT hp' ?_;refine gwI (ff2 k1 k2) ?_;refine sZ 700 ?_;refine gwI (ff4 kN d9S hz' k3) ?_;rw [b0O];refine d8I w1 800 (by kernel_rfl) ?_;refine nwI k4 ?_;refine d8I w1 500 (by kernel_rfl) ?_;refine nwI wi ?_;exact ⟨(j,r',q.set j e,_),⟨by dsimp only;omega,J2,by dsimp only;rw [e0i];exact h3,h4.set hql,J1⟩,by dsimp only;omega,wkI⟩
 ·have hk:k=0:=by
   have:=d9I h20
   omega
  subst hk;rw [e1c,e1c,va] at h5;obtain ⟨q1,q2⟩:=a6E h5 h2;refine exI ?_;refine OkS.weak ⟨[(6,.sl false 1 (q.map a0t)),(7,a0t r)],[],_⟩ (c3J h3) ?_;refine sR 900 ?_;refine a0j.same _ (a9H q h4 (by omega)) d9k ?_;refine stI ?_;refine rtI ?_;exact a0a (by rw [q1,q2]) IsPure.out
structure a6d (U V n2 v1 p1 q r:Nat):Prop where
 eq:q*v1+r=n2
 up:U<(q+1)*V
 cap:n2<=v1*RB+p1
 p1l:p1<RB
namespace a6d
variable {U V n2 v1 p1 q r:Nat} (G:a6d U V n2 v1 p1 q r)
include G
theorem small (h:RB<=r):q<RB:=by
 rcases d9H q RB with h1|h1
 ·exact h1
 ·exfalso
  have h2:=d9K v1 h1;have h3:=G.eq;have h4:=G.cap;have h5:=G.p1l;rw [d9O RB v1] at h2;omega
theorem qle (hv:0<v1):q<=2*RB:=by
 rcases d9H (2*RB) q with h1|h1
 ·exfalso
  have h2:=d9K v1 h1;have h3:=G.eq;have h4:=G.cap;have h5:=G.p1l;have h6:RB*1<=RB*v1:=d9X _ hv;rw [Nat.succ_mul,d9Y,d9O RB v1] at h2;rw [d9O RB v1] at h6;omega
 ·exact h1
end a6d
section
variable {P v:List Nat} {m p0 p1 p2 v2 v1:Nat} (S:b2g P v m p0 p1 p2 v2 v1)
include S
theorem b2R:a6d (a0i P) (a0i v) (p1+RB*p2) v1 p1 ((p2*RB+p1) / v1) ((p2*RB+p1)%v1):=by
 have c0:p2*RB+p1=p1+RB*p2:=by rw [d9O,e2K]
 rw [c0];have e:=e0X (p1+RB*p2) v1;have l:=e0k (p1+RB*p2) S.top;have c1:=d9O v1 ((p1+RB*p2) / v1);refine ⟨by omega,a8S S.below2 S.abovev ?_,?_,S.p1l⟩
 ·rw [e0e];omega
 ·have:=d9X RB S.p2v1
  rw [d9O v1];omega
theorem b4w {q r:Nat}(G:a6d (a0i P) (a0i v) (p1+RB*p2) v1 p1 q r)(h:RB<=q\/r*RB+p0<q*v2):0<q/\a6d (a0i P) (a0i v) (p1+RB*p2) v1 p1 (q - 1) (r+v1):=by
 obtain ⟨e,u,cp,pl⟩:=G;have hq:0<q:=by
  rcases h with h|h
  ·unfold RB at h;omega
  ·rcases e0m q with h0|h0
   ·subst h0;omega
   ·exact h0
 obtain ⟨k,rfl⟩:∃ k,q=k+1:=⟨q - 1,by omega⟩
 refine ⟨hq,⟨?_,?_,cp,pl⟩⟩
 ·rw [e1P,<- e,e0e];omega
 ·rw [e1P]
  rcases h with h|h
  ·have h1:a0i v*RB<=(k+1)*a0i v:=by rw [d9O];exact d9K _ h
   have:=S.less
   omega
  ·have e2:(k+1)*(v2+RB*v1)=(k+1)*v2+RB*((k+1)*v1):=by rw [d9M,e1B]
   refine b0C S.below3 S.abovev2 ?_;rw [e2,<- e,d9M RB,d9O RB r];omega
theorem a8T {q r:Nat}(G:a6d (a0i P) (a0i v) (p1+RB*p2) v1 p1 q r)(h:RB<=r\/(q<RB/\q*v2<=r*RB+p0)):q<RB/\q*a0i v<=a0i P+a0i v:=by
 have hqB:q<RB:=by
  rcases h with h|h
  ·exact G.small h
  ·exact h.1
 obtain ⟨e,u,cp,pl⟩:=G;have h5:=S.v2l;have hq:q*v2<=r*RB+p0:=by
  rcases h with h|h
  ·have h2:q*v2<=RB*RB:=e1p (by omega) (by omega)
   have h3:RB*RB<=r*RB:=d9K _ h;omega
  ·exact h.2
 have e2:q*(v2+RB*v1)=q*v2+RB*(q*v1):=by rw [d9M,e1B]
 refine ⟨hqB,b2Q (n3:=p0+RB*(p1+RB*p2)) (D:=v2+RB*v1) (P:=RB^m) (B:=RB) (v:=a0i (v.take m)) ?_ ?_ S.lowv ?_ (by omega) ?_⟩
 ·rw [S.valP,d9O];omega
 ·rw [S.valv,d9O];omega
 ·rw [e2,<- e,d9M RB,d9O RB r]
  omega
 ·have:=S.top
  have h1:=d9X RB (show 1<=v1 from this);omega
end
theorem d8n {H:Hp}{d0 d:D}(h:Fz H [] d0 d):FzS H d0 d:=fun _ _ _ _ m hO hN _ hv=>h.rep m hO (fun e he b hb _=>hN e he b hb) hv
theorem d9g {C:Ctx}{f:Nat}{ds ds':List D}{Φ:D->Prop}{H:Hp}{n:Nat}(hc:a0c C f ds' Φ)(hl:ds'.length=ds.length)(hv:∀ (i:Nat) (a b:D),ds[i]? = some a->ds'[i]? = some b->FzS H a b)
  (hp:ArePure ds') (hflat:∀ d,Φ d->b0a d):a0z C f ds H n (fun d' H' n'=>Φ d'/\H'=H/\n'=n+1):=by
 refine ⟨hc.1,fun F ρ w vs m hfr hg hvs hr=>?_⟩;have hH:FzH H [] H []:=by
  generalize H=H0
  have:∀ H1:Hp,FzH H0 [] H1 []:=fun H1=>by
   induction H1 with
   | nil=>exact .nil
   | cons e r ih=>exact .drop ih
  exact this H0
 obtain ⟨m',hO,hN⟩:=hH.mem m;refine (hc.2 (Own F.X ρ []) w vs m.g (d9V m.gn m.size) (fun b hb=>m'.own_lt hb) (by omega) fun i x hx=>?_).mono ?_
 ·have hi:i<ds'.length:=(List.getElem?_eq_some_iff.1 hx).1
  have hd0:ds[i]? = some ds[i]:=d9t (by omega);exact hp.out x (d9r hx) _ _ _ _ _ (hv i _ x hd0 hx C F ρ w m hO (fun e he b hb=>hN e he b hb rfl) _ (hr i _ hd0))
 ·rintro e w' ⟨v,d',rfl,hb,hd',rep⟩
  have x:Ext ρ (Own F.X ρ H) w ρ (Own F.X ρ H) w':=⟨hb.size,fun _ _ _ h=>h,fun b hb' hO=>⟨hO,hb.block b hb'⟩,fun b cs T fz hh=>⟨cs,_,by
   rw [hb.block b (Array.getElem?_eq_some_iff.1 hh).1];exact hh,rfl⟩⟩
  exact ⟨v,_,H,n+1,ρ,rfl,⟨hd',rfl,rfl⟩,m.same x hb.os hb.tape hb.output hb.block,x,fun k g hg'=>hfr k g (by omega),fun e he=>e0G (hg e he),hflat _ hd' _ _ _ _ _ _ _ rep⟩
def b5b (P v:List Nat)(d:D):Prop:=∃ q,d=a0t q/\q<RB/\a0i P<(q+1)*a0i v/\q*a0i v<=a0i P+a0i v
theorem c1B {p2 p1 v1:Nat}(h1:p1<RB)(h2:p2<RB):IntKind.i64.wrap ((p2:Int)*1000000000)=((p2*RB:Nat):Int)/\IntKind.i64.wrap (((p2*RB:Nat):Int)+(p1:Int))=((p2*RB+p1:Nat):Int) /\
  IntKind.i64.wrap (((p2*RB+p1:Nat):Int).tdiv (v1:Int))=(((p2*RB+p1) / v1:Nat):Int):=by
 have h3:=e1e (p2*RB+p1) v1;unfold RB at *;refine ⟨?_,?_,?_⟩
 ·rw [wI (by omega) (by omega)];omega
 ·rw [wI (by omega) (by omega)];omega
 ·exact c1y _ _ (by omega)
theorem b7c {t r v2 p0:Nat}(ht:t<RB)(hr:r<RB)(h2:v2<RB)(h0:p0<RB):IntKind.i64.wrap ((t:Int)*(v2:Int))=((t*v2:Nat):Int)/\IntKind.i64.wrap ((r:Int)*1000000000)=((r*RB:Nat):Int) /\
  IntKind.i64.wrap (((r*RB:Nat):Int)+(p0:Int))=((r*RB+p0:Nat):Int):=by
 have h3:t*v2<=999999999*999999999:=e1p (by unfold RB at ht;omega) (by unfold RB at h2;omega);unfold RB at *;refine ⟨?_,?_,?_⟩
 ·rw [<- e0O,wI (by omega) (by omega)]
 ·rw [wI (by omega) (by omega)];omega
 ·rw [wI (by omega) (by omega)];omega
theorem c8i {t v2 r p0:Nat}(h:t<RB):decide (((t*v2:Nat):Int)>((r*RB+p0:Nat):Int))=decide (RB<=t\/r*RB+p0<t*v2) :=
 e0C.2 ⟨fun h1=>.inr (Int.ofNat_lt.1 h1),fun h1=>Int.ofNat_lt.2 (h1.resolve_left (Nat.not_le.2 h))⟩
theorem c8j {t v2 r p0:Nat}(h:¬ (RB<=t\/r*RB+p0<t*v2)):t<RB/\t*v2<=r*RB+p0:=⟨Nat.lt_of_not_le fun h1=>h (.inl h1),Nat.le_of_not_lt fun h1=>h (.inr h1)⟩
theorem c8k {P v:List Nat}{m p0 p1 p2 v2 v1:Nat}(S:b2g P v m p0 p1 p2 v2 v1):∃ a1 T q0 r0:Nat,IntKind.i64.wrap ((p2:Int)*1000000000)=(a1:Int)/\IntKind.i64.wrap ((a1:Int)+(p1:Int))=(T:Int) /\
  IntKind.i64.wrap ((T:Int).tdiv (v1:Int))=(q0:Int)/\(T:Int).tmod (v1:Int)=(r0:Int)/\a6d (a0i P) (a0i v) (p1+RB*p2) v1 p1 q0 r0/\r0<RB:=by
 obtain ⟨k1,k2,k3⟩:=c1B (v1:=v1) S.p1l S.p2l;exact ⟨_,_,_,_,k1,k2,k3,c3D _ v1,b2R S,e1G (e0k _ S.top) S.v1l⟩
theorem c2O {t r v2 p0:Nat}(ht:t<RB)(hr:r<RB)(h2:v2<RB)(h0:p0<RB):∃ a1 a2 a3:Nat,IntKind.i64.wrap ((t:Int)*(v2:Int))=(a3:Int)/\IntKind.i64.wrap ((r:Int)*1000000000)=(a1:Int) /\
  IntKind.i64.wrap ((a1:Int)+(p0:Int))=(a2:Int)/\decide ((a3:Int)>(a2:Int))=decide (RB<=t\/r*RB+p0<t*v2):=by
 obtain ⟨q1,q2,q3⟩:=b7c ht hr h2 h0;exact ⟨_,_,_,q1,q2,q3,c8i ht⟩
theorem c7a (U v:List Nat)(j m p0 p1 p2 v2 v1:Nat)(S:b2g ((U.drop j).take (m+3)) v m p0 p1 p2 v2 v1)(hj:j+(m+3)<=U.length)(hU:U.length<4000000):a0c C0 176 [rL U,rL v,a0t j] (b5b ((U.drop j).take (m+3)) v):=by
 refine a0c.walk w1 d0k rfl fun F=>?_
 unfold rL;have hg:∀ {k p:Nat},((U.drop j).take (m+3))[k]? = some p->U[j+k]? = some p:=fun {k p} h=>by
  rw [e0K] at h;split at h
  ·rwa [e1m] at h
  ·cases h
 have u0:=a7F (hg S.h0);have u1:=a7F (hg S.h1);have u2:=a7F (hg S.h2);have y1:=a7F S.g1;have y2:=a7F S.g2;have l0:=S.p0l;have l1:=S.p1l;have l2:=S.p2l;have lv1:=S.v1l;have lv2:=S.v2l;have ev:(((v.map a0t).length:Nat):Int)=((m+2:Nat):Int):=by rw [d9s,S.lv]
 have eu:(((U.map a0t).length:Nat):Int)=(U.length:Int):=by rw [d9s]
 have w0:IntKind.i64.wrap ((j:Int)+((m+2:Nat):Int))=((j+(m+2):Nat):Int):=by rw [wI (by omega) (by omega)];omega
 have wa:IntKind.i64.wrap (((j+(m+2):Nat):Int) - 1)=((j+(m+1):Nat):Int):=by rw [wI (by omega) (by omega)];omega
 have wb:IntKind.i64.wrap (((j+(m+2):Nat):Int) - 2)=((j+m:Nat):Int):=by rw [wI (by omega) (by omega)];omega
 have wc:IntKind.i64.wrap (((m+2:Nat):Int) - 1)=((m+1:Nat):Int):=by rw [wI (by omega) (by omega)];omega
 have wd:IntKind.i64.wrap (((m+2:Nat):Int) - 2)=(m:Int):=by rw [wI (by omega) (by omega)];omega
 have ra:IntKind.i64.wrap (IntKind.i64.wrap ((j:Int)+((m+2:Nat):Int)) - 1)=((j+(m+1):Nat):Int):=by rw [w0,wa]
 have rb:IntKind.i64.wrap (IntKind.i64.wrap ((j:Int)+((m+2:Nat):Int)) - 2)=((j+m:Nat):Int):=by rw [w0,wb]
 obtain ⟨a1,T,q0,r0,k1,k2,k3,k4,G0,hr0⟩:=c8k S;have v0:¬ (v1:Int)=0:=by have:=S.top;omega
 have hvl:=S.lv;refine sR 0 ?_;refine sZ 100 ?_;refine nwI ev ?_;refine OkS.seq ?_;refine d8K w1 200 [0,1,2,3,4,5,6,7,8,9,10,11,12,13] [14,15] (by kernel_rfl) ?_;refine gwI (ff4 w0 wa ra kN) ?_;refine ixI kT u2 ?_;refine gwI (ff4 w0 wa ra kN) ?_;refine ixI kT u1 ?_;refine gwI (ff6 w0 wa ra kN k1 k2) ?_;refine OkS.seq ?_;refine d8K w1 300 [0,1,2,3,4,5,6,7,8,9,10,11,12,13,14] [15] (by kernel_rfl) ?_;refine gwI (ff2 wc kN) ?_;refine ixI kT y1 ?_;refine gwI (ff2 wc kN) ?_;refine ixI kT y1 ?_;refine gwI (ff4 wc kN k3 k4) ?_;refine d8X (α:=Nat × Nat) (fun p=>⟨[(9,a0t p.1)],[],p.2⟩) (fun p=>p.1<RB/\a0i ((U.drop j).take (m+3))<(p.1+1)*a0i v/\p.1*a0i v<=a0i ((U.drop j).take (m+3))+a0i v) ?_ ?_
 ·refine OkS.block ?_
  refine d8H (α:=Nat × Nat × Nat) (fun p=>⟨[(0,.sl false 1 (U.map a0t)),(1,.sl false 1 (v.map a0t)),(2,a0t j),(7,i64 ((m+2:Nat):Int)),(9,a0t p.1),(10,a0t p.2.1)],[],p.2.2⟩) (fun p=>p.1)
   (fun p F'=>F'=F/\a6d (a0i ((U.drop j).take (m+3))) (a0i v) (p1+RB*p2) v1 p1 p.1 p.2.1/\p.2.1<RB) (q0,r0,_) ⟨rfl,G0,hr0⟩ wkI ?_
  rintro ⟨t,r,n⟩ F' ⟨rfl,G,hr⟩;dsimp only at G hr ⊢;clear G0 hr0 k1 k2 k3 k4 u1 u2 ra wa;have htl:=G.qle S.top;obtain ⟨b,hb⟩:∃ b,b=decide (RB<=t\/r*RB+p0<t*v2):=⟨_,rfl⟩
  refine OkS.seq ?_;refine d8X (α:=Nat) (fun n=>⟨[(0,.sl false 1 (U.map a0t)),(1,.sl false 1 (v.map a0t)),(2,a0t j),(7,i64 ((m+2:Nat):Int)),(9,a0t t),(10,a0t r),(63,boo b)],[],n⟩) (fun _=>True) ?_ ?_
  ·rcases d9H t RB with h|h
   ·have e1:decide ((t:Int)>=1000000000)=false:=d9p (by unfold RB at h;omega)
    obtain ⟨a1,a2,a3,q1,q2,q3,q4⟩:=c2O h hr lv2 l0;rw [<- hb] at q4;clear hb;rw [<- q4];refine d8K w1 400 [0,1,2,3,4,5,6,7,8,9,10,11,12,13,14,15,16,17,18,19] [20,21] (by kernel_rfl) ?_;refine gwI e1 ?_;refine gwI (ff3 kF wd kN) ?_;refine ixI kF y2 ?_;refine gwI (ff5 kF w0 wb rb kN) ?_;refine ixI kF u0 ?_;refine gwI (ff4 kF q1 q2 q3) ?_;refine gwI kF ?_;exact ⟨trivial,_,trivial,wkI⟩
   ·have e1:decide ((t:Int)>=1000000000)=true:=d9q (by unfold RB at h;omega)
    have e2:b=true:=hb.trans (d9q (.inl h));subst e2;refine d8K w1 400 [0,1,2,3,4,5,6,7,8,9,10,11,12,13,14,15,16,17,18,19] [20,21] (by kernel_rfl) ?_;refine gwI e1 ?_;refine gwI kT ?_;refine gwI kT ?_;exact ⟨trivial,_,trivial,wkI⟩
  rintro n2 -;cases b with
  | true =>
   have hc:=d9N hb.symm;obtain ⟨t0,G2⟩:=b4w S G hc;have j1:IntKind.i64.wrap ((t:Int) - 1)=((t - 1:Nat):Int):=by rw [wI (by omega) (by unfold RB at htl;omega)];omega
   have j2:IntKind.i64.wrap ((r:Int)+(v1:Int))=((r+v1:Nat):Int):=by rw [wI (by omega) (by unfold RB at hr lv1;omega)];omega
   clear hc hb;refine ifI ?_;refine skI ?_;refine OkS.block ?_;refine sZ 500 ?_;refine nwI j1 ?_;refine sZ 600 ?_;refine gwI (ff2 wc kN) ?_;refine ixI kT y1 ?_;refine gwI j2 ?_;refine OkS.seq ?_;rcases d9H (r+v1) RB with h|h
   ·have e3:decide (((r+v1:Nat):Int)>=1000000000)=false:=d9p (by unfold RB at h;omega)
    refine d8I w1 700 (by kernel_rfl) ?_;refine nwI e3 ?_;refine ifI ?_;refine skI ?_;exact ⟨(t - 1,r+v1,_),⟨rfl,G2,h⟩,by dsimp only;omega,wkI⟩
   ·have e3:decide (((r+v1:Nat):Int)>=1000000000)=true:=d9q (by unfold RB at h;omega)
    obtain ⟨g1,g2⟩:=a8T S G2 (.inl h);refine d8I w1 700 (by kernel_rfl) ?_;refine nwI e3 ?_;refine ifI ?_;refine sR 800 ?_;refine rtI ?_;exact ⟨_,.refl _,IsPure.out,t - 1,rfl,g1,G2.up,g2⟩
  | false =>
   have hc:=d9I hb.symm;obtain ⟨g1,g2⟩:=a8T S G (.inr (c8j hc));clear hc hb;refine ifI ?_;refine exI ?_;exact ⟨rfl,⟨t,_⟩,⟨g1,G.up,g2⟩,wkI⟩
 rintro ⟨q,n⟩ ⟨g1,g2,g3⟩;dsimp only at g1 g2 g3 ⊢;refine sR 900 ?_;refine rtI ?_;exact ⟨_,.refl _,IsPure.out,q,rfl,g1,g2,g3⟩
def b7T (k g k' n:Nat)(env:Env):Env->Prop
 | []=>True
 | (t,d)::r=>(d=env.get t\/∃ sz i len,env.get t=.osl k g sz i len/\d=.osl k' n sz i len)/\b7T k g k' n env r
theorem b7T.get {k g k' n:Nat}{env:Env}:∀ {env':Env},b7T k g k' n env env'->∀ t,env'.get t=.any\/env'.get t=env.get t\/∃ sz i len,env.get t=.osl k g sz i len/\env'.get t=.osl k' n sz i len
 | [],_,t=>.inl rfl
 | (t0,d)::r,h,t=>by
  simp only [Env.get];cases hb:Nat.beq t0 t with
  | true =>
   obtain rfl:=d9v hb;rcases h.1 with h1|h1
   ·exact .inr (.inl h1)
   ·exact .inr (.inr h1)
  | false=>exact b7T.get h.2 t
section
variable {C:Ctx} {B F:Fra} {rd:Option Nat} {Q:Exit->Fra->St->Prop}
theorem d8U {c:Code}{env:Env}{k g k' T sz n:Nat}{es:List D}(env':Env)(he:b7T k g k' n env env')(h:OkS C B rd F c ⟨env',[⟨k',n,T,sz,es⟩],n+1⟩ Q):OkS C B rd F c ⟨env,[⟨k,g,T,sz,es⟩],n⟩ Q:=by
 refine ⟨fun hB hd ρ a w hs=>?_⟩;obtain ⟨ρ',hl,hk,hf⟩:∃ ρ':Lk,(∀ k1 g1 b,ρ k1 g1=some b->ρ' k1 g1=some b)/\ρ' k' n=ρ k g/\a9S ρ' (n+1):=by
  cases hb:ρ k g with
  | none=>exact ⟨ρ,fun _ _ _ h=>h,hs.fresh _ _ (d9y _),fun k1 g1 h=>hs.fresh _ _ (Nat.le_of_succ_le h)⟩
  | some b=>exact ⟨ρ.put k' n b,fun k1 g1 b1 h1=>d8r (hs.fresh _ _ (d9y _)) h1,d8s _ _ _ _,fun k1 g1 h1=>by
    unfold Lk.put;split
    ·rename_i hh;omega
    ·exact hs.fresh _ _ (Nat.le_of_succ_le h1)⟩
 have hO:Own F.X ρ' [⟨k',n,T,sz,es⟩]=Own F.X ρ [⟨k,g,T,sz,es⟩]:=funext fun b=>propext (by simp [Own,hk])
 have x:Ext ρ (Own F.X ρ [⟨k,g,T,sz,es⟩]) w ρ' (Own F.X ρ' [⟨k',n,T,sz,es⟩]) w:=⟨d9y _,hl,fun b _ hb=>⟨by rw [hO];exact hb,rfl⟩,fun _ cs _ _ h=>⟨cs,_,h,rfl⟩⟩
 refine h.out hB hd ρ' a w ⟨⟨⟨fun e he'=>?_,by simp,fun e he' b hb=>?_⟩,hs.mem.os,hs.mem.tape,hs.mem.output,hs.mem.size,hs.mem.blk,hs.mem.xlt,hs.mem.g0,hs.mem.gn,hs.mem.gw,fun k1 g1 b h1=>hl _ _ _ (hs.mem.lnk _ _ _ h1),hs.mem.shp⟩,hf,fun e he'=>?_,fun t=>?_,hs.nt,hs.dfr⟩
 ·simp only [d9F,e0j,or_false] at he'
  subst he';rcases hs.mem.hok.ent ⟨k,g,T,sz,es⟩ (by simp) with ⟨h1,h2⟩|⟨b,cs,h1,h2,h3⟩
  ·exact .inl ⟨h1,by rw [show ρ' k' n=ρ k g from hk];exact h2⟩
  ·refine .inr ⟨b,cs,hk.trans h1,h2,?_⟩
   have h4:=h3.mono x;exact ⟨h4.len,h4.siz,h4.one,h4.rep⟩
 ·simp only [d9F,e0j,or_false] at he'
  subst he';exact hs.mem.hok.own ⟨k,g,T,sz,es⟩ (by simp) b (hk.symm.trans hb)
 ·simp only [d9F,e0j,or_false] at he'
  subst he';exact e1L _
 ·have h0:=(hs.env t).mono x
  rcases he.get t with h1|h1|⟨sz',i,len,h1,h2⟩
  ·show Rep _ _ _ (env'.get t) _
   rw [h1];exact .any _
  ·show Rep _ _ _ (env'.get t) _
   rw [h1];exact h0
  ·show Rep _ _ _ (env'.get t) _
   rw [h2];have h5:=hs.env t;change Rep _ _ _ (env.get t) _ at h5;rw [h1] at h5;generalize a.tmps.getD t undef=v at *;cases h5 with
   | onil=>exact .onil _ _ _
   | osl hr hb hc hs' hm=>exact .osl (hk.trans hr) hb hc hs' hm
end
theorem d7p {b m y:Nat}(hl:(a0r b).length=m+1)(hy:(a0r b)[m]? = some y):∃ f,f=1000000000 / (y+1)/\0<f/\f<RB/\(a0r (b*f)).length=m+1:=by
 have hy0:=a4s b hl hy;have hyl:y<RB:=a0E b y (d9r hy);have hf0:0<1000000000 / (y+1):=Nat.div_pos (by unfold RB at hyl;omega) (by omega);have hf1:1000000000 / (y+1)<RB:=e1F (by decide) (by omega);have hm:=Nat.div_mul_le_self 1000000000 (y+1);refine ⟨_,rfl,hf0,hf1,?_⟩;generalize 1000000000 / (y+1)=f at *;refine b4J ?_ ?_
 ·exact d9V (a7l hl) (Nat.le_mul_of_pos_right _ hf0)
 ·have h2:=c0F hl hy
  have h3:=a1l ((a0E b).take m);rw [d9J,hl,e1n (by omega)] at h3;rw [a0u] at h2;have h4:b<RB^m*(y+1):=by rw [d9M,e1z];omega
  have h5:b*f<RB^m*(y+1)*f:=e2g h4 hf0;have h6:RB^m*(y+1)*f=RB^m*(f*(y+1)):=by rw [d9Y,d9O (y+1)]
  have h7:RB^m*(f*(y+1))<=RB^m*RB:=d9X _ hm;rw [e0h];omega
theorem b7r {a b f:Nat}{U v:List Nat}{k lu lq:Nat}(hf:0<f)(hU:a0i U=a*f)(hv:a0i v=b*f)(wU:Rd U)(lU:U.length=lu){q:List Nat}(hq:q=List.replicate lq 0)(hk:lq<=k)
  (hab:a<RB^k*b):c6j (a*f) v U q lu lq k:=by
 subst hq;refine ⟨lU,e1E,wU,a7m _,?_,?_⟩
 ·rw [e0R (by rw [e1E];exact hk)]
  rw [show a0i []=0 from rfl,e1g,e2a,d9S,hU]
 ·rcases d9H (a0i (U.drop k)) (a0i v) with h|h
  ·exact h
  ·exfalso
   have e0:a0i U=a0i (U.take k)+RB^(U.take k).length*a0i (U.drop k):=by
    conv=>lhs;rw [<- e0H k U]
    rw [a1h]
   have h3:a*f<RB^k*b*f:=e2g hab hf;rw [d9Y,<- hv] at h3;rcases d9H U.length k with hl|hl
   ·rw [e0R (by omega)] at h
    rw [show a0i []=0 from rfl] at h;rw [Nat.le_zero.1 h,e1g] at h3;omega
   ·rw [d9J,e1n hl] at e0
    have:=d9X (RB^k) h
    omega
theorem c0P {a b f:Nat}{v U q:List Nat}{lu lq:Nat}(hf:0<f)(I:c6j (a*f) v U q lu lq 0)(hv:a0i v=b*f):a0i q=a / b/\a0i U=a%b*f:=by
 obtain ⟨lU,lQ,wU,wq,val,less⟩:=I;simp only [e2V,e2E,e1c] at val less;obtain ⟨h1,h2⟩:=a6E val less;rw [hv,e2q _ _ hf] at h1;rw [hv,e2r] at h2;exact ⟨h1,h2⟩
theorem c7R {P V q N Pn c z W:Nat}(hI:N+q*V=Pn+W*c)(hP:P=Pn+W*z)(hc:c<=z)(hup:P<(q+1)*V):P / V=q/\P%V=N+W*(z - c):=by
 have e:W*z=W*c+W*(z - c):=by rw [<- d9M];congr 1;omega
 exact a9C (N:=N+W*(z - c)) (by omega) hup
theorem c7S {P V q N Pn N2 c c2 z W:Nat}(hI:N+q*V=Pn+W*c)(hP:P=Pn+W*z)(hz:z<c)(hN:N<W)(hdn:q*V<=P+V)(hN2:N2+W*c2=N+V)(hc2:c2<=1)(hN2l:N2<W)(hVW:V<W) :
  0<q/\P / V=q - 1/\P%V=N2/\(z:Int) - c+c2=0:=by
 obtain ⟨e,rfl⟩:∃ e,c=z+1+e:=⟨c - z - 1,by omega⟩
 have h1:W*(z+1+e)=W*z+W+W*e:=by rw [d9M,d9M,e1z]
 have he:e=0:=by
  rcases e0m e with h|h
  ·exact h
  ·have:=d9X W h
   omega
 subst he;rw [e1g] at h1;obtain ⟨a1,a2,a3⟩:=b3D (U:=P) (V:=V) (q:=q) (N:=N) (N3:=N2) (T:=W) (c:=c2) (by omega) hN hdn hN2 hc2 hN2l;refine ⟨a1,a2,a3,?_⟩
 have:c2=1:=by
  rcases e0m c2 with h|h
  ·exfalso
   subst h;rcases e0m q with h0|h0
   ·subst h0;omega
   ·obtain ⟨k,rfl⟩:∃ k,q=k+1:=⟨q - 1,by omega⟩
    rw [e0e,e2E] at hI hdn;omega
  ·omega
 subst this;omega
def blk (A N:List Nat)(top:Int)(Z:List Nat):List D:=A.map a0t++(N.map a0t++(i64 top::Z.map a0t))
theorem c3Q {A N Z:List Nat}{top:Int}{i z:Nat}(h:N[i]? = some z):(blk A N top Z)[A.length+i]? = some (a0t z):=by
 have hi:i<N.length:=(List.getElem?_eq_some_iff.1 h).1;unfold blk;rw [e0b (by rw [d9s];omega),d9s,e1y,e0g (by rw [d9s];exact hi)];exact a7F h
theorem b8g {A N Z:List Nat}{top:Int}{i d:Nat}(h:i<N.length):(blk A N top Z).set (A.length+i) (a0t d)=blk A (N.set i d) top Z:=by
 unfold blk;rw [e2J _ _ (by rw [d9s];omega),d9s,e1y,List.set_append_left _ _ (by rw [d9s];exact h),b0O]
theorem b4b {A N Z:List Nat}{top:Int}{n:Nat}(h:N.length=n):(blk A N top Z)[A.length+n]? = some (i64 top):=by
 unfold blk;rw [e0b (by rw [d9s];omega),d9s,e1y,e0b (by rw [d9s];omega),d9s,h,Nat.sub_self];rfl
theorem b5i {A N Z:List Nat}{top t:Int}{n:Nat}(h:N.length=n):(blk A N top Z).set (A.length+n) (i64 t)=blk A N t Z:=by
 unfold blk;rw [e2J _ _ (by rw [d9s];omega),d9s,e1y,e2J _ _ (by rw [d9s];omega),d9s,h,Nat.sub_self];rfl
theorem b4a {A N Z:List Nat}{t:Nat}:blk A N (t:Int) Z=(A++((N++[t])++Z)).map a0t:=by
 unfold blk;simp [e0Q]
theorem c3r {t x c z:Nat}(ht:t<RB)(hx:x<RB)(hc:c<=RB)(hz:z<RB):∃ p lo hi x' d c':Nat,IntKind.i64.wrap ((t:Int)*(x:Int))=(p:Int)/\IntKind.i64.wrap ((p:Int)+(c:Int))=(x':Int)/\((x':Int)).tmod 1000000000=(lo:Int) /\
  IntKind.i64.wrap (((x':Int)).tdiv 1000000000)=(hi:Int)/\IntKind.i64.wrap ((z:Int) - (lo:Int))=(z:Int) - lo/\d<RB/\c'<=RB/\d+t*x+c=z+RB*c' /\
  ((c'=hi/\(z:Int) - lo=d)\/(c'=hi+1/\(z:Int) - lo<0/\IntKind.i64.wrap ((z:Int) - lo+1000000000)=d/\IntKind.i64.wrap ((hi:Int)+1)=((hi+1:Nat):Int))):=by
 have h3:t*x<=999999999*999999999:=e1p (by unfold RB at ht;omega) (by unfold RB at hx;omega);have e:=e0V (t*x+c) 1000000000;have l:=e0k (t*x+c) (show 1000000000>0 by decide);have k0:IntKind.i64.wrap ((t:Int)*(x:Int))=((t*x:Nat):Int):=by rw [<- e0O,wI (by omega) (by omega)]
 unfold RB at *;have k1:IntKind.i64.wrap (((t*x:Nat):Int)+(c:Int))=((t*x+c:Nat):Int):=by rw [wI (by omega) (by omega)];omega
 have k2:((t*x+c:Nat):Int).tmod 1000000000=(((t*x+c)%1000000000:Nat):Int):=c3D _ 1000000000;have k3:IntKind.i64.wrap (((t*x+c:Nat):Int).tdiv 1000000000)=(((t*x+c) / 1000000000:Nat):Int):=c1y _ 1000000000 (by omega);generalize t*x=p at *;generalize (p+c)%1000000000=lo at *;generalize (p+c) / 1000000000=hi at *;rcases d9H z lo with h|h
 ·exact ⟨_,_,_,_,z+1000000000 - lo,hi+1,k0,k1,k2,k3,wI (by omega) (by omega),by omega,by omega,by omega,.inr ⟨rfl,by omega,by rw [wI (by omega) (by omega)];omega,by rw [wI (by omega) (by omega)];omega⟩⟩
 ·exact ⟨_,_,_,_,z - lo,hi,k0,k1,k2,k3,wI (by omega) (by omega),by omega,by omega,by omega,.inl ⟨rfl,by omega⟩⟩
theorem c3h {z x c:Nat}(hz:z<RB)(hx:x<RB)(hc:c<=1):∃ p s d c':Nat,IntKind.i64.wrap ((z:Int)+(x:Int))=(p:Int)/\IntKind.i64.wrap ((p:Int)+(c:Int))=(s:Int)/\((s:Int)).tmod 1000000000=(d:Int) /\
  IntKind.i64.wrap (((s:Int)).tdiv 1000000000)=(c':Int)/\d<RB/\c'<=1/\d=(z+x+c)%RB/\c'=(z+x+c) / RB:=by
 have e:=e0V (z+x+c) 1000000000;have l:=e0k (z+x+c) (show 1000000000>0 by decide);unfold RB at *;have k0:IntKind.i64.wrap ((z:Int)+(x:Int))=((z+x:Nat):Int):=by rw [wI (by omega) (by omega)];omega
 have k1:IntKind.i64.wrap (((z+x:Nat):Int)+(c:Int))=((z+x+c:Nat):Int):=by rw [wI (by omega) (by omega)];omega
 have k2:((z+x+c:Nat):Int).tmod 1000000000=(((z+x+c)%1000000000:Nat):Int):=c3D _ 1000000000;have k3:IntKind.i64.wrap (((z+x+c:Nat):Int).tdiv 1000000000)=(((z+x+c) / 1000000000:Nat):Int):=c1y _ 1000000000 (by omega);exact ⟨_,_,_,_,k0,k1,k2,k3,l,by omega,rfl,rfl⟩
set_option maxHeartbeats 2000000
theorem c7H:rD 0=.sl false 1 []:=by unfold rD;rw [a0M];rfl
theorem b4s {H:Hp}{K g T:Nat}{l:List Nat}{N:Nat}(hl:l.length=N)(he:Hp.get H K=some ⟨K,g,T,1,l.map a0t⟩:=by exact rfl):Fz H [] (.osl K g 1 0 N) (.sl false 1 (l.map a0t)):=by
 subst hl;have key:∀ (j:Nat) (d d':D),(l.map a0t)[0+j]? = some d->(l.map a0t)[j]? = some d'->d=d':=fun j d d' h1 h2=>by
  rw [d9S] at h1;rw [h1] at h2;exact e1K h2
 refine .osl (e:=⟨K,g,T,1,l.map a0t⟩) he rfl rfl rfl (by simp) (by simp) (fun j d d' h1 h2=>by rw [key j d d' h1 h2]) fun j d d' q c c' h1 h2 h3 h4=>?_
 rw [key j d d' h1 h2] at h3;rw [h3] at h4;cases h4;exact Fz.refl _
theorem c0Q (a b:Nat)(hab:a<b)(ha:(a0r a).length<1000000)(hb:(a0r b).length<1000000):a0b C0 109 [rD a,rD b] (.tup [rD (a / b),rD (a%b)]):=by
 rw [e1A hab,e0u hab,c7H];refine a0c.walk w1 b9j rfl fun F=>?_
 have cc:=c2g a b (by omega) (by omega);have e1:=b8t hab;refine sR 0 ?_;refine OkS.seq ?_;refine sR 100 ?_;refine cI cc ?_;rw [e1];refine ifI ?_;refine sR 200 ?_;refine rtI ?_;exact ⟨_,c5s (.nil 1) (.refl _),b6d (.sl fun e he=>by cases he) (a9j _),rfl⟩
theorem c3n (a b:Nat)(hab:b<=a)(ha:(a0r a).length<1000000)(hb:(a0r b).length=1)(hb0:b≠0):a0b C0 109 [rD a,rD b] (.tup [rD (a / b),rD (a%b)]):=by
 have cc:=c2g a b (by omega) (by omega);have e1:=b1k hab;have hbl:b<RB:=by
  have:=a1N b
  rw [hb,Nat.pow_one] at this;exact this
 have hlb:(a0r b)[0]? = some b:=by rw [a4r hb0 hbl];rfl
 have hb':=a7F hlb;have cd:=b0o a b (e0r hb0) hbl ha;have e3:(((((a0r b).map a0t).length:Nat):Int)==1)=true:=by rw [d9s,hb];rfl
 have hml:a%b<RB:=e1G (e0k _ (e0r hb0)) hbl;have hv:a0i [a%b]=a%b:=by simp [a0i]
 refine a0c.walk w1 b9j rfl fun F=>?_
 generalize a / b=q at *;generalize a%b=r at *;unfold rD rL at cc cd ⊢;change OkS C0 F none F _ _ (c1T X1.tt _ (· = .tup [rD q,rD r]));generalize a0r a=la at *;generalize a0r b=lb at *;refine sR 0 ?_;refine OkS.seq ?_;refine sR 100 ?_;refine cI cc ?_;rw [e1];refine ifI ?_;refine skI ?_;refine OkS.seq ?_;refine sZ 300 ?_;refine nwI e3 ?_;refine ifI ?_;refine sZ 400 ?_;refine gwI kN ?_;refine ixI kT hb' ?_;refine gwI kN ?_;refine a0j.same _ cd d9k ?_;refine stI ?_;refine sR 500 ?_;have hrl:Rd [r]:=fun a ha=>by
  simp only [d9F,e0j,or_false] at ha;subst ha;exact hml
 refine a0j.pure [rL [r]] _ ⟨.nn true 1 _,trivial⟩ (a9H [r] hrl (by simp)) d9k ?_;refine stI ?_;refine rtI ?_;exact a0a (by rw [hv];rfl) IsPure.out
theorem d6z {H:Hp}{d1 d2 d3 e1 e2 e3:D}(h1:FzS H d1 e1)(h2:FzS H d2 e2)(h3:FzS H d3 e3):∀ (i:Nat) (a b:D),[d1,d2,d3][i]? = some a->[e1,e2,e3][i]? = some b->FzS H a b
 | 0,_,_,ha,hb=>by cases ha;cases hb;exact h1
 | 1,_,_,ha,hb=>by cases ha;cases hb;exact h2
 | 2,_,_,ha,hb=>by cases ha;cases hb;exact h3
 | _+3,_,_,ha,_=>by cases ha
theorem b6W {P v:List Nat}(d:D)(h:b5b P v d):b0a d:=by
 obtain ⟨q,rfl,_⟩:=h;exact b0a.prim _
theorem c7T {v N Pn:List Nat}{t i c z x:Nat}(hz:N[i]? = some z)(hx:v[i]? = some x)(ht:t<RB)(hxl:x<RB)(hc:c<=RB)(hzl:z<RB)(hI:a0i N+t*a0i (v.take i)=a0i Pn+RB^i*c) :
  ∃ (p x' lo hi d c':Nat) (e:Int),IntKind.i64.wrap ((t:Int)*(x:Int))=(p:Int)/\IntKind.i64.wrap ((p:Int)+(c:Int))=(x':Int)/\((x':Int)).tmod 1000000000=(lo:Int) /\
  IntKind.i64.wrap (((x':Int)).tdiv 1000000000)=(hi:Int)/\IntKind.i64.wrap ((z:Int) - (lo:Int))=e/\d<RB/\c'<=RB/\a0i (N.set i d)+t*a0i (v.take (i+1))=a0i Pn+RB^(i+1)*c' /\
  ((decide (e<0)=false/\e=(d:Int)/\hi=c')\/(decide (e<0)=true/\IntKind.i64.wrap (e+1000000000)=(d:Int)/\IntKind.i64.wrap ((hi:Int)+1)=(c':Int))):=by
 obtain ⟨p,lo,hi,x',d,c',k1,k2,k3,k4,k5,k6,k7,k8,k9⟩:=c3r ht hxl hc hzl;have J:=a9o (b:=0) (c':=0) (lo:=t*x+c) (b':=c') (d:=d) (A:=N) (P:=Pn) (v:=v) (q:=t) hz hx hI rfl (by rw [<- k8];exact e1d d (t*x) c ▸ rfl);refine ⟨p,x',lo,hi,d,c',_,k1,k2,k3,k4,k5,k6,k7,by rw [J,d9S],?_⟩;rcases k9 with ⟨h1,h2⟩|⟨h1,h2,h3,h4⟩
 ·exact .inl ⟨d9p (by rw [h2];exact Int.not_lt.2 (Int.natCast_nonneg d)),h2,h1.symm⟩
 ·exact .inr ⟨d9q h2,h3,by rw [h1];exact h4⟩
theorem c7J {v N Nb:List Nat}{i c z x:Nat}(hz:N[i]? = some z)(hx:v[i]? = some x)(hxl:x<RB)(hc:c<=1)(hzl:z<RB)(hI:a0i N+RB^i*c=a0i Nb+a0i (v.take i)) :
  ∃ (p s d c':Nat),IntKind.i64.wrap ((z:Int)+(x:Int))=(p:Int)/\IntKind.i64.wrap ((p:Int)+(c:Int))=(s:Int)/\((s:Int)).tmod 1000000000=(d:Int) /\
  IntKind.i64.wrap (((s:Int)).tdiv 1000000000)=(c':Int)/\d<RB/\c'<=1/\a0i (N.set i d)+RB^(i+1)*c'=a0i Nb+a0i (v.take (i+1)):=by
 obtain ⟨p,s,d,c',k1,k2,k3,k4,k5,k6,rfl,rfl⟩:=c3h hzl hxl hc;exact ⟨p,s,_,_,k1,k2,k3,k4,k5,k6,a7P hz hx hI⟩
theorem b7q {U:List Nat}{k:Nat}(h:a0i U<RB^k)(hk:k<=U.length):a0i (U.take k)=a0i U:=by
 have e:a0i U=a0i (U.take k)+RB^k*a0i (U.drop k):=by
  conv=>lhs;rw [<- e0H k U]
  rw [a1h,d9J,e1n hk]
 rcases e0m (a0i (U.drop k)) with h0|h0
 ·rw [h0,e1g,e0W] at e;exact e.symm
 ·exfalso
  have:=d9X (RB^k) h0
  omega
theorem b7p {P v:List Nat}{m p0 p1 p2 v2 v1:Nat}(S:b2g P v m p0 p1 p2 v2 v1):∃ Pn,P=Pn++[p2]/\Pn.length=m+2/\Rd Pn/\a0i P=a0i Pn+RB^(m+2)*p2:=by
 have hl:=S.lP;have e:P=P.take (m+2)++[p2]:=by
  rw [<- a0U S.h2,d9G (by omega)]
 have hn:(P.take (m+2)).length=m+2:=by rw [d9J];omega
 refine ⟨P.take (m+2),e,hn,S.wP.take _,?_⟩
 conv=>lhs;rw [e]
 rw [a0X hn]
theorem c5P {P N:List Nat}{m z V:Nat}(hl:N.length=m+2)(hN:Rd N)(hz:z<RB)(hv:a0i N+RB^(m+2)*z=a0i P%V):(N++[z]).length=m+3/\Rd (N++[z])/\a0i (N++[z])=a0i P%V:=by
 refine ⟨by rw [d9Z,hl];rfl,Rd.append hN fun a ha=>?_,by rw [a0X hl,hv]⟩;simp only [d9F,e0j,or_false] at ha;subst ha;exact hz
set_option maxHeartbeats 4000000
theorem c0R (a b m:Nat)(hab:b<=a)(ha:(a0r a).length<1000000)(hb:(a0r b).length=m+2):a0b C0 109 [rD a,rD b] (.tup [rD (a / b),rD (a%b)]):=by
 have hlen:=a0H b a hab;have cc:=c2g a b (by omega) (by omega);have e1:=b1k hab;obtain ⟨y,hy⟩:=a3A (l:=a0r b) (i:=m+1) (by omega);have yl:y<RB:=a0E b y (d9r hy);obtain ⟨f,ef,f0,fl,hvl⟩:=d7p hb hy;have wf:IntKind.i64.wrap ((1000000000:Int).tdiv ((y+1:Nat):Int))=(f:Int):=by
  rw [ef];exact c1y 1000000000 (y+1) (d9V (e1e _ _) (by decide))
 have wy:IntKind.i64.wrap ((y:Int)+1)=((y+1:Nat):Int):=wI (by omega) (by unfold RB at yl;omega);have lf:a0r f=[f]:=a4r (Nat.pos_iff_ne_zero.1 f0) fl;have cv:=c7p b f (by omega) (by rw [lf];exact (by decide:1<1000000));have cu:=c7p a f (by omega) (by rw [lf];exact (by decide:1<1000000));have hu1:=a5X a f;have hu2:=a0H a (a*f) (Nat.le_mul_of_pos_right _ f0);rw [lf] at hu1;change _<=_+1 at hu1;obtain ⟨v,hv⟩:∃ v,v=a0r (b*f):=⟨_,rfl⟩
 have wv:Rd v:=by rw [hv];exact a0E _
 have vv:a0i v=b*f:=by rw [hv];exact a0u _
 rw [<- hv] at hvl;obtain ⟨U0,hU0⟩:∃ U0,U0=a0r (a*f):=⟨_,rfl⟩
 have wU0:Rd U0:=by rw [hU0];exact a0E _
 have vU0:a0i U0=a*f:=by rw [hU0];exact a0u _
 rw [<- hU0] at hu1 hu2;obtain ⟨v1,h1⟩:=a3A (l:=v) (i:=m+1) (by omega);obtain ⟨v2,h2⟩:=a3A (l:=v) (i:=m) (by omega);have v10:v1≠0:=a4s (b*f) (by rw [<- hv];exact hvl) (by rw [<- hv];exact h1);have b0:0<b:=by
  refine e0r fun h=>?_
  subst h;rw [a0M] at hb;cases hb
 have vpos:0<a0i v:=by rw [vv];exact e2h b0 f0
 have hup:=a1N a;have hbge:=a7l hb;unfold rD rL at cc cv cu;rw [lf,<- hv] at cv;rw [lf,<- hU0] at cu;refine a0c.walk w1 b9j rfl fun F=>?_
 change OkS C0 F none F _ ⟨a1n 0 [.sl false 1 ((a0r a).map a0t),.sl false 1 ((a0r b).map a0t)],[],0⟩ _;generalize a0r a=la at *;generalize a0r b=lb at *;obtain ⟨lq,hlq⟩:∃ lq,la.length=lq+(m+2):=⟨la.length - (m+2),by omega⟩
 have hy':=a7F hy;have e3:((((lb.map a0t).length:Nat):Int)==1)=false:=by rw [d9s,hb];exact d9D.2 (by omega)
 have elb:(((lb.map a0t).length:Nat):Int)=((m+2:Nat):Int):=by rw [d9s,hb]
 have wlb0:IntKind.i64.wrap (((m+2:Nat):Int) - 1)=((m+1:Nat):Int):=by rw [wI (by omega) (by omega)];omega
 have wlb:IntKind.i64.wrap ((((lb.map a0t).length:Nat):Int) - 1)=((m+1:Nat):Int):=by rw [elb];exact wlb0
 have ea:(((la.map a0t).length:Nat):Int)=(la.length:Int):=by rw [d9s]
 have ev:(((v.map a0t).length:Nat):Int)=((m+2:Nat):Int):=by rw [d9s,hvl]
 have eu:(((U0.map a0t).length:Nat):Int)=(U0.length:Int):=by rw [d9s]
 have wa1:IntKind.i64.wrap ((la.length:Int)+1)=((la.length+1:Nat):Int):=wI (by omega) (by omega);have wq0:IntKind.i64.wrap (((la.length+1:Nat):Int) - ((m+2:Nat):Int))=((lq+1:Nat):Int):=by rw [wI (by omega) (by omega)];omega
 have wq1:IntKind.i64.wrap (((lq+1:Nat):Int) - 1)=((lq+1:Nat):Int) - 1:=wI (by omega) (by omega);have wraw:IntKind.i64.wrap (IntKind.i64.wrap (((la.length+1:Nat):Int) - ((m+2:Nat):Int)) - 1)=((lq+1:Nat):Int) - 1:=by rw [wq0,wq1]
 have r3:List.replicate (lq+1) (ofV (.int .i64 0))=(List.replicate (lq+1) 0).map a0t:=by rw [e1J];rfl
 refine sR 0 ?_;refine OkS.seq ?_;refine sR 100 ?_;refine cI cc ?_;rw [e1];refine ifI ?_;refine skI ?_;refine OkS.seq ?_;refine sZ 300 ?_;refine nwI e3 ?_;refine ifI ?_;refine skI ?_;refine sZ 600 ?_;refine gwI (ff4 wlb elb wlb0 kN) ?_;refine ixI kT hy' ?_;refine gwI (ff3 wy wf kN) ?_;refine sR 700 ?_;refine a0j.pure [rL lb,rL [f]] _ ⟨.refl _,.nn true 1 _,trivial⟩ cv d9k ?_;refine stI ?_;refine sZ 800 ?_;refine nwI ev ?_;clear cc e1 e3 elb wlb wlb0 hy' yl hy wy wf hb;refine d8X (α:=Nat × Nat) (fun p=>⟨[(0,.sl false 1 (la.map a0t)),(8,.sl true 1 [a0t f]),(9,.sl false 1 (v.map a0t)),(10,i64 ((m+2:Nat):Int)),(11,.osl 904 p.1 1 0 U0.length)],[⟨904,p.1,3,1,U0.map a0t⟩],p.2⟩) (fun _=>True) ?_ ?_
 ·refine rI 900 ?_
  refine a0j.pure [rL la,rL [f]] _ ⟨.refl _,.nn true 1 _,trivial⟩ cu d9k ?_;refine stI ?_;exact ⟨rfl,⟨_,_⟩,trivial,wkI⟩
 rintro ⟨g,n2⟩ -;dsimp only;refine d8X (α:=Nat × Nat × List Nat × Nat) (fun p=>⟨[(0,.sl false 1 (la.map a0t)),(8,.sl true 1 [a0t f]),(9,.sl false 1 (v.map a0t)),(10,i64 ((m+2:Nat):Int)),(11,.osl p.1 p.2.1 1 0 (la.length+1))],[⟨p.1,p.2.1,3,1,p.2.2.1.map a0t⟩],p.2.2.2⟩) (fun p=>p.2.2.1.length=la.length+1/\Rd p.2.2.1/\a0i p.2.2.1=a*f) ?_ ?_
 ·refine OkS.block ?_
  rcases Nat.eq_or_lt_of_le hu1 with hl|hl
  ·have eN:decide (((la.length+1:Nat):Int)<((la.length+1:Nat):Int))=false:=d9p (by omega)
   rw [hl];refine d8H (α:=Nat) (fun n=>⟨[(0,.sl false 1 (la.map a0t)),(8,.sl true 1 [a0t f]),(9,.sl false 1 (v.map a0t)),(10,i64 ((m+2:Nat):Int)),(11,.osl 904 g 1 0 (la.length+1))],[⟨904,g,3,1,U0.map a0t⟩],n⟩) (fun _=>0) (fun _ F'=>F'=F) n2 rfl wkI ?_;rintro n3 F' rfl;refine OkS.seq ?_;refine sZ 1000 ?_;refine nwI (ff3 ea wa1 eN) ?_;refine ifI ?_;refine exI ?_;exact ⟨rfl,⟨904,g,U0,_⟩,⟨hl,wU0,vU0⟩,wkI⟩
  ·have hl2:U0.length=la.length:=by omega
   have eN:decide (((la.length+1:Nat):Int)<((la.length+1:Nat):Int))=false:=d9p (by omega);have eY:decide ((la.length:Int)<((la.length+1:Nat):Int))=true:=d9q (by omega);have hap:List.take la.length (U0.map a0t)++[D.prim (Value.int IntKind.i64 0)]=(U0++[0]).map a0t:=by
    rw [d9G (by rw [d9s];omega),e0Q];rfl
   rw [hl2];refine d8H (α:=Bool × Nat × Nat) (fun p=>match p with
    | (false,_,n)=>⟨[(0,.sl false 1 (la.map a0t)),(8,.sl true 1 [a0t f]),(9,.sl false 1 (v.map a0t)),(10,i64 ((m+2:Nat):Int)),(11,.osl 904 g 1 0 la.length)],[⟨904,g,3,1,U0.map a0t⟩],n⟩
    | (true,g1,n)=>⟨[(0,.sl false 1 (la.map a0t)),(8,.sl true 1 [a0t f]),(9,.sl false 1 (v.map a0t)),(10,i64 ((m+2:Nat):Int)),(11,.osl 1102 g1 1 0 (la.length+1))],[⟨1102,g1,3,1,(U0++[0]).map a0t⟩],n⟩) (fun p=>cond p.1 0 1) (fun _ F'=>F'=F) (false,0,n2) rfl wkI ?_
   rintro ⟨_|_,g1,n3⟩ F' rfl
   ·dsimp only
    refine OkS.seq ?_;refine sZ 1000 ?_;refine nwI (ff3 ea wa1 eY) ?_;refine ifI ?_;refine skI ?_;refine OkS.block ?_;refine rI 1100 ?_;refine ⟨(true,n3+8,n3+10),rfl,(by decide:(0:Nat)<1),?_⟩;dsimp only;rw [hap];exact wkI
   ·dsimp only
    refine OkS.seq ?_;refine sZ 1000 ?_;refine nwI (ff3 ea wa1 eN) ?_;refine ifI ?_;refine exI ?_;refine ⟨rfl,⟨1102,g1,U0++[0],_⟩,⟨by rw [d9Z,hl2];rfl,Rd.append wU0 fun a ha=>?_,by rw [b4K];exact vU0⟩,wkI⟩;simp only [d9F,e0j,or_false] at ha;subst ha;decide
 rintro ⟨K,gK,U1,n3⟩ ⟨lU1,wU1,vU1⟩;dsimp only at lU1 wU1 vU1 ⊢;refine d8U [(8,.sl true 1 [a0t f]),(9,.sl false 1 (v.map a0t)),(10,i64 ((m+2:Nat):Int)),(11,.osl 1102 n3 1 0 (la.length+1))] ⟨.inl rfl,.inl rfl,.inl rfl,.inr ⟨_,_,_,rfl,rfl⟩,trivial⟩ ?_;clear cu hU0 vU0 wU0 hu1 hu2 cv;refine d8X (α:=Nat × Nat) (fun p=>⟨[(8,.sl true 1 [a0t f]),(9,.sl false 1 (v.map a0t)),(10,i64 ((m+2:Nat):Int)),(11,.osl 1102 n3 1 0 (la.length+1)),(12,.osl 1204 p.1 1 0 (lq+1))],[⟨1204,p.1,3,1,(List.replicate (lq+1) 0).map a0t⟩,⟨1102,n3,3,1,U1.map a0t⟩],p.2⟩) (fun _=>True) ?_ ?_
 ·refine d8I w1 1200 (by kernel_rfl) ?_
  refine nwI (ff3 wq0 kN r3) ?_;exact ⟨trivial,⟨_,_⟩,trivial,by rw [<- r3];exact wkI⟩
 rintro ⟨g,n2⟩ -;dsimp only;have I0:c6j (a*f) v U1 (List.replicate (lq+1) 0) (la.length+1) (lq+1) (lq+1):=by
  refine b7r f0 vU1 vv wU1 lU1 rfl (d9y _) ?_
  have:RB^(lq+1)*RB^(m+1)<=RB^(lq+1)*b:=d9X _ hbge
  rw [<- e1Q,show lq+1+(m+1)=la.length by omega] at this;omega
 clear hup hbge;refine OkS.seq ?_;refine sZ 1300 ?_;refine nwI wraw ?_;refine OkS.block ?_;refine OkS.loop (α:=Nat × List Nat × List Nat × Nat) (fun p=>⟨[(8,.sl true 1 [a0t f]),(9,.sl false 1 (v.map a0t)),(10,i64 ((m+2:Nat):Int)),(11,.osl 1102 n3 1 0 (la.length+1)),(12,.osl 1204 g 1 0 (lq+1)),(13,i64 ((p.1:Int) - 1))],[⟨1204,g,3,1,p.2.2.1.map a0t⟩,⟨1102,n3,3,1,p.2.1.map a0t⟩],p.2.2.2⟩) (fun p=>p.1)
  (fun p=>p.1<=lq+1/\c6j (a*f) v p.2.1 p.2.2.1 (la.length+1) (lq+1) p.1) (lq+1,U1,List.replicate (lq+1) 0,_) ⟨d9y _,I0⟩ wkI ?_
 rintro ⟨k,u,q,n4⟩ F ⟨hk,I⟩;dsimp only at hk I ⊢;clear I0 wq0 wq1 wraw r3 ea eu wU1 vU1 lU1;refine OkS.seq ?_;refine sR 1400 ?_;refine ifI ?_
 (refine brI (fun h20=>?_) (fun h20=>?_))<;>(try simp only [d9w,d9x] at h20)<;>(try simp only [h20])
 ·obtain ⟨j,rfl⟩:∃ j,k=j+1:=⟨k - 1,by
   have:(k:Int) - 1>=0:=by simpa using h20
   omega⟩
  have wj:((j+1:Nat):Int) - 1=(j:Int):=by omega
  obtain ⟨p0,p1,p2,SI,hz,hP⟩:=b7o I hvl wv v1 v2 h2 h1 (e0r v10) (by omega);have lu:=I.lU;have cg:=c7a u v j m p0 p1 p2 v2 v1 SI (by omega) (by omega);rw [wj];refine skI ?_;refine OkS.seq ?_;refine OkS.block ?_;refine sR 1600 ?_;refine a0j.own _ (d9g cg rfl (d6z (d8n (b4s lu)) (d8n (.refl _)) (d8n (.refl _))) d9k b6W) ?_;rintro d H' n5 ⟨⟨t,rfl,ht1,ht2,ht3⟩,rfl,rfl⟩;refine stI ?_;obtain ⟨Pn,eP,lPn,wPn,vPn⟩:=b7p SI;have hA:(u.take j).length=j:=by rw [d9J];omega
  have p2l:=SI.p2l;have hdl:a0i ((u.drop j).take (m+3)) / a0i v<RB:=e0E SI.less;have hU:u.map a0t=blk (u.take j) Pn (p2:Int) (u.drop (j+(m+3))):=by rw [b4a,<- eP,<- d6f]
  have J:=fun P' h1 h2 h3=>b7n (P':=P') I vpos (by omega) (by omega) hz hP h1 h2 h3 hdl
  obtain ⟨zq,hzq⟩:=a3A (l:=q) (i:=j) (by rw [I.lQ];omega);have hzq':=a7F hzq;have wi':IntKind.i64.wrap ((j:Int) - 1)=(j:Int) - 1:=wI (by omega) (by omega);have wjn:IntKind.i64.wrap ((j:Int)+((m+2:Nat):Int))=((j+(m+2):Nat):Int):=by rw [wI (by omega) (by omega)];omega
  have hVW:=a1l wv;rw [show v.length=m+2 from hvl] at hVW;rw [hU];clear hU cg hP hz SI eP h20 wj I h1 h2 v10;generalize (u.drop j).take (m+3)=P at *;generalize u.take j=A at *;generalize u.drop (j+(m+3))=Z at *;refine sR 1700 ?_;refine OkS.seq ?_;refine sR 1800 ?_;refine OkS.block ?_;refine OkS.loop (α:=Nat × Nat × List Nat × Nat) (fun p=>⟨[(8,.sl true 1 [a0t f]),(9,.sl false 1 (v.map a0t)),(10,i64 ((m+2:Nat):Int)),(11,.osl 1102 n3 1 0 (la.length+1)),(12,.osl 1204 g 1 0 (lq+1)),(13,i64 (j:Int)),(14,a0t t),(15,a0t p.2.1),(16,i64 p.1)],[⟨1204,g,3,1,q.map a0t⟩,⟨1102,n3,3,1,blk A p.2.2.1 (p2:Int) Z⟩],p.2.2.2⟩) (fun p=>m+2 - p.1)
   (fun p=>p.1<=m+2/\p.2.1<=RB/\p.2.2.1.length=m+2/\Rd p.2.2.1/\a0i p.2.2.1+t*a0i (v.take p.1)=a0i Pn+RB^p.1*p.2.1) (0,0,Pn,_) ⟨d9U _,d9U _,lPn,wPn,by simp [a0i]⟩ wkI ?_
  rintro ⟨i,c,N,n6⟩ F ⟨hi,hc,hNl,hNw,hI⟩;dsimp only at hi hc hNl hNw hI ⊢;refine OkS.seq ?_;refine sR 1900 ?_;refine ifI ?_
  (refine brI (fun hlt=>?_) (fun hlt=>?_))<;>(try simp only [d9w,d9x] at hlt)<;>(try simp only [hlt])
  ·have hi2:i<m+2:=by
    have:=d9N hlt
    omega
   obtain ⟨x,hx⟩:=a3A (l:=v) (i:=i) (by omega);have hx':=a7F hx;have hxl:x<RB:=wv x (d9r hx);obtain ⟨z,hz⟩:=a3A (l:=N) (i:=i) (by omega);have hzl:=hNw z (d9r hz);have hz':=c3Q (A:=A) (Z:=Z) (top:=(p2:Int)) hz;rw [hA] at hz';obtain ⟨p,x',lo,hi',d,c',e,k1,k2,k3,k4,k5,dl,cl,hI',hb⟩:=c7T hz hx ht1 hxl hc hzl hI;have hset:(blk A N (p2:Int) Z).set (j+i) (a0t d)=blk A (N.set i d) (p2:Int) Z:=by
    have:=b8g (A:=A) (Z:=Z) (top:=(p2:Int)) (i:=i) (d:=d) (N:=N) (by omega)
    rwa [hA] at this
   have wij:IntKind.i64.wrap ((i:Int)+(j:Int))=((j+i:Nat):Int):=by rw [wI (by omega) (by omega)];omega
   have wi:IntKind.i64.wrap ((i:Int)+1)=((i+1:Nat):Int):=wI (by omega) (by omega);clear hI J hVW vPn ht2 ht3 hdl;refine skI ?_;refine OkS.seq ?_;refine OkS.block ?_;refine sZ 2100 ?_;refine gwI kN ?_;refine ixI kT hx' ?_;refine gwI (ff3 kN k1 k2) ?_;refine sZ 2200 ?_;refine gwI (ff6 wij kN d9S hz' k3 k5) ?_;refine sZ 2300 ?_;refine nwI k4 ?_;rcases hb with ⟨b1,b2,b3⟩|⟨b1,b2,b3⟩
   ·refine OkS.seq ?_
    refine sZ 2400 ?_;refine nwI b1 ?_;refine ifI ?_;refine skI ?_;subst b2 b3;refine d8I w1 2700 (by kernel_rfl) ?_;refine gwI (ff4 wij kN d9S hz') ?_;rw [hset];refine d8I w1 2000 (by kernel_rfl) ?_;refine nwI wi ?_;exact ⟨(i+1,hi',N.set i d,_),⟨hi2,cl,by dsimp only;rw [e0i];exact hNl,hNw.set dl,hI'⟩,by dsimp only;omega,wkI⟩
   ·refine OkS.seq ?_
    refine sZ 2400 ?_;refine nwI b1 ?_;refine ifI ?_;refine sZ 2500 ?_;refine nwI b2 ?_;refine d8I w1 2600 (by kernel_rfl) ?_;refine nwI b3 ?_;refine d8I w1 2700 (by kernel_rfl) ?_;refine gwI (ff4 wij kN d9S hz') ?_;rw [hset];refine d8I w1 2000 (by kernel_rfl) ?_;refine nwI wi ?_;exact ⟨(i+1,c',N.set i d,_),⟨hi2,cl,by dsimp only;rw [e0i];exact hNl,hNw.set dl,hI'⟩,by dsimp only;omega,wkI⟩
  ·have hi2:i=m+2:=by
    have:=d9I hlt
    omega
   subst hi2;rw [d9G (by omega)] at hI;have hNlt:=a1l hNw;rw [hNl] at hNlt;have htop:=b4b (A:=A) (Z:=Z) (top:=(p2:Int)) hNl;have hstop:=b5i (A:=A) (Z:=Z) (top:=(p2:Int)) (t:=(p2:Int) - (c:Int)) hNl;have htop2:=b4b (A:=A) (Z:=Z) (top:=(p2:Int) - (c:Int)) hNl;rw [hA] at htop hstop htop2;have p2l9:p2<1000000000:=p2l;have hc9:c<=1000000000:=hc;have wzc:IntKind.i64.wrap ((p2:Int) - (c:Int))=(p2:Int) - (c:Int):=wI (by omega) (by omega);refine exI ?_;refine sZ 2800 ?_;refine gwI (ff5 wjn kN d9S htop wzc) ?_;rw [hstop];rcases d9H p2 c with h|h
   ·have e29:decide ((p2:Int) - (c:Int)<0)=true:=d9q (by omega)
    have ht9:t<1000000000:=ht1;have wt:IntKind.i64.wrap ((t:Int) - 1)=(t:Int) - 1:=wI (by omega) (by omega);refine OkS.seq ?_;refine sZ 2900 ?_;refine gwI (ff5 wjn kN d9S htop2 e29) ?_;refine ifI ?_;refine sZ 3000 ?_;refine nwI wt ?_;refine sR 3100 ?_;refine OkS.seq ?_;refine sR 3200 ?_;refine OkS.block ?_;refine OkS.loop (α:=Nat × Nat × List Nat × Nat) (fun p=>⟨[(8,.sl true 1 [a0t f]),(9,.sl false 1 (v.map a0t)),(10,i64 ((m+2:Nat):Int)),(11,.osl 1102 n3 1 0 (la.length+1)),(12,.osl 1204 g 1 0 (lq+1)),(13,i64 (j:Int)),(14,i64 ((t:Int) - 1)),(19,a0t p.2.1),(20,i64 p.1)],[⟨1204,g,3,1,q.map a0t⟩,⟨1102,n3,3,1,blk A p.2.2.1 ((p2:Int) - (c:Int)) Z⟩],p.2.2.2⟩) (fun p=>m+2 - p.1)
     (fun p=>p.1<=m+2/\p.2.1<=1/\p.2.2.1.length=m+2/\Rd p.2.2.1/\a0i p.2.2.1+RB^p.1*p.2.1=a0i N+a0i (v.take p.1)) (0,0,N,_) ⟨d9U _,d9U _,hNl,hNw,by simp [a0i]⟩ wkI ?_
    rintro ⟨i,c2,N2,n7⟩ F ⟨hi,hc2,hNl2,hNw2,hI2⟩;dsimp only at hi hc2 hNl2 hNw2 hI2 ⊢;clear htop hstop;refine OkS.seq ?_;refine sR 3300 ?_;refine ifI ?_
    (refine brI (fun hlt2=>?_) (fun hlt2=>?_))<;>(try simp only [d9w,d9x] at hlt2)<;>(try simp only [hlt2])
    ·have hi2:i<m+2:=by
      have:=d9N hlt2
      omega
     obtain ⟨x,hx⟩:=a3A (l:=v) (i:=i) (by omega);have hx':=a7F hx;have hxl:x<RB:=wv x (d9r hx);obtain ⟨z,hz⟩:=a3A (l:=N2) (i:=i) (by omega);have hzl:=hNw2 z (d9r hz);have hz':=c3Q (A:=A) (Z:=Z) (top:=(p2:Int) - (c:Int)) hz;rw [hA] at hz';obtain ⟨p,s,d,c',k1,k2,k3,k4,dl,cl,hI'⟩:=c7J hz hx hxl hc2 hzl hI2;have hset:(blk A N2 ((p2:Int) - (c:Int)) Z).set (j+i) (a0t d)=blk A (N2.set i d) ((p2:Int) - (c:Int)) Z:=by
      have:=b8g (A:=A) (Z:=Z) (top:=(p2:Int) - (c:Int)) (i:=i) (d:=d) (N:=N2) (by omega)
      rwa [hA] at this
     have wij:IntKind.i64.wrap ((i:Int)+(j:Int))=((j+i:Nat):Int):=by rw [wI (by omega) (by omega)];omega
     have wi:IntKind.i64.wrap ((i:Int)+1)=((i+1:Nat):Int):=wI (by omega) (by omega);clear hI2 hI J hVW vPn ht2 ht3 hdl;refine skI ?_;refine OkS.seq ?_;refine OkS.block ?_;refine OkS.seq ?_;refine d8K w1 3500 [0,1,2,3,4,5,6,7,8,9,10,11] [12,13] (by kernel_rfl) ?_;refine gwI (ff4 wij kN d9S hz') ?_;refine ixI kT hx' ?_;refine gwI (ff3 kN k1 k2) ?_;refine sZ 3600 ?_;refine gwI (ff5 wij kN d9S hz' k3) ?_;rw [hset];refine d8I w1 3700 (by kernel_rfl) ?_;refine nwI k4 ?_;refine d8I w1 3400 (by kernel_rfl) ?_;refine nwI wi ?_;exact ⟨(i+1,c',N2.set i d,_),⟨hi2,cl,by dsimp only;rw [e0i];exact hNl2,hNw2.set dl,hI'⟩,by dsimp only;omega,wkI⟩
    ·have hi2:i=m+2:=by
      have:=d9I hlt2
      omega
     subst hi2;rw [d9G (by omega)] at hI2;have hNlt2:=a1l hNw2;rw [hNl2] at hNlt2;obtain ⟨t0,g1,g2,g3⟩:=c7S hI vPn h hNlt ht3 hI2 hc2 hNlt2 hVW;have htop3:=b4b (A:=A) (Z:=Z) (top:=(p2:Int) - (c:Int)) hNl2;have hstop3:=b5i (A:=A) (Z:=Z) (top:=(p2:Int) - (c:Int)) (t:=((0:Nat):Int)) hNl2;rw [hA] at htop3 hstop3;have wfin:IntKind.i64.wrap ((p2:Int) - (c:Int)+(c2:Int))=((0:Nat):Int):=by rw [g3];rfl
     have et:(t:Int) - 1=((t - 1:Nat):Int):=by omega
     obtain ⟨f1,f2,f3⟩:=c5P (P:=P) (V:=a0i v) hNl2 hNw2 (z:=0) (by decide) (by rw [e1g,e0W];exact g2.symm);have J1:=J _ f1 f2 f3;rw [g1] at J1;refine exI ?_;refine d8I w1 3800 (by kernel_rfl) ?_;refine gwI (ff5 wjn kN d9S htop3 wfin) ?_;rw [hstop3,b4a,et];refine d8I w1 3900 (by kernel_rfl) ?_;refine gwI (ff3 kN d9S hzq') ?_;rw [b0O];refine d8I w1 1500 (by kernel_rfl) ?_;refine nwI wi' ?_;exact ⟨(j,A++((N2++[0])++Z),q.set j (t - 1),_),⟨by dsimp only;omega,J1⟩,by dsimp only;omega,wkI⟩
   ·have e29:decide ((p2:Int) - (c:Int)<0)=false:=d9p (by omega)
    obtain ⟨g1,g2⟩:=c7R hI vPn h ht2;have ezc:(p2:Int) - (c:Int)=((p2 - c:Nat):Int):=by omega
    obtain ⟨f1,f2,f3⟩:=c5P hNl hNw (z:=p2 - c) (by omega) g2.symm;have J1:=J _ f1 f2 f3;rw [g1] at J1;refine OkS.seq ?_;refine sZ 2900 ?_;refine gwI (ff5 wjn kN d9S htop2 e29) ?_;refine ifI ?_;refine skI ?_;rw [ezc,b4a];refine d8I w1 3900 (by kernel_rfl) ?_;refine gwI (ff3 kN d9S hzq') ?_;rw [b0O];refine d8I w1 1500 (by kernel_rfl) ?_;refine nwI wi' ?_;exact ⟨(j,A++((N++[p2 - c])++Z),q.set j t,_),⟨by dsimp only;omega,J1⟩,by dsimp only;omega,wkI⟩
 ·have hk:k=0:=by
   have:¬ ((k:Int) - 1>=0):=by simpa using h20
   omega
  subst hk;obtain ⟨q1,q2⟩:=c0P f0 I vv;have wu:=I.wU;have wqq:=I.wq;have lu:=I.lU;have lqq:=I.lQ;have hlt:a0i u<RB^(m+2):=by
   have:=I.less
   rw [e1c] at this;have h:=a1l wv;rw [show v.length=m+2 from hvl] at h;omega
  have hta:=b7q hlt (by omega);have hll:=a1x hlt;rw [q2] at hll hta;have ed:a%b*f / f=a%b:=Nat.mul_div_cancel _ f0;have cd:=b0o (a%b*f) f f0 fl (by omega);rw [ed] at cd;clear I;refine exI ?_;refine OkS.weak ⟨[(8,.sl true 1 [a0t f]),(10,i64 ((m+2:Nat):Int)),(11,.sl false 1 (u.map a0t)),(12,.sl false 1 (q.map a0t))],[],_⟩ ⟨.drop (.drop .nil),⟨.refl _,.refl _,b4s lu,b4s lqq,trivial⟩,d9y _⟩ ?_;have e5:List.take (m+2) (u.map a0t)=(u.take (m+2)).map a0t:=by
   rw [e2C]
  have eu2:(u.map a0t).length=la.length+1:=by rw [d9s];omega
  have ct:=a9H (u.take (m+2)) (wu.take _) (by rw [d9J];omega);rw [hta] at ct;refine OkS.seq ?_;refine d8K w1 4000 [0,1,2,3,4,5,6,7,8,9,10,11] [12] (by kernel_rfl) ?_;refine gwI (ff4 kN Nat.sub_zero (@e1c D) e5) ?_;refine a0q.same _ ct d9k ?_;have hf0:([a0t f]:List D)[0]? = some (a0t f):=rfl;refine gwI kN ?_;refine ixI kT hf0 ?_;refine gwI kN ?_;refine a0q.same _ cd d9k ?_;refine gwI kN ?_;refine sR 4100 ?_;refine a0j.same _ (a9H q wqq (by omega)) d9k ?_;refine stI ?_;refine rtI ?_;exact a0a (by rw [q1]) IsPure.out
theorem d5I (a b:Nat)(hb:b≠0)(ha:(a0r a).length<1000000)(hbl:(a0r b).length<1000000):a0b C0 109 [rD a,rD b] (.tup [rD (a / b),rD (a%b)]):=by
 rcases d9H a b with h|h
 ·exact c0Q a b h ha hbl
 ·rcases hl:(a0r b).length with _|m
  ·have:=a1N b
   rw [hl] at this;simp at this;exact d9n this hb
  ·rcases m with _|m
   ·exact c3n a b h ha hl hb
   ·exact c0R a b m h ha hl
abbrev rZ (z:Int):D:=.agg [boo (decide (z<0)),rD z.natAbs]
def sg (neg:Bool)(n:Nat):Int:=if neg then -(n:Int) else n
theorem c2N {n:Nat}:0<(a0r n).length↔n≠0:=by
 constructor
 ·rintro h rfl
  rw [a0M] at h;cases h
 ·intro h
  rw [a1y h,d9u];exact Nat.succ_pos _
theorem b3c (n:Nat):decide (((((a0r n).map a0t).length:Nat):Int)>0)=decide (n≠0):=by
 have:=@c2N n
 rw [d9s];exact e0C.2 ⟨fun h=>this.1 (by omega),fun h=>by have:=this.2 h;omega⟩
theorem d5H (neg:Bool)(n:Nat):rZ (sg neg n)=.agg [boo (neg&&decide (n≠0)),rD n]:=by
 unfold rZ sg;cases neg
 ·simp only [e1k,if_false,e1o,e0B]
  rw [d9p (by omega)]
 ·simp only [if_true,e1b,e2G,e0B]
  congr 3
  exact e0C.2 (by omega)
theorem b6m (z:Int):sg (decide (z<0)) z.natAbs=z:=by
 unfold sg
 by_cases h:z<0
 ·rw [d9q h,d9l rfl];omega
 ·rw [d9p h,d9m (by decide)];omega
theorem c0A (b:Bool)(n:Nat):a2n (.agg [boo b,.sl false 1 ((a0r n).map a0t)]):=.agg fun d hd=>by
 simp only [d9F,e0j,or_false] at hd;rcases hd with rfl|rfl
 ·exact .prim _
 ·exact a9j _
def b6i (z:Int):Prop:=(a0r z.natAbs).length<1000000
instance  (b:Bool)(n:Nat):IsPure (.agg [boo b,rD n]):=⟨c0A b n⟩
theorem b5n (a b:Nat)(fa:(a0r a).length<1000000)(fb:(a0r b).length<1000000):a0b C0 108 [rD a,rD b] (rD (Nat.gcd a b)):=by
 refine a0c.walk w1 c9D rfl fun F=>?_
 change OkS C0 F none F _ ⟨a1n 0 [.sl false 1 ((a0r a).map a0t),.sl false 1 ((a0r b).map a0t)],[],0⟩ _;refine sR 0 ?_;refine OkS.seq ?_;refine OkS.block ?_;refine OkS.loop (α:=Nat × Nat × Nat) (fun p=>⟨[(0,.sl false 1 ((a0r p.1).map a0t)),(1,.sl false 1 ((a0r p.2.1).map a0t))],[],p.2.2⟩) (fun p=>p.2.1)
  (fun p=>Nat.gcd p.1 p.2.1=Nat.gcd a b/\(a0r p.1).length<1000000/\(a0r p.2.1).length<1000000) (a,b,_) ⟨rfl,fa,fb⟩ wkI ?_
 rintro ⟨x,y,n⟩ F ⟨h1,h2,h3⟩;dsimp only at h1 h2 h3 ⊢;have et:=b3c y;refine OkS.seq ?_;refine sZ 100 ?_;refine nwI et ?_
 by_cases hy:y=0
 ·rw [d9p (by simpa using hy)]
  subst hy;refine ifI ?_;refine exI ?_;refine sR 400 ?_;refine rtI ?_;refine a0a (d0:=rD x) ?_ IsPure.out;rw [<- h1,Nat.gcd_zero_right]
 ·rw [d9q hy]
  have cd:=d5I x y hy h2 h3;refine ifI ?_;refine skI ?_;refine OkS.block ?_;refine sR 200 ?_;refine cI cd ?_;refine rI 300 ?_;refine ⟨(y,x%y,_),⟨?_,h3,?_⟩,e0k x (by omega),wkI⟩
  ·dsimp only
   rw [<- h1,e2L x y,Nat.gcd_rec y x,e2L]
  ·exact e0f (a0H _ _ (Nat.mod_le x y)) h2
theorem b6n (neg:Bool)(l:List Nat)(h:Rd l)(hl:l.length<1000000000):a0b C0 111 [boo neg,rL l] (rZ (sg neg (a0i l))):=by
 refine a0c.walk w1 c4d rfl fun F=>?_
 rw [d5H];have ct:=a9H l h (by omega);generalize a0i l=n at *;have et:=b3c n;unfold rD at ct ⊢;unfold rL at ct ⊢;refine sR 0 ?_;refine sR 100 ?_;refine cI ct ?_;refine OkS.seq ?_;cases neg
 ·refine d8I w1 200 (by kernel_rfl) ?_
  refine gwI et ?_;refine rtI ?_;exact a0a (by simp) (c0A _ n)
 ·refine d8I w1 200 (by kernel_rfl) ?_
  refine gwI et ?_;refine rtI ?_;exact a0a (by simp) (c0A _ n)
theorem a4v (neg:Bool)(n:Nat)(h:(a0r n).length<1000000000):a0b C0 111 [boo neg,rD n] (rZ (sg neg n)):=by
 have:=b6n neg (a0r n) (a0E n) h
 rwa [a0u] at this
theorem b9Y (z:Int)(h:b6i z):a0b C0 107 [rZ z] (rZ (-z)):=by
 have cs:=a4v (!decide (z<0)) z.natAbs (e1G h (by decide));have e:rZ (sg (!decide (z<0)) z.natAbs)=rZ (-z):=by
  congr 1
  unfold sg
  by_cases hz:z<0
  ·rw [d9q hz];simp;omega
  ·rw [d9p hz];simp;omega
 rw [e] at cs;refine a0c.walk w1 c9C rfl fun F=>?_
 refine sR 0 ?_;refine sR 100 ?_;refine cI cs ?_;refine rtI ?_;exact a0a rfl IsPure.out
theorem a9E (x y:Int)(hx:b6i x)(hy:b6i y):a0b C0 49 [rZ x,rZ y] (rZ (x*y)):=by
 have cm:=c7p x.natAbs y.natAbs hx hy;have hl:(a0r (x.natAbs*y.natAbs)).length<1000000000:=e0f (a5X _ _) (by unfold b6i at hx hy;omega);have cs:=fun b=>a4v b (x.natAbs*y.natAbs) hl
 have e:sg (decide (x<0) != decide (y<0)) (x.natAbs*y.natAbs)=x*y:=by
  conv=>rhs;rw [<- b6m x,<- b6m y]
  generalize decide (x<0)=a;generalize decide (y<0)=b;unfold sg;cases a<;>cases b<;>simp [Int.neg_mul,Int.mul_neg]
 rw [<- e];refine a0c.walk w1 d4H rfl fun F=>?_
 refine sR 0 ?_;refine OkS.seq ?_;refine d8K w1 100 [0,1,2,3,4,5,6,7,8,9] [10,11] (by kernel_rfl) ?_;refine gwI kN ?_;refine a0q.same _ cm d9k ?_;refine gwI kN ?_;refine a0j.same _ (cs _) d9k ?_;refine stI ?_;refine rtI ?_;exact a0a rfl IsPure.out
theorem c2e {a b:Nat}(h:b<=a):decide (a6M (a:Int) (b:Int)>=0)=true:=d9q (by unfold a6M;split<;>(try split)<;>omega)
theorem c2f {a b:Nat}(h:a<b):decide (a6M (a:Int) (b:Int)>=0)=false:=d9p (by unfold a6M;split<;>(try split)<;>omega)
theorem d2W (x y:Int)(hx:b6i x)(hy:b6i y):a0b C0 48 [rZ x,rZ y] (rZ (x+y)):=by
 refine a0c.walk w1 d4G rfl fun F=>?_
 unfold b6i at hx hy;cases hs:(decide (x<0)==decide (y<0))
 ·have hs':decide (x<0)≠decide (y<0):=by simpa using hs
  have hs2:(x<0/\¬ y<0)\/(¬ x<0/\y<0):=by
   by_cases h1:x<0<;>by_cases h2:y<0<;>simp_all
  have cc:=c2g x.natAbs y.natAbs (by omega) (by omega);refine sR 0 ?_;refine OkS.seq ?_;refine sZ 100 ?_;refine nwI hs ?_;refine ifI ?_;refine skI ?_;refine OkS.seq ?_;refine sR 300 ?_;refine cI cc ?_;rcases d9H x.natAbs y.natAbs with h|h
  ·have cb:=d3p y.natAbs x.natAbs (e2M h) hy
   have cs:=a4v (decide (y<0)) (y.natAbs - x.natAbs) (e0f (a9m _ _) (by omega));have e:sg (decide (y<0)) (y.natAbs - x.natAbs)=x+y:=by
    unfold sg
    by_cases hy0:y<0
    ·rw [d9q hy0,d9l rfl];omega
    ·rw [d9p hy0,d9m (by decide)];omega
   rw [e] at cs;rw [c2f h];refine ifI ?_;refine skI ?_;refine OkS.seq ?_;refine d8K w1 500 [0,1,2,3,4,5,6] [7,8] (by kernel_rfl) ?_;refine gwI kN ?_;refine a0q.same _ cb d9k ?_;refine gwI kN ?_;refine a0j.same _ cs d9k ?_;refine stI ?_;refine rtI ?_;exact a0a rfl IsPure.out
  ·have cb:=d3p x.natAbs y.natAbs h hx
   have cs:=a4v (decide (x<0)) (x.natAbs - y.natAbs) (e0f (a9m _ _) (by omega));have e:sg (decide (x<0)) (x.natAbs - y.natAbs)=x+y:=by
    unfold sg
    by_cases hx0:x<0
    ·rw [d9q hx0,d9l rfl];omega
    ·rw [d9p hx0,d9m (by decide)];omega
   rw [e] at cs;rw [c2e h];refine ifI ?_;refine OkS.seq ?_;refine d8K w1 400 [0,1,2,3,4,5,6] [7,8] (by kernel_rfl) ?_;refine gwI kN ?_;refine a0q.same _ cb d9k ?_;refine gwI kN ?_;refine a0j.same _ cs d9k ?_;refine stI ?_;refine rtI ?_;exact a0a rfl IsPure.out
 ·have hs':decide (x<0)=decide (y<0):=by simpa using hs
  have ca:=d3W x.natAbs y.natAbs hx hy;have cs:=a4v (decide (x<0)) (x.natAbs+y.natAbs) (e0f (a9l _ _) (by omega));have e:sg (decide (x<0)) (x.natAbs+y.natAbs)=x+y:=by
   unfold sg
   by_cases hx0:x<0
   ·have hy0:y<0:=d9N (hs'.symm.trans (d9q hx0))
    rw [d9q hx0,d9l rfl];omega
   ·have hy0:¬ y<0:=d9I (hs'.symm.trans (d9p hx0))
    rw [d9p hx0,d9m (by decide)];omega
  rw [e] at cs;refine sR 0 ?_;refine OkS.seq ?_;refine sZ 100 ?_;refine nwI hs ?_;refine ifI ?_;refine OkS.seq ?_;refine d8K w1 200 [0,1,2,3,4,5,6] [7,8] (by kernel_rfl) ?_;refine gwI kN ?_;refine a0q.same _ ca d9k ?_;refine gwI kN ?_;refine a0j.same _ cs d9k ?_;refine stI ?_;refine rtI ?_;exact a0a rfl IsPure.out
theorem b4j (k m:Nat):a2v (k+1) m []=a2v k (m / 10) []++[UInt8.ofNat (48+m%10)]:=by
 rw [<- a8A (k+1) m [] (.inr (Nat.succ_pos k))];unfold a2v c7z
 by_cases h:m / 10=0
 ·rw [d9l h,d9l h];simp
 ·rw [d9m h,d9m h]
  rw [e0D,d9Z,e1a,Nat.add_sub_add_right,e0J]
theorem b4l:∀ (k hi d:Nat),hi≠0->d<10^k->Lib.decDigits (hi*10^k+d)=Lib.decDigits hi++a2v k d []
 | 0,hi,d,_,hd=>by
  have h0:d=0:=by simpa using hd
  subst h0;rw [e2V,e1z,e0W];simp [a2v,c7z]
 | k+1,hi,d,hh,hd=>by
  have e1:hi*10^(k+1)=10*(hi*10^k):=by rw [e0h,<- d9Y,d9O]
  have h1:1<=10^k:=Nat.pow_pos (by decide);have h2:1<=hi*10^k:=e2h (e0r hh) h1;have h3:¬ hi*10^(k+1)+d<10:=by omega
  have h4:d / 10<10^k:=by rw [e0h] at hd;omega
  rw [b4j,<- e0J,<- b4l k hi (d / 10) hh h4];rw [Lib.decDigits,dif_neg h3,e1]
  congr 2
  ·omega
  ·congr 1;omega
theorem c9j (hi d:Nat)(h:hi≠0)(hd:d<RB):Lib.decDigits (d+RB*hi)=Lib.decDigits hi++a2v 9 d []:=by
 have:=b4l 9 hi d h (e0a hd (by decide))
 rw [<- this]
 congr 1
 rw [d9O,e2K]
theorem a8B {l:List Nat}(h:Rd l):(Lib.decDigits (a0i l)).length<=9*l.length+1:=by
 have h1:=a1l h;have e:RB^l.length=10^(9*l.length):=by rw [Nat.pow_mul]
 rw [e] at h1;refine a2c _ _ (e1G h1 ?_);exact Nat.pow_lt_pow_right (by decide) (e1L _)
theorem b9K (neg:Bool)(n:Nat)(h:neg=true->n≠0):Lib.itoa (sg neg n)=if neg then 45::Lib.decDigits n else Lib.decDigits n:=by
 unfold Lib.itoa sg;cases neg
 ·simp only [e1k,if_false]
  rw [d9m (by omega)];rfl
 ·have:=h rfl
  simp only [if_true];rw [d9l (by omega),e2G];rfl
theorem d3t (neg:Bool)(n:Nat)(h:neg=true->n≠0)(hl:(a0r n).length<1000000):a0b C0 110 [.agg [boo neg,rD n]] (str (sb (Lib.itoa (sg neg n)))):=by
 refine a0c.walk w1 c9F rfl fun F=>?_
 rw [b9K neg n h];change OkS C0 F none F _ ⟨a1n 0 [.agg [boo neg,.sl false 1 ((a0r n).map a0t)]],[],0⟩ _;have vn:=a0u n;have wn:=a0E n;have tp:=fun k a=>a4s n (k:=k) (a:=a)
 generalize a0r n=l at *;subst vn;rcases hc:l.length with _|m
 ·have e0:l=[]:=e0d hc
  subst e0;have hn:neg=false:=by cases neg;rfl;exact d9n rfl (h rfl)
  subst hn;have e1:Lib.decDigits (a0i [])=[48]:=by unfold Lib.decDigits a0i;rw [dif_pos (by decide)];rfl
  rw [d9m (by decide),e1];refine sR 0 ?_;refine OkS.seq ?_;refine sR 100 ?_;refine ifI ?_;refine sR 200 ?_;refine rtI ?_;exact a0a rfl IsPure.out
 ·obtain ⟨y,hy⟩:=a3A (l:=l) (i:=m) (by omega)
  have yl:=wn y (d9r hy);have y0:=tp m y hc hy;have hy':=a7F hy;have el:(((l.map a0t).length:Nat):Int)=((m+1:Nat):Int):=by rw [d9s,hc]
  have et:(((m+1:Nat):Int)==0)=false:=d9D.2 (by omega);have w0:IntKind.i64.wrap (((m+1:Nat):Int) - 1)=(m:Int):=by rw [wI (by omega) (by omega)];omega
  have w2:IntKind.i64.wrap (((m+1:Nat):Int) - 2)=(m:Int) - 1:=by rw [wI (by omega) (by omega)];omega
  have cd:=a5i y 1 (by unfold RB at yl;omega);rw [b8z] at cd;have wr0:IntKind.i64.wrap ((((l.map a0t).length:Nat):Int) - 1)=(m:Int):=by rw [el,w0]
  have ed:l.drop m=[y]:=by
   rw [e0n (by omega),e0R (by omega)];rw [d9t (by omega)] at hy;rw [e1K hy]
  refine sR 0 ?_;refine OkS.seq ?_;refine sZ 100 ?_;refine nwI (ff2 el et) ?_;refine ifI ?_;refine skI ?_;refine sZ 300 ?_;refine gwI (ff4 el w0 wr0 kN) ?_;refine ixI kT hy' ?_;refine gwI kN ?_;refine a0j.same _ cd d9k ?_;refine stI ?_;have ev:a0i (l.drop m)=y:=by rw [ed];simp [a0i]
  refine OkS.seq ?_;refine sZ 400 ?_;refine nwI (ff2 el w2) ?_;refine OkS.block ?_;refine OkS.loop (α:=Nat × Nat) (fun p=>⟨[(1,.optr 0 0 2 0 0),(3,str (sb (Lib.decDigits (a0i (l.drop p.1))))),(4,i64 ((p.1:Int) - 1))],[⟨0,0,105,2,[.agg [boo neg,.sl false 1 (l.map a0t)]]⟩],p.2⟩) (fun p=>p.1)
   (fun p=>p.1<=m/\a0i (l.drop p.1)≠0) (m,_) ⟨d9y _,by dsimp only;rw [ev];exact y0⟩ (by dsimp only;rw [ev];exact wkI) ?_
  rintro ⟨k,n1⟩ F ⟨h1,h2⟩;dsimp only at h1 h2 ⊢;clear cd;refine OkS.seq ?_;refine sR 500 ?_;refine ifI ?_
  (refine brI (fun h20=>?_) (fun h20=>?_))<;>(try simp only [d9w,d9x] at h20)<;>(try simp only [h20])
  ·obtain ⟨j,rfl⟩:∃ j,k=j+1:=⟨k - 1,by
    have:(k:Int) - 1>=0:=by simpa using h20
    omega⟩
   have wj:((j+1:Nat):Int) - 1=(j:Int):=by omega
   obtain ⟨d,hd⟩:=a3A (l:=l) (i:=j) (by omega);have hd':=a7F hd;have dl:=wn d (d9r hd);have c9:=a5i d 9 (by unfold RB at dl;omega);have eD:Lib.decDigits (a0i (l.drop (j+1)))++a2v 9 d []=Lib.decDigits (a0i (l.drop j)):=by rw [a5s hd,c9j _ _ h2 dl]
   have hlen:=a8B (l:=l.drop j) fun a ha=>wn a (e1I ha)
   rw [<- eD,d9Z,e0x] at hlen;have h3:a0i (l.drop j)≠0:=by
    rw [a5s hd]
    have:0<RB*a0i (l.drop (j+1)):=e2h (by decide) (e0r h2)
    omega
   have z1:=a0x (Lib.decDigits (a0i (l.drop (j+1))));have z2:=a8t (a2v 9 d []);have wi:IntKind.i64.wrap ((j:Int) - 1)=(j:Int) - 1:=wI (by omega) (by omega);rw [wj];refine skI ?_;refine OkS.seq ?_;refine OkS.block ?_;refine d8I w1 700 (by kernel_rfl) ?_;refine gwI kN ?_;refine ixI kT hd' ?_;refine gwI kN ?_;refine a0j.same _ c9 d9k ?_;refine stI ?_;rw [a4J,eD];refine d8I w1 600 (by kernel_rfl) ?_;refine nwI wi ?_;exact ⟨(j,_),⟨by dsimp only;omega,h3⟩,by dsimp only;omega,wkI⟩
  ·have hk:k=0:=by
    have:¬ ((k:Int) - 1>=0):=by simpa using h20
    omega
   subst hk;rw [e1c] at h2 ⊢;have hlen:=a8B wn;have z1:=a0x (Lib.decDigits (a0i l));have z2:(⟨#[45]⟩:ByteArray).size=1:=rfl;refine exI ?_;refine OkS.seq ?_;refine OkS.seq ?_;cases neg
   ·refine rI 800 ?_
    refine ifI ?_;refine skI ?_;rw [d9m (by decide)];refine sR 1000 ?_;refine rtI ?_;exact a0a rfl IsPure.out
   ·refine rI 800 ?_
    refine ifI ?_;rw [d9l rfl];refine sR 900 ?_;refine rtI ?_;refine a0a ?_ IsPure.out;show str ((⟨([45]:List UInt8).toArray⟩:ByteArray)++⟨(Lib.decDigits (a0i l)).toArray⟩)=_;rw [a4J];rfl
theorem c6a (z:Int)(h:b6i z):a0b C0 110 [rZ z] (str (sb (Lib.itoa z))):=by
 have:=d3t (decide (z<0)) z.natAbs (fun h=>by have:=d9N h;omega) h
 rwa [b6m] at this
theorem d9f {C:Ctx}{f:Nat}{ds ds':List D}{Φ:D->Prop}{H:Hp}{n:Nat}(Hf:Hp)(hc:a0c C f ds' Φ)(hH:FzH H Hf H Hf)(hv:FzL H Hf ds ds')
  (hp:ArePure ds'):a0z C f ds H n (fun d' H' n'=>Φ d'/\H'=Hf/\n'=n+1):=by
 refine ⟨hc.1,fun F ρ w vs m hfr hg hvs hr=>?_⟩;obtain ⟨m',hO,hN⟩:=hH.mem m;obtain ⟨l1,l2⟩:=hv.spec;refine (hc.2 (Own F.X ρ Hf) w vs m.g (d9V m.gn m.size) (fun b hb=>m'.own_lt hb) (by omega) fun i x hx=>?_).mono ?_
 ·have hi:i<ds'.length:=(List.getElem?_eq_some_iff.1 hx).1
  have hd0:ds[i]? = some ds[i]:=d9t (by omega);exact hp.out x (d9r hx) _ _ _ _ _ ((l2 i _ x hd0 hx).rep m hO hN (hr i _ hd0))
 ·rintro e w' ⟨v,d',rfl,hb,hd',rep⟩
  have hb2:∀ (b:Nat) (cs:Array Value) (T:Nat) (fz:Nat × Nat),w.heap[b]? = some (.cells cs T fz)->∃ (cs':Array Value) (fz':Nat × Nat),w'.heap[b]? = some (.cells cs' T fz')/\cs'.size=cs.size:=fun b cs T fz hh=>⟨cs,_,by
   rw [hb.block b (Array.getElem?_eq_some_iff.1 hh).1];exact hh,rfl⟩
  have x:Ext ρ (Own F.X ρ H) w ρ (Own F.X ρ Hf) w':=⟨hb.size,fun _ _ _ h=>h,fun b hb' hO2=>⟨fun h=>hO2 (hO b h),hb.block b hb'⟩,hb2⟩
  have x':Ext ρ (Own F.X ρ Hf) w ρ (Own F.X ρ Hf) w':=⟨hb.size,fun _ _ _ h=>h,fun b hb' hO2=>⟨hO2,hb.block b hb'⟩,hb2⟩
  refine ⟨v,_,Hf,n+1,ρ,rfl,⟨hd',rfl,rfl⟩,m'.same x' hb.os hb.tape hb.output hb.block,x,fun k g hg'=>hfr k g (by omega),fun e he=>?_,rep.mono ⟨d9y _,fun _ _ _ h=>(by cases h),fun b _ hO2=>⟨hO2,rfl⟩,fun b cs T fz h=>⟨cs,_,h,rfl⟩⟩⟩;obtain ⟨e',h1,h2,h3,_⟩:=hH.names e he
  have:=hg e' h1
  omega
theorem b7y {l : List UInt8} {i : Nat} {c : UInt8} (hc : l[i]? = some c) (hi : i <= a0f l) : (((c.toNat : Nat) : Int) == 47) = decide (i = a0f l) := by
  have e1 : (((c.toNat : Nat) : Int) == 47) = (c == 47) := by
    rw [e1j, e1i, e1i, <- UInt8.toNat_inj]
    exact ⟨fun h => by have : c.toNat = 47 := by omega
                       exact this, fun h => by rw [h]; rfl⟩
  rw [e1]
  unfold a0f at hi ⊢
  clear e1
  induction l generalizing i with
  | nil => cases hc
  | cons a l ih =>
    rw [e2D] at hi ⊢
    cases i with
    | zero =>
      cases hc
      by_cases h : c = 47
      · subst h; rfl
      · have h1 : (c != 47) = true := by simpa using h
        have h2 : (c == 47) = false := by simpa using h
        rw [d9l h1, h2, d9u, d9p (by omega)]
    | succ i =>
      by_cases h : a = 47
      · subst h
        exact d9n hi (by simp)
      · have h1 : (a != 47) = true := by simpa using h
        rw [d9l h1, d9u] at hi ⊢
        rw [ih hc (by omega)]
        exact e0C.2 (by omega)
theorem b1Y (l:List UInt8)(h:l.all a0D=true)(hl:l.length<=18):a0b C0 102 [str (sb l)] (i64 (dv l:Int)):=by
 refine a0c.walk w1 c9x rfl fun F=>?_
 have hsz:=a0x l;refine sR 0 ?_;refine sR 100 ?_;refine OkS.seq ?_;refine sR 200 ?_;refine OkS.block ?_;refine OkS.loop (α:=Nat × Nat) (fun p=>⟨[(0,str (sb l)),(3,i64 (dv (l.take p.1):Int)),(4,i64 (p.1:Int))],[],p.2⟩) (fun p=>l.length - p.1) (fun p=>p.1<=l.length) (0,_) (d9U _) wkI ?_;rintro ⟨i,n⟩ F hi;dsimp only at hi ⊢;refine OkS.seq ?_;refine sZ 300 ?_;refine nwI hsz ?_;refine ifI ?_
 (refine brI (fun hlt=>?_) (fun hlt=>?_))<;>(try simp only [d9w,d9x] at hlt)<;>(try simp only [hlt])
 ·have hi2:i<l.length:=by
   have:=d9N hlt
   omega
  obtain ⟨c,hc⟩:∃ c,l[i]? = some c:=⟨l[i],d9t hi2⟩
  have hcd:a0D c=true:=d9W.1 h c (d9r hc);obtain ⟨c1,c2⟩:=a2G hcd;have hg:(sb l).data.toList.getD i 0=c:=by
   show (l.toArray.toList).getD i 0=c;simp [hc]
  have hdl:dv (l.take i)<10^17:=by
   have:=a5R (l.take i) (d9W.2 fun a ha=>d9W.1 h a (e1R ha))
   rw [d9J,e1n hi] at this;exact e0a this (e0w (by decide) (by omega))
  have hnx:dv (l.take (i+1))=dv (l.take i)*10+(c.toNat - 48):=by
   rw [e0Z,hc];show dv (l.take i++[c])=_;rw [a4Q];simp [dv,dvF]
  have k1:IntKind.i64.wrap (10*(dv (l.take i):Int))=((10*dv (l.take i):Nat):Int):=by rw [wI (by omega) (by omega)];omega
  have k2:IntKind.i64.wrap ((c.toNat:Nat):Int)=((c.toNat:Nat):Int):=wI (by omega) (by omega);have k3:IntKind.i64.wrap (((10*dv (l.take i):Nat):Int)+((c.toNat:Nat):Int))=((10*dv (l.take i)+c.toNat:Nat):Int):=by rw [wI (by omega) (by omega)];omega
  have k4:IntKind.i64.wrap (((10*dv (l.take i)+c.toNat:Nat):Int) - 48)=((dv (l.take (i+1)):Nat):Int):=by rw [hnx,wI (by omega) (by omega)];omega
  have wi:IntKind.i64.wrap ((i:Int)+1)=((i+1:Nat):Int):=wI (by omega) (by omega);refine skI ?_;refine OkS.seq ?_;refine OkS.block ?_;refine d8I w1 500 (by kernel_rfl) ?_;refine nwI (ff6 kN hg k1 k2 k3 k4) ?_;refine d8I w1 400 (by kernel_rfl) ?_;refine nwI wi ?_;exact ⟨(i+1,_),hi2,by dsimp only;omega,wkI⟩
 ·have hi2:i=l.length:=by
   have:=d9I hlt
   omega
  subst hi2;rw [d9G (d9y _)];refine exI ?_;refine sR 600 ?_;refine rtI ?_;exact a0a rfl IsPure.out
theorem b4R (l:List UInt8)(hl:l.length<=1000000000):a0b C0 101 [str (sb l)] (i64 (a0f l:Int)):=by
 refine a0c.walk w1 c9w rfl fun F=>?_
 have hsz:=a0x l;refine sR 0 ?_;refine OkS.seq ?_;refine sR 100 ?_;refine OkS.block ?_;refine OkS.loop (α:=Nat × Nat) (fun p=>⟨[(0,str (sb l)),(3,i64 (p.1:Int))],[],p.2⟩) (fun p=>l.length - p.1) (fun p=>p.1<=a0f l) (0,_) (d9U _) wkI ?_;rintro ⟨i,n⟩ F hi;dsimp only at hi ⊢;have hsl:=a2L l;refine OkS.seq ?_;refine sZ 200 ?_;refine nwI hsz ?_;refine ifI ?_
 (refine brI (fun hlt=>?_) (fun hlt=>?_))<;>(try simp only [d9w,d9x] at hlt)<;>(try simp only [hlt])
 ·have hi2:i<l.length:=by
   have:=d9N hlt
   omega
  obtain ⟨c,hc⟩:∃ c,l[i]? = some c:=⟨l[i],d9t hi2⟩
  have hg:(sb l).data.toList.getD i 0=c:=by
   show (l.toArray.toList).getD i 0=c;simp [hc]
  have wi:IntKind.i64.wrap ((i:Int)+1)=((i+1:Nat):Int):=wI (by omega) (by omega);have ht:(((c.toNat:Nat):Int)==47)=decide (i=a0f l):=b7y hc hi;refine skI ?_;refine OkS.seq ?_;refine OkS.block ?_;refine sZ 400 ?_;refine nwI (ff3 kN hg ht) ?_
  by_cases he:i=a0f l
  ·rw [d9q he]
   refine ifI ?_;refine sR 500 ?_;refine rtI ?_;exact a0a (by rw [he]) IsPure.out
  ·rw [d9p he]
   refine ifI ?_;refine skI ?_;refine d8I w1 300 (by kernel_rfl) ?_;refine nwI wi ?_;exact ⟨(i+1,_),by dsimp only;omega,by dsimp only;omega,wkI⟩
 ·have hi2:i=l.length:=by
   have:=d9I hlt
   omega
  refine exI ?_;refine sZ 600 ?_;refine nwI hsz ?_;refine rtI ?_;exact a0a (by congr 3;omega) IsPure.out
theorem b5I {H Hf:Hp}{K g T:Nat}{l:List Nat}{N:Nat}(hl:l.length=N)(he:Hp.get H K=some ⟨K,g,T,1,l.map a0t⟩:=by exact rfl)(hn:Hp.get Hf K=none:=by exact rfl):Fz H Hf (.osl K g 1 0 N) (.sl false 1 (l.map a0t)):=by
 subst hl;have key:∀ (j:Nat) (d d':D),(l.map a0t)[0+j]? = some d->(l.map a0t)[j]? = some d'->d=d':=fun j d d' h1 h2=>by
  rw [d9S] at h1;rw [h1] at h2;exact e1K h2
 refine .osl (e:=⟨K,g,T,1,l.map a0t⟩) he hn rfl rfl (by simp) (by simp) (fun j d d' h1 h2=>by rw [key j d d' h1 h2]) fun j d d' q c c' h1 h2 h3 h4=>?_
 rw [key j d d' h1 h2] at h3;rw [h3] at h4;cases h4;exact Fz.refl _
theorem a8e (c : UInt8) (l : List UInt8) : (((c.toNat : Nat) : Int) == 45) = a2i (c :: l) := by
  show _ = (c == 45)
  rw [e1j, e1i, e1i, <- UInt8.toNat_inj]
  exact ⟨fun h => by have : c.toNat = 45 := by omega
                     exact this, fun h => by rw [h]; rfl⟩
abbrev b6E:Ent:=⟨0,0,105,2,[.agg [boo false,a1w]]⟩
theorem c9o {x:List UInt8}(h:9<x.length):dv x=dv (x.take (x.length - 9))*RB+dv (x.drop (x.length - 9)):=by
 conv=>lhs;rw [<- e0H (x.length - 9) x,a4Q,e0x,show x.length - (x.length - 9)=9 by omega]
theorem d2Y (A B t n v:Nat):(A*B+t)*B^n+v=A*B^(n+1)+(v+B^n*t):=by
 rw [e0e,d9Y,e0h,d9O B,d9O t];omega
theorem b0L {x x0:List UInt8}{w:List Nat}(h9:9<x.length)(g1:x.all a0D=true)(g2:x.length+w.length*9=x0.length)(g3:Rd w)(g4:dv x0=dv x*RB^w.length+a0i w) :
  (x.take (x.length - 9)).all a0D=true/\(x.take (x.length - 9)).length+(w++[dv (x.drop (x.length - 9))]).length*9=x0.length/\Rd (w++[dv (x.drop (x.length - 9))]) /\
  dv x0=dv (x.take (x.length - 9))*RB^(w++[dv (x.drop (x.length - 9))]).length+a0i (w++[dv (x.drop (x.length - 9))]):=by
 refine ⟨d9W.2 fun a ha=>d9W.1 g1 a (e1R ha),?_,Rd.append g3 fun a ha=>?_,?_⟩
 ·rw [d9J,d9Z,e1a];omega
 ·simp only [d9F,e0j,or_false] at ha
  subst ha
  have:=a5R (x.drop (x.length - 9)) (d9W.2 fun a ha=>d9W.1 g1 a (e1I ha))
  rwa [e0x,show x.length - (x.length - 9)=9 by omega] at this
 ·rw [g4,c9o h9,a0X rfl,d9Z,e1a]
  exact d2Y _ _ _ _ _
theorem c0s {x x0:List UInt8}{w:List Nat}(h9:x.length<=9)(g1:x.all a0D=true)(g3:Rd w)(g4:dv x0=dv x*RB^w.length+a0i w):Rd (w++[dv x])/\a0i (w++[dv x])=dv x0:=by
 refine ⟨Rd.append g3 fun a ha=>?_,?_⟩
 ·simp only [d9F,e0j,or_false] at ha
  subst ha;exact e0a (a5R x g1) (e0w (by decide) h9)
 ·rw [g4,a0X rfl,d9O,e2K]
theorem b8a {w:List Nat}{a:Nat}:List.take w.length (w.map a0t)++[i64 (a:Int)]=(w++[a]).map a0t:=by
 rw [d9G (by rw [d9s];exact d9y _),e0Q];rfl
theorem c0t (l:List UInt8)(hd:(a0l l).all a0D=true)(hl:l.length<=1000000):a0b C0 106 [str (sb l)] (rZ (rv l)):=by
 have er:rv l=sg (a2i l) (dv (a0l l)):=rfl;rw [er];refine a0c.walk w1 c9B rfl fun F=>?_
 have hsz:=a0x l;have hdl:(a0l l).length<=l.length:=by
  unfold a0l;split
  ·rw [e0x];omega
  ·exact d9y _
 refine sR 0 ?_;refine d8X (α:=Nat) (fun n=>⟨[(0,str (sb l)),(2,.optr 0 0 2 0 0),(3,boo (a2i l))],[b6E],n⟩) (fun _=>True) ?_ ?_
 ·cases l with
  | nil =>
   have e0:(sb []).size=0:=rfl;have e1:decide (((0:Nat):Int)>0)=false:=rfl;refine d8I w1 100 (by kernel_rfl) ?_;refine gwI (ff2 e0 e1) ?_;refine gwI (ff2 kF e1) ?_;exact ⟨trivial,_,trivial,wkI⟩
  | cons c l =>
   have hpos:(sb (c::l)).size=l.length+1:=hsz;have e0:decide (((sb (c::l)).size:Int)>0)=true:=d9q (by omega);have e1:((((c::l).getD (Int.toNat 0) 0).toNat:Int)==45)=a2i (c::l):=a8e c l;refine d8I w1 100 (by kernel_rfl) ?_;refine gwI e0 ?_;refine gwI (ff3 kT e0 e1) ?_;exact ⟨trivial,_,trivial,wkI⟩
 rintro n0 -;refine d8X (α:=Nat) (fun n=>⟨[(0,str (sb (a0l l))),(2,.optr 0 0 2 0 0),(3,boo (a2i l))],[b6E],n⟩) (fun _=>True) ?_ ?_
 ·refine sR 200 ?_
  cases hb:a2i l
  ·have ed:a0l l=l:=by unfold a0l;rw [hb];rfl
   rw [ed];refine ifI ?_;refine skI ?_;exact ⟨rfl,_,trivial,wkI⟩
  ·have ed:a0l l=l.drop 1:=by unfold a0l;rw [hb];rfl
   have hl0:1<=l.length:=by
    cases l with
    | nil=>cases hb
    | cons c l=>rw [d9u];omega
   have ee:(sb l).extract (Int.toNat 1) l.length=sb (a0l l):=by
    rw [a2r,d9G (d9y _),ed];rfl
   refine ifI ?_;refine d8I w1 300 (by kernel_rfl) ?_;refine gwI (ff2 hsz kN) ?_;rw [ee];exact ⟨trivial,_,trivial,wkI⟩
 rintro n1 -;generalize a2i l=neg at *;generalize a0l l=x0 at *;clear er hsz;have hx0:x0.length<=1000000:=d9V hdl hl;clear hdl hl l;refine sR 400 ?_;refine OkS.seq ?_;refine OkS.block ?_;refine OkS.loop (α:=Bool × List UInt8 × List Nat × Nat × Nat) (fun p=>match p with
  | (false,x,_,_,n)=>⟨[(0,str (sb x)),(2,.optr 0 0 2 0 0),(3,boo neg),(4,a1w)],[b6E],n⟩
  | (true,x,w,g,n)=>⟨[(0,str (sb x)),(2,.optr 0 0 2 0 0),(3,boo neg),(4,.osl 608 g 1 0 w.length)],[⟨608,g,3,1,w.map a0t⟩,b6E],n⟩) (fun p=>p.2.1.length)
  (fun p=>p.2.1.all a0D=true/\p.2.1.length+p.2.2.1.length*9=x0.length/\Rd p.2.2.1/\dv x0=dv p.2.1*RB^p.2.2.1.length+a0i p.2.2.1/\(p.1=false->p.2.2.1=[]))
  (false,x0,[],0,_) ⟨hd,rfl,(fun a ha=>by cases ha),by simp [a0i],fun _=>rfl⟩ wkI ?_
 rintro ⟨t,x,w,g,n2⟩ F ⟨g1,g2,g3,g4,g5⟩;dsimp only at g1 g2 g3 g4 g5;have hsz:=a0x x
 by_cases h9:9<x.length
 ·have ht:decide ((x.length:Int)>9)=true:=d9q (by omega)
  have cv:=b1Y (x.drop (x.length - 9)) (d9W.2 fun a ha=>d9W.1 g1 a (e1I ha)) (by rw [e0x];omega);have wk:IntKind.i64.wrap ((x.length:Int) - 9)=((x.length - 9:Nat):Int):=by rw [wI (by omega) (by omega)];omega
  have wr:IntKind.i64.wrap (((sb x).size:Int) - 9)=((x.length - 9:Nat):Int):=by rw [hsz,wk]
  have e1:(sb x).extract (x.length - 9) x.length=sb (x.drop (x.length - 9)):=by rw [a2r,d9G (d9y _)]
  have e2:(sb x).extract 0 (x.length - 9)=sb (x.take (x.length - 9)):=by rw [a2r,e1c]
  cases t
  ·dsimp only
   obtain rfl:=g5 rfl;refine OkS.seq ?_;refine sZ 500 ?_;refine nwI (ff2 hsz ht) ?_;refine ifI ?_;refine skI ?_;refine OkS.block ?_;refine sZ 600 ?_;refine gwI (ff5 hsz wk wr kN e1) ?_;refine a0j.same _ cv d9k ?_;refine stI ?_;have J:=b0L h9 g1 g2 g3 g4;rw [e0p] at J;refine d8I w1 700 (by kernel_rfl) ?_;refine gwI (ff4 hsz wk wr kN) ?_;refine gwI e2 ?_;exact ⟨(true,x.take (x.length - 9),[dv (x.drop (x.length - 9))],n2+11,_),⟨J.1,J.2.1,J.2.2.1,J.2.2.2,fun h=>by cases h⟩,by dsimp only;rw [d9J];omega,wkI⟩
  ·dsimp only
   clear g5;have J:=b0L h9 g1 g2 g3 g4;have ew:(w.map a0t).length=w.length:=d9s _;have el:w.length+1=(w++[dv (x.drop (x.length - 9))]).length:=by rw [d9Z];rfl
   refine OkS.seq ?_;refine sZ 500 ?_;refine nwI (ff2 hsz ht) ?_;refine ifI ?_;refine skI ?_;refine OkS.block ?_;refine sZ 600 ?_;refine gwI (ff5 hsz wk wr kN e1) ?_;refine a0j.same _ cv d9k ?_;refine stI ?_;rw [b8a,el];refine d8I w1 700 (by kernel_rfl) ?_;refine gwI (ff4 hsz wk wr kN) ?_;refine gwI e2 ?_;exact ⟨(true,x.take (x.length - 9),w++[dv (x.drop (x.length - 9))],n2+11,_),⟨J.1,J.2.1,J.2.2.1,J.2.2.2,fun h=>by cases h⟩,by dsimp only;rw [d9J];omega,wkI⟩
 ·have ht:decide ((x.length:Int)>9)=false:=d9p (by omega)
  have cv:=b1Y x g1 (by omega);obtain ⟨r1,r2⟩:=c0s (by omega) g1 g3 g4;have cs:=b6n neg (w++[dv x]) r1 (by rw [d9Z,e1a];omega);rw [r2] at cs;cases t
  ·dsimp only
   obtain rfl:=g5 rfl;refine OkS.seq ?_;refine sZ 500 ?_;refine nwI (ff2 hsz ht) ?_;refine ifI ?_;refine exI ?_;refine sR 800 ?_;refine a0j.same _ cv d9k ?_;refine stI ?_;refine a0j.own _ (d9f [b6E] cs (.drop (.keep .nil)) ⟨.refl _,b5I rfl,trivial⟩ d9k) ?_;rintro d H' n' ⟨rfl,rfl,rfl⟩;refine stI ?_;refine rtI ?_;exact a0a rfl IsPure.out
  ·dsimp only
   clear g5;have ew:(w.map a0t).length=w.length:=d9s _;have el:w.length+1=(w++[dv x]).length:=by rw [d9Z];rfl
   refine OkS.seq ?_;refine sZ 500 ?_;refine nwI (ff2 hsz ht) ?_;refine ifI ?_;refine exI ?_;refine sR 800 ?_;refine a0j.same _ cv d9k ?_;refine stI ?_;rw [b8a,el];refine a0j.own _ (d9f [b6E] cs (.drop (.keep .nil)) ⟨.refl _,b5I rfl,trivial⟩ d9k) ?_;rintro d H' n' ⟨rfl,rfl,rfl⟩;refine stI ?_;refine rtI ?_;exact a0a rfl IsPure.out
def isO (o:Option D):Bool:=match o with
 | some (.agg [.prim (.bool false),.sl false 1 [.prim (.int .i64 1)]])=>true
 | _=>false
theorem c2J {o:Option D}(h:isO o=true):o=some (rZ 1):=by
 have h1:a0r 1=[1]:=a4r (by decide) (by decide);unfold isO at h;split at h
 ·show _=some (D.agg [boo (decide ((1:Int)<0)),rL (a0r 1)])
  rw [h1];rfl
 ·cases h
theorem b7F:isO ((evF X1 1000 60).1 103 [i64 1])=true:=by kernel_rfl
theorem c1F:a0b C0 103 [i64 1] (rZ 1):=d9b a4C 1000 60 (c2J b7F)
def d2L (l:List UInt8):Int:=rv (a2q l)
def c9l (l:List UInt8):Int:=if a4D l then rv (a1I l) else 1
instance  (x y:Int):IsPure (.tup [rZ x,rZ y]):=⟨.tup fun d hd=>by
 simp only [d9F,e0j,or_false] at hd;rcases hd with rfl|rfl
 ·exact IsPure.out
 ·exact IsPure.out⟩
theorem a9f (l:List UInt8)(hn:(a0l (a2q l)).all a0D=true)(hd:(a0l (a1I l)).all a0D=true)(hl:l.length<=1000000):a0b C0 46 [str (sb l)] (.tup [rZ (d2L l),rZ (c9l l)]):=by
 refine a0c.walk w1 d4E rfl fun F=>?_
 have hsz:=a0x l;have cs:=b4R l (by omega);have hsl:=a2L l;have c1:=c0t (a2q l) hn (by unfold a2q;rw [d9J];omega);have c2:=c0t (a1I l) hd (by unfold a1I;rw [e0x];omega);have cw:=c1F;unfold d2L c9l;refine sR 0 ?_;refine sR 100 ?_;refine sR 200 ?_;refine cI cs ?_;cases hh:a4D l
 ·have he:a0f l=l.length:=by
   unfold a4D at hh
   have:=d9I hh
   omega
  have e0:(((a0f l:Nat):Int)==(l.length:Int))=true:=e1i.2 (by omega);have en:a2q l=l:=by unfold a2q;rw [he,d9G (d9y _)]
  rw [en] at c1 ⊢;refine OkS.seq ?_;refine sZ 300 ?_;refine nwI (ff2 hsz e0) ?_;refine ifI ?_;refine sR 400 ?_;refine cI c1 ?_;refine a0j.same _ cw d9k ?_;refine stI ?_;refine rtI ?_;exact a0a rfl IsPure.out
 ·have he:a0f l<l.length:=d9N hh
  have e0:(((a0f l:Nat):Int)==(l.length:Int))=false:=d9D.2 (by omega);have x1:(sb l).extract 0 (a0f l)=sb (a2q l):=by rw [a2r,e1c];rfl
  have x2:(sb l).extract (a0f l+1) l.length=sb (a1I l):=by rw [a2r,d9G (d9y _)];rfl
  have wk:IntKind.i64.wrap (((a0f l:Nat):Int)+1)=((a0f l+1:Nat):Int):=wI (by omega) (by omega);refine OkS.seq ?_;refine sZ 300 ?_;refine nwI (ff2 hsz e0) ?_;refine ifI ?_;refine skI ?_;refine OkS.seq ?_;refine d8K w1 500 [0,1,2,3,4,5,6,7] [8,9,10] (by kernel_rfl) ?_;refine gwI (ff5 hsz wk kN x1 x2) ?_;refine a0q.same _ c1 d9k ?_;refine gwI (ff5 hsz wk kN x1 x2) ?_;refine a0j.same _ c2 d9k ?_;refine stI ?_;refine rtI ?_;exact a0a rfl IsPure.out
def txt (r:Rat):List UInt8:=if r.den=1 then Lib.itoa r.num else Lib.itoa r.num++47::Lib.decDigits r.den
def qZ (x y:Int):Rat:=mkRat (if y<0 then -x else x) y.natAbs
theorem b1K {x:Int}{d:Nat}(hd:d≠0):(mkRat x d).num=sg (decide (x<0)) (x.natAbs / Nat.gcd x.natAbs d)/\(mkRat x d).den=d / Nat.gcd x.natAbs d:=by
 rw [mkRat,dif_neg hd,Rat.normalize_eq];refine ⟨?_,rfl⟩;dsimp only;have hg:0<Nat.gcd x.natAbs d:=e1D _ (e0r hd);obtain ⟨p,hp⟩:=Nat.gcd_dvd_left x.natAbs d;have e1:x.natAbs / Nat.gcd x.natAbs d=p:=by
  refine Nat.div_eq_of_eq_mul_right hg hp
 have e2:x=(Nat.gcd x.natAbs d:Int)*sg (decide (x<0)) p:=by
  have h0:(x.natAbs:Int)=(Nat.gcd x.natAbs d:Int)*(p:Int):=by rw [<- e0O,<- hp]
  unfold sg
  by_cases hx:x<0
  ·rw [d9q hx,d9l rfl,Int.mul_neg,<- h0];omega
  ·rw [d9p hx,d9m (by decide),<- h0];omega
 rw [e1]
 conv=>lhs;arg 1;rw [e2]
 rw [Int.mul_ediv_cancel_left _ (by omega)]
theorem b5Z (q:Nat):((((((a0r q).map a0t).length:Nat):Int)==1)=true/\∃ a,(a0r q)[0]? = some a/\(((a:Nat):Int)==1)=decide (q=1))\/((((((a0r q).map a0t).length:Nat):Int)==1)=false/\q≠1):=by
 rw [d9s]
 by_cases h:(a0r q).length=1
 ·refine .inl ⟨e1i.2 (by omega),?_⟩
  obtain ⟨a,ha⟩:=a3A (l:=a0r q) (i:=0) (by omega);refine ⟨a,ha,?_⟩;have e:a0r q=[a]:=by
   obtain ⟨b,hb⟩:=List.length_eq_one_iff.1 h;rw [hb] at ha ⊢;cases ha;rfl
  have e2:q=a:=by rw [<- a0u q,e];simp [a0i]
  rw [e2];rw [e1j,e1i,decide_eq_true_iff];omega
 ·refine .inr ⟨d9D.2 (by omega),fun hq=>h ?_⟩
  rw [hq,a4r (by decide) (by decide)];rfl
theorem b0w (x y:Int)(hy0:y≠0)(hx:b6i x)(hy:b6i y):a0b C0 47 [rZ x,rZ y] (str (sb (txt (qZ x y)))):=by
 refine a0c.walk w1 d4F rfl fun F=>?_
 unfold qZ;refine sR 0 ?_;refine d8X (α:=Nat) (fun n=>⟨[(2,.optr 0 0 2 0 0),(3,.optr 1 1 2 0 0)],[⟨1,1,105,2,[.agg [boo false,rD y.natAbs]]⟩,⟨0,0,105,2,[rZ (if y<0 then -x else x)]⟩],n⟩) (fun _=>True) ?_ ?_
 ·by_cases h:y<0
  ·have cx:=b9Y x hx
   have cy:=b9Y y hy;have e1:rZ (-y)=.agg [boo false,rD y.natAbs]:=by
    show D.agg [boo (decide (-y<0)),rD (-y).natAbs]=_;rw [d9p (by omega),e2G]
   rw [e1] at cy;rw [d9l h];refine sZ 100 ?_;refine nwI (d9q h) ?_;refine ifI ?_;refine d8K w1 200 [0,1,2] [3,4,5] (by kernel_rfl) ?_;refine gwI kN ?_;refine a0q.same _ cx d9k ?_;refine gwI kN ?_;refine a0j.same _ cy d9k ?_;refine stI ?_;exact ⟨trivial,_,trivial,wkI⟩
  ·have e1:rZ y=.agg [boo false,rD y.natAbs]:=by
    show D.agg [boo (decide (y<0)),rD y.natAbs]=_;rw [d9p h]
   rw [d9m h];refine sZ 100 ?_;refine nwI (d9p h) ?_;refine ifI ?_;refine skI ?_;refine ⟨rfl,5,trivial,?_⟩;rw [<- e1];exact wkI
 rintro n0 -;obtain ⟨z,hz⟩:∃ z,z=(if y<0 then -x else x):=⟨_,rfl⟩
 have hza:z.natAbs=x.natAbs:=by rw [hz];split<;>omega
 obtain ⟨d,hd⟩:∃ d,d=y.natAbs:=⟨_,rfl⟩
 have hd0:d≠0:=by omega
 unfold b6i at hx hy;rw [<- hza] at hx;rw [<- hd] at hy;rw [<- hz,<- hd];clear hz hza hd hy0;clear x y;have cg:=b5n z.natAbs d hx hy;obtain ⟨qn,qd⟩:=b1K (x:=z) hd0;have hg:0<Nat.gcd z.natAbs d:=e1D _ (e0r hd0);have hgl:(a0r (Nat.gcd z.natAbs d)).length<1000000:=e0f (a0H _ _ (e2S _ (e0r hd0))) hy;have c4:=d5I z.natAbs (Nat.gcd z.natAbs d) (by omega) hx hgl;have c5:a0b C0 109 [rD d,rD (Nat.gcd z.natAbs d)] (.tup [.sl false 1 ((a0r (d / Nat.gcd z.natAbs d)).map a0t),rD (d%Nat.gcd z.natAbs d)]):=d5I d (Nat.gcd z.natAbs d) (by omega) hy hgl;have hpl:(a0r (z.natAbs / Nat.gcd z.natAbs d)).length<1000000:=e0f (a0H _ _ (e1e _ _)) hx;have hql:(a0r (d / Nat.gcd z.natAbs d)).length<1000000:=e0f (a0H _ _ (e1e _ _)) hy;have etx:txt (mkRat z d)=if d / Nat.gcd z.natAbs d=1 then Lib.itoa (sg (decide (z<0)) (z.natAbs / Nat.gcd z.natAbs d)) else Lib.itoa (sg (decide (z<0)) (z.natAbs / Nat.gcd z.natAbs d))++47::Lib.decDigits (d / Nat.gcd z.natAbs d):=by
  unfold txt;rw [qn,qd]
 rw [etx];clear etx qn qd hg hgl;generalize z.natAbs / Nat.gcd z.natAbs d=p at *;generalize d / Nat.gcd z.natAbs d=q at *;generalize z.natAbs%Nat.gcd z.natAbs d=r1 at *;generalize d%Nat.gcd z.natAbs d=r2 at *;generalize Nat.gcd z.natAbs d=gg at *;have c6:=a4v (decide (z<0)) p (by omega);have hab:(sg (decide (z<0)) p).natAbs=p:=by unfold sg;split<;>omega
 have c7:=c6a (sg (decide (z<0)) p) (by unfold b6i;rw [hab];exact hpl);have c8:=a4v false q (by omega);have c9:=c6a (sg false q) (by unfold b6i;show (a0r q).length<1000000;exact hql);have e9:Lib.itoa (sg false q)=Lib.decDigits q:=by rw [b9K false q (by simp)];rfl
 rw [e9] at c9;have l1:=a8B (a0E p);rw [a0u] at l1;have l2:=a8B (a0E q);rw [a0u] at l2;have l3:(Lib.itoa (sg (decide (z<0)) p)).length<=(Lib.decDigits p).length+1:=by
  unfold Lib.itoa;split
  ·rw [hab,d9u];exact d9y _
  ·rw [show (sg (decide (z<0)) p).toNat=p by omega];omega
 generalize sg (decide (z<0)) p=pz at *;have s1:=a0x (Lib.itoa pz);have s2:=a0x (Lib.decDigits q);have s3:(⟨#[47]⟩:ByteArray).size=1:=rfl;have s4:(sb (Lib.itoa pz)++(⟨#[47]⟩:ByteArray)).size=(sb (Lib.itoa pz)).size+(⟨#[47]⟩:ByteArray).size:=ByteArray.size_append;generalize Lib.itoa pz=t1 at *;generalize Lib.decDigits q=t2 at *;refine sR 300 ?_;refine cI cg ?_;refine sR 400 ?_;refine cI c4 ?_;refine sR 500 ?_;refine cI c5 ?_;refine sR 600 ?_;refine cI c6 ?_;refine cI c7 ?_;have ht:=b5Z q;rcases ht with ⟨h1,a,ha,h2⟩|⟨h1,h2⟩
 ·have ha':=a7F ha
  refine OkS.seq ?_;refine sZ 700 ?_;refine gwI h1 ?_;refine ixI kT ha' ?_;refine gwI (ff2 h1 h2) ?_
  by_cases hq:q=1
  ·rw [d9q hq,d9l hq]
   refine ifI ?_;refine sR 800 ?_;refine rtI ?_;exact a0a rfl IsPure.out
  ·rw [d9p hq,d9m hq]
   refine ifI ?_;refine skI ?_;refine sR 900 ?_;refine a0j.same _ c8 d9k ?_;refine stI ?_;refine a0j.same _ c9 d9k ?_;refine stI ?_;refine rtI ?_;refine a0a ?_ IsPure.out;show str ((⟨t1.toArray⟩++⟨([47]:List UInt8).toArray⟩:ByteArray)++⟨t2.toArray⟩)=_;rw [a4J,a4J,e0J];rfl
 ·rw [d9m h2]
  refine OkS.seq ?_;refine sZ 700 ?_;refine nwI h1 ?_;refine gwI kF ?_;refine ifI ?_;refine skI ?_;refine sR 900 ?_;refine a0j.same _ c8 d9k ?_;refine stI ?_;refine a0j.same _ c9 d9k ?_;refine stI ?_;refine rtI ?_;refine a0a ?_ IsPure.out;show str ((⟨t1.toArray⟩++⟨([47]:List UInt8).toArray⟩:ByteArray)++⟨t2.toArray⟩)=_;rw [a4J,a4J,e0J];rfl
set_option maxHeartbeats 2000000
theorem a7V (k:Nat)(h:k<10):(UInt8.ofNat (48+k)).toNat=48+k:=by
 rw [UInt8.toNat_ofNat'];omega
theorem a1u:∀ n:Nat,(Lib.decDigits n).all a0D=true/\dv (Lib.decDigits n)=n/\(Lib.decDigits n)≠[]:=fun n=>by
 induction n using Nat.strongRecOn with
 | _ n ih =>
  have one:∀ k,k<10->a0D (UInt8.ofNat (48+k))=true:=fun k hk=>by
   unfold a0D;rw [a7V k hk,d9B];exact ⟨Nat.ble_eq_true_of_le (by omega),Nat.ble_eq_true_of_le (by omega)⟩
  have vone:∀ k,k<10->dv [UInt8.ofNat (48+k)]=k:=fun k hk=>by
   show 0*10+((UInt8.ofNat (48+k)).toNat - 48)=k;rw [a7V k hk];omega
  rw [Lib.decDigits];split
  ·rename_i h
   exact ⟨by rw [e1f,one n h];rfl,vone n h,by simp⟩
  ·rename_i h
   obtain ⟨h1,h2,h3⟩:=ih (n / 10) (by omega);refine ⟨by rw [e2I,h1,e1f,one _ (e0k _ (by decide))];rfl,?_,by simp⟩;rw [a4Q,h2,vone _ (e0k _ (by decide)),e1a];omega
theorem c2j {n:Nat}(h:n≠0):∃ c l,Lib.decDigits n=c::l/\c≠48:=by
 induction n using Nat.strongRecOn with
 | _ n ih =>
  rw [Lib.decDigits];split
  ·rename_i h1
   refine ⟨_,_,rfl,fun hh=>?_⟩
   have:=congrArg UInt8.toNat hh
   rw [a7V n h1] at this
   have:48+n=48:=this
   omega
  ·rename_i h1
   obtain ⟨c,l,e,hc⟩:=ih (n / 10) (by omega) (by omega);rw [e];exact ⟨c,l++_,rfl,hc⟩
theorem c9m {c:UInt8}(h:a0D c=true):c≠47/\c≠45:=by
 obtain ⟨h1,h2⟩:=a2G h;exact ⟨fun hh=>by subst hh;simp at h1,fun hh=>by subst hh;simp at h1⟩
theorem a6u (z:Int):a2i (Lib.itoa z)=decide (z<0)/\a0l (Lib.itoa z)=Lib.decDigits z.natAbs:=by
 unfold Lib.itoa
 by_cases h:z<0
 ·rw [d9l h,d9q h]
  exact ⟨rfl,rfl⟩
 ·rw [d9m h,d9p h,show z.toNat=z.natAbs by omega]
  have h1:=a6U (a1u z.natAbs).1;exact ⟨h1,a1U (a1u z.natAbs).1⟩
theorem c0Z (z:Int):rv (Lib.itoa z)=z:=by
 unfold rv;rw [(a6u z).1,(a6u z).2,(a1u z.natAbs).2.1]
 by_cases h:z<0
 ·rw [d9q h,d9l rfl];omega
 ·rw [d9p h,d9m (by decide)];omega
theorem a7w (z:Int):∀ c∈Lib.itoa z,(c != 47)=true:=fun c hc=>by
 have hd:∀ n,∀ c∈Lib.decDigits n,(c != 47)=true:=fun n c h=>by
  have:=(c9m (d9W.1 (a1u n).1 c h)).1
  simpa using this
 unfold Lib.itoa at hc;split at hc
 ·rcases d9F.1 hc with rfl|h
  ·rfl
  ·exact hd _ c h
 ·exact hd _ c hc
theorem a4w {p:UInt8->Bool}:∀ {l:List UInt8} (m:List UInt8),(∀ c∈l,p c=true)->(l++m).takeWhile p=l++m.takeWhile p
 | [],_,_=>rfl
 | a::l,m,h=>by
  rw [e0M,e2D,d9l (h a e0T),a4w m fun c hc=>h c (e0t _ hc)];rfl
theorem a5e (r:Rat):a0f (txt r)=(Lib.itoa r.num).length:=by
 unfold a0f txt;split
 ·have:=a4w (p:=(· != 47)) [] (a7w r.num)
  rw [e0D] at this;rw [this];simp
 ·rw [a4w (p:=(· != 47)) _ (a7w r.num)]
  simp
theorem a9I (r:Rat):a2q (txt r)=Lib.itoa r.num:=by
 unfold a2q;rw [a5e];unfold txt;split
 ·exact d9G (d9y _)
 ·exact List.take_left' rfl
theorem a7o (r:Rat):a1I (txt r)=if r.den=1 then [] else Lib.decDigits r.den:=by
 unfold a1I;rw [a5e];unfold txt;split
 ·exact e0R (Nat.le_succ _)
 ·rw [List.drop_append]
  rw [e0R (Nat.le_succ _),e1y];rfl
theorem b1U (r:Rat):a4D (txt r) = !decide (r.den=1):=by
 unfold a4D;rw [a5e];unfold txt
 by_cases h:r.den=1
 ·rw [d9l h,d9q h,d9p (by omega)];rfl
 ·rw [d9m h,d9p h,d9Z,d9u,d9q (by omega)];rfl
theorem b1X (r:Rat):d2L (txt r)=r.num:=by unfold d2L;rw [a9I,c0Z]
theorem b6t (r:Rat):c9l (txt r)=r.den:=by
 unfold c9l;rw [b1U,a7o]
 by_cases h:r.den=1
 ·rw [d9q h,h];rfl
 ·rw [d9p h,d9m h,d9l (show (!false)=true from rfl),b0T (a1u _).1,(a1u _).2.1]
theorem a8k (r:Rat):(a0l (a2q (txt r))).all a0D=true:=by rw [a9I,(a6u _).2];exact (a1u _).1
theorem a8j (r:Rat):(a0l (a1I (txt r))).all a0D=true:=by
 rw [a7o];split
 ·rfl
 ·rw [a1U (a1u _).1];exact (a1u _).1
theorem b9J (z:Int):Lib.itoa z≠[]:=by
 unfold Lib.itoa;split
 ·simp
 ·exact (a1u _).2.2
theorem c6d (r:Rat):txt r≠[]:=by
 unfold txt;split
 ·exact b9J _
 ·simp
theorem b1W (r:Rat):a2i (txt r)=decide (r.num<0):=by
 rw [<- (a6u r.num).1];unfold txt;split
 ·rfl
 ·have:=b9J r.num
  cases h:Lib.itoa r.num with
  | nil=>exact d9n h this
  | cons c l=>rfl
theorem b6u (r:Rat):decide (txt r=[48])=decide (r.num=0):=by
 refine e0C.2 ⟨fun h=>?_,fun h=>?_⟩
 ·have h1:=b1X r
  rw [h] at h1;rw [<- h1];decide
 ·have:r.den=1:=by
   have:=r.reduced
   rw [h] at this;simpa using this
  unfold txt;rw [d9l this,h];show Lib.decDigits 0=[48];rw [Lib.decDigits,dif_pos (by decide)];rfl
abbrev rR (r:Rat):D:=str (sb (txt r))
def c3C (r:Rat):Prop:=(txt r).length<=1000000
theorem c1i (r:Rat)(hl:c3C r):a0b C0 121 [rR r] (i64 (a9y r)):=by
 refine a0c.walk w1 c9L rfl fun F=>?_
 have hsz:=a0x (txt r);unfold c3C at hl;have ez:=a5Z (txt r) [48];rw [b6u] at ez;have en:=b1W r;refine sR 0 ?_;refine OkS.seq ?_;refine OkS.seq ?_;have ez2:a1G (sb (txt r)) ⟨#[48]⟩=decide (r.num=0):=ez;have hne:=c6d r;refine d8I w1 100 (by kernel_rfl) ?_;refine nwI ez2 ?_
 by_cases h0:r.num=0
 ·rw [d9q h0]
  refine ifI ?_;refine sR 200 ?_;refine rtI ?_;exact a0a (by unfold a9y;rw [h0];rfl) IsPure.out
 ·rw [d9p h0]
  have hpos:0<(txt r).length:=List.length_pos_iff.2 hne;have e0:decide (((sb (txt r)).size:Int)>0)=true:=d9q (by omega);have e1:((((txt r).getD (Int.toNat 0) 0).toNat:Int)==45)=decide (r.num<0):=by
   rw [<- en];cases ht:txt r with
   | nil=>exact d9n ht hne
   | cons c l=>exact a8e c l
  refine ifI ?_;refine skI ?_;refine OkS.seq ?_;refine sZ 300 ?_;refine gwI e0 ?_;refine gwI (ff3 kT e0 e1) ?_
  by_cases hn:r.num<0
  ·rw [d9q hn]
   refine ifI ?_;refine sR 400 ?_;refine rtI ?_;exact a0a (by unfold a9y;congr 3;omega) IsPure.out
  ·rw [d9p hn]
   refine ifI ?_;refine skI ?_;refine sR 500 ?_;refine rtI ?_;exact a0a (by unfold a9y;congr 3;omega) IsPure.out
theorem b1V {r:Rat}(h:r.num<0):(txt r).drop 1=txt (-r)/\(txt (-r)).length+1=(txt r).length:=by
 have e:Lib.itoa r.num=45::Lib.itoa (-r.num):=by
  unfold Lib.itoa;rw [d9l h,d9m (by omega),show (-r.num).toNat=r.num.natAbs by omega]
 have e2:txt r=45::txt (-r):=by
  unfold txt;rw [Rat.neg_den,Rat.neg_num,e];split<;>rfl
 rw [e2];exact ⟨rfl,rfl⟩
theorem c3F {r:Rat}(h:0<r.num):txt (-r)=45::txt r:=by
 obtain ⟨h1,h2⟩:=b1V (r:=-r) (by rw [Rat.neg_num];omega);rw [Rat.neg_neg] at h1;have h3:=b1W (-r);rw [d9q (by rw [Rat.neg_num];omega)] at h3;cases ht:txt (-r) with
 | nil=>rw [ht] at h3;cases h3
 | cons c l =>
  rw [ht] at h1 h3
  have:c=45:=by simpa [a2i] using h3
  rw [this,<- h1];rfl
theorem c7W (r:Rat):decide (a9y r<0)=decide (r.num<0):=e0C.2 (by unfold a9y;omega)
theorem c7V (r:Rat):(a9y r==0)=decide (r.num=0):=by
 rw [e1j,e1i,decide_eq_true_iff];unfold a9y;omega
theorem d5t (r:Rat)(hl:c3C r):a0b C0 187 [rR r] (rR (-r)):=by
 refine a0c.walk w1 d0q rfl fun F=>?_
 have hsz:=a0x (txt r);have cs:=c1i r hl;unfold c3C at hl;have e1:=c7W r;have e2:=c7V r;refine sR 0 ?_;refine OkS.seq ?_;refine sR 100 ?_;refine cI cs ?_;rw [e1]
 by_cases h:r.num<0
 ·obtain ⟨t1,t2⟩:=b1V h
  have ee:(sb (txt r)).extract (Int.toNat 1) (txt r).length=sb (txt (-r)):=by
   rw [a2r,d9G (d9y _),<- t1];rfl
  rw [d9q h];refine ifI ?_;refine sZ 200 ?_;refine gwI (ff2 hsz kN) ?_;rw [ee];refine rtI ?_;exact a0a rfl IsPure.out
 ·rw [d9p h]
  refine ifI ?_;refine skI ?_;refine OkS.seq ?_;refine sR 300 ?_;refine cI cs ?_;rw [e2]
  by_cases h0:r.num=0
  ·rw [d9q h0]
   refine ifI ?_;refine sR 400 ?_;refine rtI ?_;refine a0a ?_ IsPure.out
   have:r=0:=Rat.num_eq_zero.1 h0
   rw [this];rfl
  ·have tp:=c3F (r:=r) (by omega)
   have z3:(⟨#[45]⟩:ByteArray).size=1:=rfl;rw [d9p h0];refine ifI ?_;refine skI ?_;refine sR 500 ?_;refine rtI ?_;refine a0a ?_ IsPure.out;show str ((⟨([45]:List UInt8).toArray⟩:ByteArray)++⟨(txt r).toArray⟩)=str (sb (txt (-r)));rw [a4J,tp];rfl
def a5F (r:Rat):Rat:=if r.num<0 then -r else r
theorem a7T (r:Rat):(a5F r).num=r.num.natAbs/\(a5F r).den=r.den:=by
 unfold a5F;split
 ·rw [Rat.neg_num,Rat.neg_den];exact ⟨by omega,rfl⟩
 ·exact ⟨by omega,rfl⟩
def qk (r:Rat):Bool:=!decide (20<(txt r).length) && !(decide (9<a0f (txt (a5F r)))||decide (10<(txt (a5F r)).length - a0f (txt (a5F r))))
theorem c1V (r:Rat):(txt (a5F r)).length<=(txt r).length:=by
 unfold a5F;split
 ·rename_i h
  have:=(b1V h).2
  omega
 ·exact d9y _
theorem a8p (r:Rat):Lib.itoa (a5F r).num=Lib.decDigits r.num.natAbs:=by
 rw [(a7T r).1];unfold Lib.itoa;rw [d9m (by omega)];rfl
theorem a6D {r:Rat}(h:qk r=true):r.num.natAbs<10^9/\r.den<10^9:=by
 unfold qk at h;simp only [d9B,d9w,e1C,e1H] at h;obtain ⟨h1,h2,h3⟩:=h;have hs:=a5e (a5F r);rw [a8p] at hs;have hd:=a7o (a5F r);rw [(a7T r).2] at hd;have hdl:(a1I (txt (a5F r))).length=(txt (a5F r)).length - (a0f (txt (a5F r))+1):=by unfold a1I;rw [e0x]
 have d1:=a5R _ (a1u r.num.natAbs).1;have d2:=a5R _ (a1u r.den).1;rw [(a1u _).2.1] at d1 d2;refine ⟨e0a d1 (e0w (by decide) (by omega)),?_⟩
 by_cases h1:r.den=1
 ·rw [h1];decide
 ·rw [d9m h1] at hd
  rw [hd] at hdl;exact e0a d2 (e0w (by decide) (by omega))
theorem b1L (r:Rat)(hl:c3C r):a0b C0 44 [rR r] (.tup [i64 (if qk r then r.num else 0),i64 (if qk r then (r.den:Int) else 0),boo (qk r)]):=by
 refine a0c.walk w1 d4C rfl fun F=>?_
 have hsz:=a0x (txt r);unfold c3C at hl;have hne:=c6d r;have hpos:0<(txt r).length:=List.length_pos_iff.2 hne;refine sR 0 ?_;refine sR 100 ?_;refine OkS.seq ?_;refine OkS.seq ?_
 by_cases h20:20<(txt r).length
 ·have e2:decide (((txt r).length:Int)>20)=true:=d9q (by omega)
  have eq:qk r=false:=by unfold qk;rw [d9q h20];rfl
  rw [eq];refine d8I w1 200 (by kernel_rfl) ?_;refine nwI (ff2 hsz e2) ?_;refine ifI ?_;refine sR 300 ?_;refine rtI ?_;exact a0a rfl IsPure.out
 ·have e2:decide (((txt r).length:Int)>20)=false:=d9p (by omega)
  have eq:qk r = !(decide (9<a0f (txt (a5F r)))||decide (10<(txt (a5F r)).length - a0f (txt (a5F r)))):=by unfold qk;rw [d9p h20];rfl
  have en:=b1W r;refine d8I w1 200 (by kernel_rfl) ?_;refine nwI (ff2 hsz e2) ?_;refine ifI ?_;refine skI ?_;refine d8X (α:=Nat) (fun n=>⟨[(5,rR r),(6,boo (decide (r.num<0)))],[],n⟩) (fun _=>True) ?_ ?_
  ·have e0:decide (((sb (txt r)).size:Int)>0)=true:=d9q (by omega)
   have e1:((((txt r).getD (Int.toNat 0) 0).toNat:Int)==45)=decide (r.num<0):=by
    rw [<- en];cases ht:txt r with
    | nil=>exact d9n ht hne
    | cons c l=>exact a8e c l
   refine d8I w1 400 (by kernel_rfl) ?_;refine gwI e0 ?_;refine gwI (ff3 kT e0 e1) ?_;exact ⟨trivial,_,trivial,wkI⟩
  rintro n0 -;refine d8X (α:=Nat) (fun n=>⟨[(5,rR (a5F r)),(6,boo (decide (r.num<0)))],[],n⟩) (fun _=>True) ?_ ?_
  ·refine sR 500 ?_
   by_cases h:r.num<0
   ·obtain ⟨t1,t2⟩:=b1V h
    have ea:a5F r = -r:=by unfold a5F;rw [d9l h]
    have ee:(sb (txt r)).extract (Int.toNat 1) (txt r).length=sb (txt (a5F r)):=by
     rw [ea,a2r,d9G (d9y _),<- t1];rfl
    rw [d9q h];refine ifI ?_;refine d8I w1 600 (by kernel_rfl) ?_;refine gwI (ff2 hsz kN) ?_;rw [ee];exact ⟨trivial,_,trivial,wkI⟩
   ·have ea:a5F r=r:=by unfold a5F;rw [d9m h]
    rw [d9p h,ea];refine ifI ?_;refine skI ?_;exact ⟨rfl,_,trivial,wkI⟩
  rintro n1 -;have hal:=c1V r;have hsa:=a5e (a5F r);rw [a8p] at hsa;have hn:=a9I (a5F r);rw [a8p] at hn;have hd:=a7o (a5F r);rw [(a7T r).2] at hd;have hh:=b1U (a5F r);rw [(a7T r).2] at hh;unfold a4D at hh;have hle:=a2L (txt (a5F r));have cs:=b4R (txt (a5F r)) (by omega);have hszA:=a0x (txt (a5F r));clear hsz hne hpos e2 en;generalize hT:txt (a5F r)=T at *;have eR:rR (a5F r)=str (sb T):=by rw [<- hT]
  rw [eR];clear hT eR;refine sR 700 ?_;refine cI cs ?_;have w8:IntKind.i64.wrap ((T.length:Int) - (a0f T:Int))=((T.length - a0f T:Nat):Int):=by rw [wI (by omega) (by omega)];omega
  have eb:decide (((T.length - a0f T:Nat):Int)>10)=decide (10<T.length - a0f T):=e0C.2 (by omega)
  by_cases h9:9<a0f T
  ·have e8:decide ((a0f T:Int)>9)=true:=d9q (by omega)
   rw [d9q h9] at eq;have eq2:qk r=false:=eq;rw [eq2];refine OkS.seq ?_;refine sZ 800 ?_;refine nwI e8 ?_;refine gwI kT ?_;refine ifI ?_;refine sR 900 ?_;refine rtI ?_;exact a0a rfl IsPure.out
  have e8:decide ((a0f T:Int)>9)=false:=d9p (by omega);rw [d9p h9] at eq
  by_cases h10:10<T.length - a0f T
  ·rw [d9q h10] at eq eb
   have eq2:qk r=false:=eq;rw [eq2];refine OkS.seq ?_;refine sZ 800 ?_;refine nwI e8 ?_;refine gwI (ff4 kF hszA w8 eb) ?_;refine ifI ?_;refine sR 900 ?_;refine rtI ?_;exact a0a rfl IsPure.out
  rw [d9p h10] at eq eb;have eq2:qk r=true:=eq;rw [eq2];refine OkS.seq ?_;refine sZ 800 ?_;refine nwI e8 ?_;refine gwI (ff4 kF hszA w8 eb) ?_;refine ifI ?_;refine skI ?_;have hd1:=a1u r.num.natAbs;have hd2:=a1u r.den;have c1:=b1Y (Lib.decDigits r.num.natAbs) hd1.1 (by omega);rw [hd1.2.1] at c1;have e10:(sb T).extract 0 (a0f T)=sb (Lib.decDigits r.num.natAbs):=by
   rw [a2r,e1c,<- hn];rfl
  refine sZ 1000 ?_;refine gwI (ff2 hszA kN) ?_;refine gwI e10 ?_;refine a0j.same _ c1 d9k ?_;refine stI ?_;refine d8X (α:=Nat) (fun n=>⟨[(6,boo (decide (r.num<0))),(8,i64 (r.num.natAbs:Int)),(9,i64 (r.den:Int))],[],n⟩) (fun _=>True) ?_ ?_
  ·by_cases hden:r.den=1
   ·rw [d9q hden] at hh
    have e11:decide ((a0f T:Int)<(T.length:Int))=false:=d9p (by have:=d9I (p:=a0f T<T.length) hh;omega);rw [hden];refine sZ 1100 ?_;refine nwI (ff2 hszA e11) ?_;refine ifI ?_;refine skI ?_;exact ⟨rfl,_,trivial,wkI⟩
   ·rw [d9p hden] at hh
    rw [d9m hden] at hd;have hlt:=d9N (p:=a0f T<T.length) hh;have e11:decide ((a0f T:Int)<(T.length:Int))=true:=d9q (by omega);have wk:IntKind.i64.wrap (((a0f T:Nat):Int)+1)=((a0f T+1:Nat):Int):=wI (by omega) (by omega);have e12:(sb T).extract (a0f T+1) T.length=sb (Lib.decDigits r.den):=by
     rw [a2r,d9G (d9y _),<- hd];rfl
    have hdl:(Lib.decDigits r.den).length<=18:=by
     rw [<- hd];unfold a1I;rw [e0x];omega
    have c2:=b1Y (Lib.decDigits r.den) hd2.1 hdl;rw [hd2.2.1] at c2;refine sZ 1100 ?_;refine nwI (ff2 hszA e11) ?_;refine ifI ?_;refine d8I w1 1200 (by kernel_rfl) ?_;refine gwI (ff3 hszA wk kN) ?_;refine gwI e12 ?_;refine a0j.same _ c2 d9k ?_;refine stI ?_;exact ⟨trivial,_,trivial,wkI⟩
  rintro n2 -;obtain ⟨b1,b2⟩:=a6D eq2;refine d8X (α:=Nat) (fun n=>⟨[(8,i64 r.num),(9,i64 (r.den:Int))],[],n⟩) (fun _=>True) ?_ ?_
  ·refine sR 1300 ?_
   by_cases h:r.num<0
   ·have wn:IntKind.i64.wrap (0 - (r.num.natAbs:Int))=r.num:=by rw [wI (by omega) (by omega)];omega
    rw [d9q h];refine ifI ?_;refine d8I w1 1400 (by kernel_rfl) ?_;refine nwI wn ?_;exact ⟨trivial,_,trivial,wkI⟩
   ·have en:(r.num.natAbs:Int)=r.num:=by omega
    rw [d9p h,en];refine ifI ?_;refine skI ?_;exact ⟨rfl,_,trivial,wkI⟩
  rintro n3 -;refine sR 1500 ?_;refine rtI ?_;exact a0a rfl IsPure.out
theorem c1e (b:Bool)(n:Nat):(sg b n).natAbs=n:=by unfold sg;split<;>omega
theorem d3l (z:Int)(d:Nat)(hz:z.natAbs<=4000000000000000000)(hd0:0<d)(hd:d<=4000000000000000000):a0b C0 45 [i64 z,i64 (d:Int)] (rR (mkRat z d)):=by
 refine a0c.walk w1 d4D rfl fun F=>?_
 have hg:0<Nat.gcd z.natAbs d:=e1D _ hd0;have hgl:Nat.gcd z.natAbs d<=d:=e2S _ hd0;obtain ⟨qn,qd⟩:=b1K (x:=z) (d:=d) (by omega);have etx:txt (mkRat z d)=if d / Nat.gcd z.natAbs d=1 then Lib.itoa (mkRat z d).num else Lib.itoa (mkRat z d).num++47::Lib.decDigits (d / Nat.gcd z.natAbs d):=by
  unfold txt;rw [qd]
 have q1:z.tdiv (Nat.gcd z.natAbs d:Nat)=(mkRat z d).num:=by
  rw [qn];obtain ⟨p,hp⟩:=Nat.gcd_dvd_left z.natAbs d;have e1:z.natAbs / Nat.gcd z.natAbs d=p:=Nat.div_eq_of_eq_mul_right hg hp;have e2:z=(Nat.gcd z.natAbs d:Int)*sg (decide (z<0)) p:=by
   have h0:(z.natAbs:Int)=(Nat.gcd z.natAbs d:Int)*(p:Int):=by rw [<- e0O,<- hp]
   unfold sg
   by_cases hx:z<0
   ·rw [d9q hx,d9l rfl,Int.mul_neg,<- h0];omega
   ·rw [d9p hx,d9m (by decide),<- h0];omega
  rw [e1]
  conv=>lhs;arg 1;rw [e2]
  rw [Int.mul_tdiv_cancel_left _ (by omega)]
 have q2:(d:Int).tdiv (Nat.gcd z.natAbs d:Nat)=((d / Nat.gcd z.natAbs d:Nat):Int):=rfl;have q5:(mkRat z d).num.natAbs<=4000000000000000000:=by
  rw [qn];rw [c1e];exact d9V (e1e _ _) hz
 have q4:d / Nat.gcd z.natAbs d<=4000000000000000000:=d9V (e1e _ _) hd;have hx:0<d / Nat.gcd z.natAbs d:=Nat.div_pos hgl hg;have ert:rR (mkRat z d)=str (sb (if d / Nat.gcd z.natAbs d=1 then Lib.itoa (mkRat z d).num else Lib.itoa (mkRat z d).num++47::Lib.decDigits (d / Nat.gcd z.natAbs d))):=by rw [<- etx]
 rw [ert];clear etx ert qn qd;generalize (mkRat z d).num=pz at *;refine fR 0 ?_;refine d8V ⟨[(0,i64 z),(1,i64 d),(4,str ⟨#[]⟩)],[],50⟩ ?_ ?_
 ·refine OkS.seq ?_
  have l1:(decide (z < -4000000000000000000))=false:=by apply d9p;omega
  have l2:(decide (z>4000000000000000000))=false:=by apply d9p;omega
  have l3:(decide ((d:Int) < -4000000000000000000))=false:=by apply d9p;omega
  have l4:(decide ((d:Int)>4000000000000000000))=false:=by apply d9p;omega
  refine d8I w1 100 (by kernel_rfl) ?_
  repeat' (first|(refine And.intro (by exact sdI) ?_;(refine dsI ?_);(try simp only [b6C,c2b,l1,l2,l3,l4]))|((refine brI (fun hb=>?_) (fun hb=>?_))<;>(try simp only [d9w,d9x] at hb)<;>(try simp only [hb])<;>(refine dsI ?_)))
  refine ifI ?_;refine skI ?_;exact And.intro (by trivial) (wkI)
 refine d8V ⟨[(0,i64 z),(1,i64 d),(4,str ⟨#[]⟩)],[],100⟩ ?_ ?_
 ·refine fR 300 ?_
  refine ifI ?_;have e27:(decide ((d:Int)<0))=false:=by simp
  rw [e27];refine skI ?_;exact And.intro (by trivial) (wkI)
 refine OkS.seq ?_;have m1:max z (IntKind.i64.wrap (0 - z))=(z.natAbs:Int):=by rw [wI (by omega) (by omega)];omega
 refine d8I w1 500 (by kernel_rfl) ?_;refine mwI m1 ?_;refine dI (c7P z.natAbs d (by omega) (by omega)) ?_;refine OkS.seq ?_;refine d8K w1 600 [0,1,2,3,4,5,6] [7] (by kernel_rfl) ?_;refine nxI ?_;have w1p:IntKind.i64.wrap pz=pz:=wI (by omega) (by omega);rw [q1,q2,w1p,wN (d9V q4 (by decide))];clear q1 q2 hg hgl;generalize d / Nat.gcd z.natAbs d=y at *;refine fR 700 ?_;have c1:=a5i pz.natAbs 1 (by omega);have c2:=a5i y 1 (by omega);rw [b8z] at c1 c2;have s1:=a2c 18 pz.natAbs (e0f q5 (by decide));have s2:=a2c 18 y (e0f q4 (by decide));have z1:=a8t (Lib.decDigits pz.natAbs);have z2:=a8t (Lib.decDigits y);have m1:max pz (IntKind.i64.wrap (0 - pz))=(pz.natAbs:Int):=by rw [wI (by omega) (by omega)];omega
 refine d8X (α:=Nat) (fun n=>⟨[(0,i64 pz),(1,i64 (y:Int)),(4,str ⟨#[]⟩),(6,str (sb (if pz<0 then [45] else [])))],[],n⟩) (fun _=>True) ?_ ?_
 ·refine fR 800 ?_
  by_cases h:pz<0
  ·rw [d9q h,d9l h]
   refine ifI ?_;refine fI 900 ?_;exact ⟨rfl,_,trivial,wkI⟩
  ·rw [d9p h,d9m h]
   refine ifI ?_;refine skI ?_;exact ⟨rfl,_,trivial,wkI⟩
 rintro n0 -;have ei:(if pz<0 then [45] else [])++Lib.decDigits pz.natAbs=Lib.itoa pz:=by
  unfold Lib.itoa;split
  ·rfl
  ·rw [show pz.toNat=pz.natAbs by omega];rfl
 have z3:=a0x (if pz<0 then [45] else []);have z4:(if pz<0 then [45] else []:List UInt8).length<=1:=by split<;>simp
 have z5:(Lib.itoa pz).length<=20:=by rw [<- ei,d9Z];omega
 refine sZ 1000 ?_;refine mwI m1 ?_;refine dI c1 ?_;rw [a4J,ei];have z6:=a8t (Lib.itoa pz);generalize Lib.itoa pz=t1 at *;clear ei z3 z4;refine d8X (α:=Nat) (fun n=>⟨[(6,str (sb (if y=1 then t1 else t1++47::Lib.decDigits y)))],[],n⟩) (fun _=>True) ?_ ?_
 ·refine fR 1100 ?_
  by_cases hy:y=1
  ·rw [d9l hy]
   have e54:(decide ((y:Int)>1))=false:=by apply d9p;omega
   rw [e54];refine ifI ?_;refine skI ?_;exact ⟨rfl,_,trivial,wkI⟩
  ·rw [d9m hy]
   have e54:(decide ((y:Int)>1))=true:=by apply d9q;omega
   have s3:(⟨#[47]⟩:ByteArray).size=1:=rfl;have sc:((⟨t1.toArray⟩:ByteArray)++(⟨#[47]⟩:ByteArray)).size=(⟨t1.toArray⟩:ByteArray).size+(⟨#[47]⟩:ByteArray).size:=ByteArray.size_append;rw [e54];refine ifI ?_;refine fI 1200 ?_;refine dI c2 ?_;have e47:(⟨#[47]⟩:ByteArray)=⟨([47]:List UInt8).toArray⟩:=rfl;rw [e47,a4J,a4J,e0J,e0M,e0p];exact ⟨rfl,_,trivial,wkI⟩
 rintro n1 -;refine fR 1300 ?_;refine rtI ?_;exact a0a rfl IsPure.out
theorem b4D {n k:Nat}(h:(a0h n).length<=k):(a0r n).length<=3*k:=by
 refine a1x (e0a (a3g n) ?_);rw [Nat.pow_mul];exact d9V (e0w (by decide) h) (e2F (by decide) k)
theorem b2v {n k:Nat}(h:(a0h n).length<=k):(Lib.decDigits n).length<=27*k+1:=by
 have h1:=a8B (a0E n);rw [a0u] at h1
 have:=b4D h
 omega
theorem c7h {z:Int}{k:Nat}(h:(a0h z.natAbs).length<=k):(Lib.itoa z).length<=27*k+2:=by
 have:=b2v h
 unfold Lib.itoa;split
 ·rw [d9u];omega
 ·rw [show z.toNat=z.natAbs by omega];omega
theorem a6a {r:Rat}{k:Nat}(h:rk r k)(hk:k<=10000):c3C r:=by
 have h1:=c7h h.1;have h2:=b2v h.2;unfold c3C txt;split
 ·omega
 ·rw [d9Z,d9u];omega
def LZ (x:Int)(p:Nat):Prop:=(a0r x.natAbs).length<=p
theorem LZ.mul {x y:Int}{p q:Nat}(hx:LZ x p)(hy:LZ y q):LZ (x*y) (p+q):=by
 unfold LZ at *;rw [e1Z]
 have:=a5X x.natAbs y.natAbs
 omega
theorem LZ.add {x y:Int}{p q:Nat}(hx:LZ x p)(hy:LZ y q):LZ (x+y) (p+q+1):=by
 unfold LZ at *;have h1:=a0H (x+y).natAbs (x.natAbs+y.natAbs) (Int.natAbs_add_le x y);have h2:=a9l x.natAbs y.natAbs;omega
theorem LZ.few {x:Int}{p:Nat}(h:LZ x p)(hp:p<1000000):b6i x:=e0f h hp
theorem LZ.num {r:Rat}{k:Nat}(h:rk r k):LZ r.num (3*k):=b4D h.1
theorem LZ.den {r:Rat}{k:Nat}(h:rk r k):LZ (r.den:Int) (3*k):=b4D h.2
theorem d3b (a b:Rat):qZ (a.num*b.den+b.num*a.den) ((a.den:Int)*b.den)=a+b:=by
 unfold qZ;have h:¬ ((a.den:Int)*b.den<0):=by
  rw [<- e0O];omega
 rw [d9m h,<- e0O,e0B,Rat.add_def',]
theorem d3c (a b:Rat):qZ (a.num*b.num) ((a.den:Int)*b.den)=a*b:=by
 unfold qZ;have h:¬ ((a.den:Int)*b.den<0):=by
  rw [<- e0O];omega
 rw [d9m h,<- e0O,e0B,Rat.mul_def']
theorem a5b {x y:Int}(hx:x.natAbs<10^9)(hy:y.natAbs<10^9):(x*y).natAbs<10^18:=by
 rw [e1Z];exact e0a (Nat.mul_lt_mul'' hx hy) (by decide)
theorem d6q (a b:Rat)(i j:Nat)(ha:rk a i)(hb:rk b j)(hij:i+j<=10000):a0b C0 13 [rR a,rR b] (rR (a+b)):=by
 refine a0c.walk w1 d4h rfl fun F=>?_
 have ta:=a6a ha (by omega);have tb:=a6a hb (by omega);have qa:=b1L a ta;have qb:=b1L b tb
 by_cases hq:qk a=true/\qk b=true
 ·obtain ⟨h1,h2⟩:=hq
  obtain ⟨n1,d1⟩:=a6D h1;obtain ⟨n2,d2⟩:=a6D h2;rw [h1,d9l rfl,d9l rfl] at qa;rw [h2,d9l rfl,d9l rfl] at qb;have p1:=a5b n1 (y:=(b.den:Int)) (by omega);have p2:=a5b n2 (y:=(a.den:Int)) (by omega);have p3:=a5b (x:=(a.den:Int)) (y:=(b.den:Int)) (by omega) (by omega);have m1:IntKind.i64.wrap (a.num*(b.den:Int))=a.num*b.den:=wI (by omega) (by omega);have m2:IntKind.i64.wrap (b.num*(a.den:Int))=b.num*a.den:=wI (by omega) (by omega);have m3:IntKind.i64.wrap (a.num*(b.den:Int)+b.num*(a.den:Int))=a.num*b.den+b.num*a.den:=wI (by omega) (by omega);have m4:IntKind.i64.wrap ((a.den:Int)*(b.den:Int))=((a.den*b.den:Nat):Int):=by rw [wI (by omega) (by omega),e0O]
  have p4:a.den*b.den<10^18:=by rw [<- e0O,e0B] at p3;exact p3
  have cf:=d3l (a.num*b.den+b.num*a.den) (a.den*b.den) (by omega) (e2h a.den_pos b.den_pos) (by omega);rw [<- Rat.add_def'] at cf;refine sR 0 ?_;refine sR 100 ?_;refine cI qa ?_;refine sR 200 ?_;refine cI qb ?_;refine OkS.seq ?_;refine sZ 300 ?_;refine gwI kT ?_;refine ifI ?_;refine sZ 400 ?_;refine nwI (ff4 m1 m2 m3 m4) ?_;refine cI cf ?_;refine rtI ?_;exact a0a rfl IsPure.out
 ·refine sR 0 ?_
  refine sR 100 ?_;refine cI qa ?_;refine sR 200 ?_;refine cI qb ?_;refine d8X (α:=Nat) (fun n=>⟨[(0,rR a),(1,rR b)],[],n⟩) (fun _=>True) ?_ ?_
  ·cases h1:qk a
   ·refine sZ 300 ?_
    refine gwI h1 ?_;refine gwI kF ?_;refine ifI ?_;refine skI ?_;exact ⟨rfl,_,trivial,wkI⟩
   ·have h2:qk b=false:=by
     cases h2:qk b
     ·rfl
     ·exact d9n ⟨h1,h2⟩ hq
    rw [h2];refine sZ 300 ?_;refine gwI h1 ?_;refine gwI kT ?_;refine ifI ?_;refine skI ?_;exact ⟨rfl,_,trivial,wkI⟩
  rintro n0 -;clear qa qb hq;have pa:=a9f (txt a) (a8k a) (a8j a) ta;have pb:=a9f (txt b) (a8k b) (a8j b) tb;rw [b1X,b6t] at pa pb;have lan:=LZ.num ha;have lad:=LZ.den ha;have lbn:=LZ.num hb;have lbd:=LZ.den hb;have da:=a.den_pos;have db:=b.den_pos;have c1:=a9E a.num b.den (lan.few (by omega)) (lbd.few (by omega));have c2:=a9E b.num a.den (lbn.few (by omega)) (lad.few (by omega));have c3:=d2W (a.num*b.den) (b.num*a.den) ((lan.mul lbd).few (by omega)) ((lbn.mul lad).few (by omega));have c4:=a9E (a.den:Int) b.den (lad.few (by omega)) (lbd.few (by omega));have c5:=b0w (a.num*b.den+b.num*a.den) ((a.den:Int)*b.den) (by rw [<- e0O];have:=e2h da db;omega) (((lan.mul lbd).add (lbn.mul lad)).few (by omega)) ((lad.mul lbd).few (by omega));rw [d3b] at c5;refine sR 500 ?_;refine cI pa ?_;refine sR 600 ?_;refine cI pb ?_;refine OkS.seq ?_;refine d8K w1 700 [0,1,2,3,4,5,6,7,8] [9,10,11] (by kernel_rfl) ?_;refine gwI kN ?_
  first|refine a0q.same _ c1 d9k ?_|refine a0j.same _ c1 d9k ?_
  refine gwI kN ?_
  first|refine a0q.same _ c2 d9k ?_|refine a0j.same _ c2 d9k ?_
  refine gwI kN ?_
  first|refine a0q.same _ c3 d9k ?_|refine a0j.same _ c3 d9k ?_
  refine gwI kN ?_
  first|refine a0q.same _ c4 d9k ?_|refine a0j.same _ c4 d9k ?_
  refine gwI kN ?_
  first|refine a0q.same _ c5 d9k ?_|refine a0j.same _ c5 d9k ?_
  refine gwI kN ?_;refine rtI ?_;exact a0a rfl IsPure.out
theorem d7r (a b:Rat)(i j:Nat)(ha:rk a i)(hb:rk b j)(hij:i+j<=10000):a0b C0 43 [rR a,rR b] (rR (a*b)):=by
 refine a0c.walk w1 d4B rfl fun F=>?_
 have ta:=a6a ha (by omega);have tb:=a6a hb (by omega);have qa:=b1L a ta;have qb:=b1L b tb
 by_cases hq:qk a=true/\qk b=true
 ·obtain ⟨h1,h2⟩:=hq
  obtain ⟨n1,d1⟩:=a6D h1;obtain ⟨n2,d2⟩:=a6D h2;rw [h1,d9l rfl,d9l rfl] at qa;rw [h2,d9l rfl,d9l rfl] at qb;have p1:=a5b n1 (y:=b.num) n2;have p3:=a5b (x:=(a.den:Int)) (y:=(b.den:Int)) (by omega) (by omega);have m1:IntKind.i64.wrap (a.num*b.num)=a.num*b.num:=wI (by omega) (by omega);have m4:IntKind.i64.wrap ((a.den:Int)*(b.den:Int))=((a.den*b.den:Nat):Int):=by rw [wI (by omega) (by omega),e0O]
  have p4:a.den*b.den<10^18:=by rw [<- e0O,e0B] at p3;exact p3
  have cf:=d3l (a.num*b.num) (a.den*b.den) (by omega) (e2h a.den_pos b.den_pos) (by omega);rw [<- Rat.mul_def'] at cf;refine sR 0 ?_;refine sR 100 ?_;refine cI qa ?_;refine sR 200 ?_;refine cI qb ?_;refine OkS.seq ?_;refine sZ 300 ?_;refine gwI kT ?_;refine ifI ?_;refine sZ 400 ?_;refine nwI (ff2 m1 m4) ?_;refine cI cf ?_;refine rtI ?_;exact a0a rfl IsPure.out
 ·refine sR 0 ?_
  refine sR 100 ?_;refine cI qa ?_;refine sR 200 ?_;refine cI qb ?_;refine d8X (α:=Nat) (fun n=>⟨[(0,rR a),(1,rR b)],[],n⟩) (fun _=>True) ?_ ?_
  ·cases h1:qk a
   ·refine sZ 300 ?_
    refine gwI h1 ?_;refine gwI kF ?_;refine ifI ?_;refine skI ?_;exact ⟨rfl,_,trivial,wkI⟩
   ·have h2:qk b=false:=by
     cases h2:qk b
     ·rfl
     ·exact d9n ⟨h1,h2⟩ hq
    rw [h2];refine sZ 300 ?_;refine gwI h1 ?_;refine gwI kT ?_;refine ifI ?_;refine skI ?_;exact ⟨rfl,_,trivial,wkI⟩
  rintro n0 -;clear qa qb hq;have pa:=a9f (txt a) (a8k a) (a8j a) ta;have pb:=a9f (txt b) (a8k b) (a8j b) tb;rw [b1X,b6t] at pa pb;have lan:=LZ.num ha;have lad:=LZ.den ha;have lbn:=LZ.num hb;have lbd:=LZ.den hb;have da:=a.den_pos;have db:=b.den_pos;have c1:=a9E a.num b.num (lan.few (by omega)) (lbn.few (by omega));have c4:=a9E (a.den:Int) b.den (lad.few (by omega)) (lbd.few (by omega));have c5:=b0w (a.num*b.num) ((a.den:Int)*b.den) (by rw [<- e0O];have:=e2h da db;omega) ((lan.mul lbn).few (by omega)) ((lad.mul lbd).few (by omega));rw [d3c] at c5;refine sR 500 ?_;refine cI pa ?_;refine sR 600 ?_;refine cI pb ?_;refine OkS.seq ?_;refine d8K w1 700 [0,1,2,3,4] [5,6,7] (by kernel_rfl) ?_;refine gwI kN ?_
  first|refine a0q.same _ c1 d9k ?_|refine a0j.same _ c1 d9k ?_
  refine gwI kN ?_
  first|refine a0q.same _ c4 d9k ?_|refine a0j.same _ c4 d9k ?_
  refine gwI kN ?_
  first|refine a0q.same _ c5 d9k ?_|refine a0j.same _ c5 d9k ?_
  refine gwI kN ?_;refine rtI ?_;exact a0a rfl IsPure.out
theorem d7B (a b:Rat)(i j:Nat)(ha:rk a i)(hb:rk b j)(hij:i+j<=10000):a0b C0 122 [rR a,rR b] (rR (a - b)):=by
 refine a0c.walk w1 c9M rfl fun F=>?_
 have c1:=d5t b (a6a hb (by omega));have c2:=d6q a (-b) i j ha (c5N hb) hij;rw [<- Rat.sub_eq_add_neg] at c2;refine sR 0 ?_;refine sR 100 ?_;refine cI c1 ?_;refine cI c2 ?_;refine rtI ?_;exact a0a rfl IsPure.out
theorem c7X (a b:Rat):a9y (a - b)=a1H a b:=by
 unfold a9y a1H;have h1:(a - b).num<0↔a<b:=by
  have e:=Rat.lt_iff (a - b) 0;have e1:(a - b).num*((0:Rat).den:Int)<(0:Rat).num*((a - b).den:Int)↔(a - b).num<0:=by simp
  rw [<- e1,<- e];constructor<;>intro h<;>grind
 have h2:0<(a - b).num↔b<a:=by
  have e:=Rat.lt_iff 0 (a - b);have e1:(0:Rat).num*((a - b).den:Int)<(a - b).num*((0:Rat).den:Int)↔0<(a - b).num:=by simp
  rw [<- e1,<- e];constructor<;>intro h<;>grind
 by_cases h:a<b
 ·rw [d9l h];have:=h1.2 h;omega
 ·rw [d9m h]
  by_cases h':b<a
  ·rw [d9l h'];have:=h2.2 h';omega
  ·rw [d9m h']
   have:=mt h1.1 h
   have:=mt h2.1 h'
   omega
theorem d6r (a b:Rat)(i j:Nat)(ha:rk a i)(hb:rk b j)(hij:i+j<10000):a0b C0 57 [rR a,rR b] (i64 (a1H a b)):=by
 refine a0c.walk w1 d4K rfl fun F=>?_
 have c1:=d7B a b i j ha hb (by omega);have c2:=c1i (a - b) (a6a (d3j ha hb) (by omega));rw [c7X] at c2;refine sR 0 ?_;refine sR 100 ?_;refine cI c1 ?_;refine cI c2 ?_;refine rtI ?_;exact a0a rfl IsPure.out
end Go.Ide
