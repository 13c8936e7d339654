/- The layer of own lemmas and contracts, part 11. -/
import Derived.Test.YtpehlicnhjoknacGreatDoorP10
import Derived.Lib.Bytealg
import Derived.Test.YtpehlicnhjoknacGreatDoorP6
set_option linter.unusedVariables false
set_option linter.unusedSimpArgs false
namespace Go.Ide
open Go.Proofs Go.RowKit
set_option maxRecDepth 20000
set_option maxHeartbeats 2000000
def d7b (x y:GF):GF:=b2X (mkG (x.n.z*y.n.z)) (x.d*y.d)
theorem d6M {a b:Rat}{x y:GF}{i j:Nat}(hx:FR a x i)(hy:FR b y j)(hk:i+j<300000):a0b C0 79 [x.D,y.D] (d7b x y).D:=by
 refine a0c.walk w1 c7g rfl fun F=>?_
 have l1:=hx.ln;have l2:=hy.ln;have l3:=hx.ld;have l4:=hy.ld;have dp:=e2G hx.dpos hy.dpos;have z1:=a4e x.n.z y.n.z;have z4:=a5o x.d y.d;have m1:=c9P x.n y.n hx.is.1 hy.is.1 (by omega) (by omega);have m3:=d6K x.d y.d (by omega) (by omega);have mk:=c2i (mkG (x.n.z*y.n.z)) (x.d*y.d) (a1k _) dp (by show (a0h (x.n.z*y.n.z).natAbs).length<1000000;omega) (by omega);have p1:IsPure x.n.w:=d9O;have p2:IsPure y.n.w:=d9O;have p3:IsPure (mkG (x.d:Int)).w:=d9O;have p4:IsPure (mkG (y.d:Int)).w:=d9O;have p5:IsPure (mkG (x.n.z*y.n.z)).w:=d9O;have p6:IsPure (mkG ((x.d*y.d:Nat):Int)).w:=d9O;have p7:IsPure (b2X (mkG (x.n.z*y.n.z)) (x.d*y.d)).n.w:=d9O;have p8:IsPure (mkG ((b2X (mkG (x.n.z*y.n.z)) (x.d*y.d)).d:Int)).w:=d9O;unfold d7b;clear l1 l2 l3 l4 dp z1 z4 hx hy;dsimp only [GI.D,GF.D] at *;refine fR 0 ?_;refine OkS.seq ?_;refine d9n w1 100 [0,1,2,3,4,5,6,7,8] [9,10,11] (by kernel_rfl) ?_;refine nxI ?_;refine a0r.same _ (m1) d9O ?_;refine nxI ?_;refine dI m3 ?_;refine dI mk ?_;refine rtI ?_;exact a0a rfl IsPure.out
def a1e (a b:Rat):Int:=if a<b then -1 else if b<a then 1 else 0
theorem d3a (a b:Rat):a6W (a.num*b.den) (b.num*a.den)=a1e a b:=by
 unfold a6W a1e;simp only [Rat.lt_iff]
theorem b0t {a b:Rat}{x y:GF}{i j:Nat}(hx:FR a x i)(hy:FR b y j)(hk:i+j<300000):a0b C0 117 [x.D,y.D] (i64 (a1e a b)):=by
 refine a0c.walk w1 c1T rfl fun F=>?_
 have l1:=hx.ln;have l2:=hy.ln;have l3:=hx.ld;have l4:=hy.ld;have m1:=d6e x.n y.d hx.is.1 (by omega) (by omega);have m2:=d6e y.n x.d hy.is.1 (by omega) (by omega);have z1:=a4e x.n.z y.d;have z2:=a4e y.n.z x.d;rw [e1d] at z1 z2;have cm:=d5h (mkG (x.n.z*y.d)) (mkG (y.n.z*x.d)) (a1k _) (a1k _) (by show (a0h (x.n.z*y.d).natAbs).length<1000000;omega) (by show (a0h (y.n.z*x.d).natAbs).length<1000000;omega);have e:a6W (mkG (x.n.z*y.d)).z (mkG (y.n.z*x.d)).z=a1e a b:=by
  rw [a3L,a3L,<- d3a,hx.is.2.1,hx.is.2.2,hy.is.2.1,hy.is.2.2]
 rw [e] at cm;have p1:IsPure x.n.w:=d9O;have p2:IsPure y.n.w:=d9O;have p3:IsPure (mkG (x.d:Int)).w:=d9O;have p4:IsPure (mkG (y.d:Int)).w:=d9O;have p5:IsPure (mkG (x.n.z*y.d)).w:=d9O;have p6:IsPure (mkG (y.n.z*x.d)).w:=d9O;clear l1 l2 l3 l4 z1 z2 e hx hy;dsimp only [GI.D,GF.D] at *;refine fR 0 ?_;refine OkS.seq ?_;refine d9n w1 100 [0,1,2,3,4,5,6,7,8] [9,10,11] (by kernel_rfl) ?_;refine nxI ?_;refine a0r.same _ (m1) d9O ?_;refine nxI ?_;refine dI m2 ?_;refine dI cm ?_;refine rtI ?_;exact a0a rfl IsPure.out
def a8Y (a:Rat):Int:=max (-1) (min 1 a.num)
theorem b9e {a:Rat}{x:GF}(hx:isF a x):a0b C0 135 [x.D] (i64 (a8Y a)):=by
 refine a0c.walk w1 c0x rfl fun F=>?_
 have cg:=b0N x.n hx.1;rw [hx.2.1] at cg;have p1:IsPure x.n.w:=d9O;have p3:IsPure (mkG (x.d:Int)).w:=d9O;unfold a8Y;dsimp only [GI.D,GF.D] at *;refine fR 0 ?_;refine fR 100 ?_;refine dI cg ?_;refine rtI ?_;exact a0a rfl IsPure.out
abbrev sb (l:List UInt8):ByteArray:=⟨l.toArray⟩
theorem a0x (l:List UInt8):(sb l).size=l.length:=by simp [ByteArray.size]
theorem a2r (l:List UInt8)(i j:Nat):(sb l).extract i j=sb ((l.take j).drop i):=by
 apply ByteArray.ext;rw [ByteArray.data_extract];simp [List.drop_take]
theorem c0p (l:List UInt8):(sb l).toList=l:=by
 rw [ByteArray.toList_eq]
theorem a5N (l m:List UInt8):a1z (sb l) (sb m)=decide (l=m):=by
 unfold a1z;rw [c0p,c0p,e1D,e1L,decide_eq_true_iff]
def a2g (l:List UInt8):Bool:=match l with
 | []=>false
 | c::_=>c==45
def a0n (l:List UInt8):List UInt8:=if a2g l then l.drop 1 else l
def a0f (l:List UInt8):Nat:=(l.takeWhile (· != 47)).length
theorem a2K (l:List UInt8):a0f l<=l.length:=by
 unfold a0f;exact (List.takeWhile_sublist _).length_le
theorem b3N (l:List UInt8):Lib.indexByte l 47=if a0f l<l.length then (a0f l:Int) else -1:=by
 induction l with
 | nil=>rfl
 | cons c l ih =>
  unfold Lib.indexByte
  by_cases h:c=47
  ·subst h
   simp [a0f]
  ·have e1:a0f (c::l)=a0f l+1:=by
    unfold a0f;rw [e3d,d9P (by simpa using h),d9Y]
   have hb:(c==47)=false:=by simpa using h
   rw [hb,ih,e1,d9Y]
   by_cases h2:a0f l<l.length
   ·have h3:a0f l+1<l.length+1:=by omega
    have h4:(((a0f l:Nat):Int) == -1)=false:=e0g.2 (by omega);simp only [h2,h3,h4,if_true,e1O,if_false];omega
   ·have h3:¬ a0f l+1<l.length+1:=by omega
    simp only [h2,h3,e1O,if_false];rfl
theorem b0Z (l:List UInt8)(hl:l.length<=1000000000):a0b C0 229 [str (sb l),str (sb [45])] (boo (a2g l)):=by
 refine a0c.walk w1 c4b rfl fun F=>?_
 have hsz:=a0x l;have hs1:=a0x [45];refine sR 0 ?_;refine OkS.seq ?_;cases l with
 | nil =>
  have e1:decide (((sb []).size:Int)>=((sb [45]).size:Int))=false:=rfl;refine d9l w1 100 (by kernel_rfl) ?_;refine nwI e1 ?_;refine gwI e1 ?_;refine gwI e1 ?_;refine rtI ?_;exact a0a rfl IsPure.out
 | cons c l =>
  have e1:decide (((sb (c::l)).size:Int)>=((sb [45]).size:Int))=true:=d9S (by rw [hsz,hs1];simp only [d9Y,e0z];omega);have e2:(sb (c::l)).extract 0 ((((sb [45]).size:Nat):Int)).toNat=sb [c]:=by rw [a2r];rfl
  have e3:a1z (sb [c]) (sb [45])=a2g (c::l):=by
   rw [a5N,a2g,e1D,decide_eq_true_iff,e1L];simp
  have h0:(0:Int)<=((sb [45]).size:Int):=by omega
  have h1:((sb [45]).size:Int)<=((sb (c::l)).size:Int):=by rw [hsz,hs1];simp only [d9Y,e0z];omega
  refine d9l w1 100 (by kernel_rfl) ?_;refine nwI e1 ?_;refine gwI (ff3 e1 e2 e3) ?_;refine gwI (ff3 e1 e2 e3) ?_;refine rtI ?_;exact a0a rfl IsPure.out
theorem b2D (l:List UInt8)(hl:l.length<=1000000000):a0b C0 191 [str (sb l),str (sb [45])] (boo (a2g l)):=by
 refine a0c.walk w1 c5k rfl fun F=>?_
 have c1:=b0Z l hl;generalize sb l=s at *;generalize a2g l=b at *;refine fR 0 ?_;refine fR 100 ?_;refine dI c1 ?_;refine rtI ?_;exact a0a rfl IsPure.out
theorem b4b (l:List UInt8)(hl:l.length<=1000000000):a0b C0 205 [str (sb l),str (sb [45])] (str (sb (a0n l))):=by
 refine a0c.walk w1 c4I rfl fun F=>?_
 have c1:=b0Z l hl;have hsz:=a0x l;unfold a0n;refine sR 0 ?_;refine OkS.seq ?_;refine sR 100 ?_;refine cI c1 ?_;rcases hb:a2g l with _|_
 ·rw [d9Q (by simp)]
  refine ifI ?_;refine skI ?_;refine sR 300 ?_;refine rtI ?_;exact a0a rfl IsPure.out
 ·rw [d9P rfl]
  have h1:(0:Int)<=((sb [45]).size:Int):=by omega
  have h2:((sb [45]).size:Int)<=((sb l).size:Int):=by
   rw [hsz];show (1:Int)<=_;cases l with
   | nil=>cases hb
   | cons c l=>simp only [d9Y];omega
  have e2:(sb l).extract (((sb [45]).size:Nat):Int).toNat (sb l).size=sb (l.drop 1):=by
   rw [a2r,hsz,e0k (d9Z _)];rfl
  refine ifI ?_;refine sZ 200 ?_;refine nwI e2 ?_;refine rtI ?_;exact a0a rfl IsPure.out
theorem a6S (l:List UInt8)(hl:l.length<=1000000000):a0b C0 150 [str (sb l),str (sb [45])] (str (sb (a0n l))):=by
 refine a0c.walk w1 c4T rfl fun F=>?_
 have c1:=b4b l hl;generalize sb l=s at *;generalize sb (a0n l)=t at *;refine fR 0 ?_;refine fR 100 ?_;refine dI c1 ?_;refine rtI ?_;exact a0a rfl IsPure.out
theorem b7V (l:List UInt8):a0b C0 256 [str (sb l),.prim (.int .u8 47)] (i64 (if a0f l<l.length then (a0f l:Int) else -1)):=by
 refine a0c.walk w1 c6r rfl fun F=>?_
 have e1:firstIdx (sb l) (((47:Int)).toNat.toUInt8)=(if a0f l<l.length then (a0f l:Int) else -1):=by
  rw [Lib.firstIdx_eq];exact b3N l
 generalize (if a0f l<l.length then (a0f l:Int) else -1)=r at *;refine fR 0 ?_;refine OkS.seq ?_;refine d9l w1 100 (by kernel_rfl) ?_;refine nwI e1 ?_;refine rtI ?_;exact a0a rfl IsPure.out
theorem c2P (l:List UInt8)(hl:l.length<=1000000000):a0b C0 228 [str (sb l),str (sb [47])] (i64 (if a0f l<l.length then (a0f l:Int) else -1)):=by
 refine a0c.walk w1 c4k rfl fun F=>?_
 have c1:=b7V l;have eS:=a5N [47] l;have hr:[47]=l->(if a0f l<l.length then (a0f l:Int) else -1)=0:=fun h=>by subst h;rfl
 generalize (if a0f l<l.length then (a0f l:Int) else -1)=r at *;have e0:(((sb [47]).size:Int)==0)=false:=rfl;have e1:(((sb [47]).size:Int)==1)=true:=rfl;have hx:(((sb [47]).data.toList.getD ((0:Int)).toNat 0).toNat:Int)=47:=rfl;refine sR 0 ?_;refine sR 100 ?_;refine OkS.seq ?_;refine OkS.block ?_
 by_cases h:[47]=l
 ·rw [d9S h] at eS
  have hr:=hr h;subst hr;refine sZ 200 ?_;refine nwI e0 ?_;refine gwI (ff3 e0 kF eS) ?_;refine gwI (ff3 e0 kF eS) ?_;refine ifI ?_;refine sR 300 ?_;refine rtI ?_;exact a0a rfl IsPure.out
 ·rw [d9U h] at eS
  refine sZ 200 ?_;refine nwI e0 ?_;refine gwI (ff3 e0 kF eS) ?_;refine gwI (ff3 e0 kF eS) ?_;refine ifI ?_;refine sZ 400 ?_;refine nwI e1 ?_;refine ifI ?_;refine sZ 500 ?_;refine nwI hx ?_;refine cI c1 ?_;refine rtI ?_;exact a0a rfl IsPure.out
theorem d8H (l:List UInt8)(hl:l.length<=1000000000):a0b C0 190 [str (sb l),str (sb [47])] (.tup [str (sb (l.take (a0f l))),str (sb (l.drop (a0f l+1))),boo (decide (a0f l<l.length))]):=by
 refine a0c.walk w1 c4h rfl fun F=>?_
 have c1:=c2P l hl;have hsz:=a0x l;have hle:=a2K l;refine sR 0 ?_
 by_cases h:a0f l<l.length
 ·rw [d9P h] at c1
  have e1:decide (((a0f l:Nat):Int)>=0)=true:=d9S (by omega);have e2:(sb l).extract 0 (((a0f l:Nat):Int)).toNat=sb (l.take (a0f l)):=by rw [a2r];rfl
  have w3:IntKind.i64.wrap (((a0f l:Nat):Int)+((sb [47]).size:Int))=((a0f l+1:Nat):Int):=by
   show IntKind.i64.wrap (((a0f l:Nat):Int)+1)=_;rw [wI (by omega) (by omega)];omega
  have e3:(sb l).extract (((a0f l+1:Nat):Int)).toNat (sb l).size=sb (l.drop (a0f l+1)):=by
   rw [a2r,hsz,e0k (d9Z _)];rfl
  rw [d9S h];refine OkS.seq ?_;refine sR 100 ?_;refine cI c1 ?_;refine sZ 200 ?_;refine nwI e1 ?_;refine ifI ?_;refine OkS.seq ?_;refine d9n w1 300 [0,1,2,3,4,5,6,7,8,9] [10,11] (by kernel_rfl) ?_;refine gwI (ff3 w3 e2 e3) ?_;refine rtI ?_;exact a0a rfl IsPure.out
 ·rw [d9Q h] at c1
  have hk:a0f l=l.length:=by omega
  have e1:decide (((-1:Int))>=0)=false:=rfl;rw [d9U h,hk,e0k (d9Z _),e1p (by omega)];refine OkS.seq ?_;refine sR 100 ?_;refine cI c1 ?_;refine sZ 200 ?_;refine nwI e1 ?_;refine ifI ?_;refine skI ?_;refine sR 400 ?_;refine rtI ?_;exact a0a rfl IsPure.out
theorem c6a (l:List UInt8)(hl:l.length<=1000000000):a0b C0 139 [str (sb l),str (sb [47])] (.tup [str (sb (l.take (a0f l))),str (sb (l.drop (a0f l+1))),boo (decide (a0f l<l.length))]):=by
 refine a0c.walk w1 c4m rfl fun F=>?_
 have c1:=d8H l hl;generalize sb l=s at *;generalize sb (l.take (a0f l))=t at *;generalize sb (l.drop (a0f l+1))=u at *;generalize decide (a0f l<l.length)=b at *;refine fR 0 ?_;refine fR 100 ?_;refine dI c1 ?_;refine rtI ?_;exact a0a rfl IsPure.out
def a0C (c:UInt8):Bool:=Nat.ble 48 c.toNat&&Nat.ble c.toNat 57
def b6Y:D:=.agg ((List.range 256).map fun i=>boo (Nat.ble 48 i&&Nat.ble i 57))
abbrev ten:List UInt8:=[48,49,50,51,52,53,54,55,56,57]
noncomputable def X4:EV:=⟨tt2,xbt.get,fbt.get,fun _=>false,fun _ _=>none,fun _ _=>none,b7X⟩
theorem d5B:b0i C0 X4:=⟨d2o,b4L,ftab,fun _ _ _ h=>by simp [X4] at h,by kernel_rfl,fun _ _ _ h=>by simp [X4] at h,a6e⟩
theorem w4:WOk C0 X4:=d5B.w
theorem b6Q:a0b C0 267 [str (sb ten)] (.tup [b6Y,boo true]):=d9H d5B 1000 40 (by kernel_rfl)
def d6a (o:Option D)(b:Bool):Bool:=match o with
 | some (.prim (.bool c))=>c==b
 | _=>false
theorem b8L {o:Option D}{b:Bool}(h:d6a o b=true):o=some (boo b):=by
 unfold d6a at h;split at h
 ·rw [e1L] at h;subst h;rfl
 ·cases h
theorem b3E:((List.range 256).all fun c=>d6a ((evF X4 1000 40).1 295 [.pptr b6Y,.prim (.int .u8 (c:Nat))]) (Nat.ble 48 c&&Nat.ble c 57))=true:=by kernel_rfl
theorem a9c (c:UInt8):a0b C0 295 [.pptr b6Y,.prim (.int .u8 (c.toNat:Nat))] (boo (a0C c)):=by
 refine d9H d5B 1000 40 ?_;have h:=e0B.1 b3E c.toNat (List.mem_range.2 c.toNat_lt);exact b8L h
instance:CellsPure b6Y:=⟨fun c hc=>by
 change c∈(List.range 256).map (fun i=>boo (Nat.ble 48 i&&Nat.ble i 57)) at hc;obtain ⟨i,_,rfl⟩:=List.mem_map.1 hc;exact .prim _⟩
def a6d (l:List UInt8):List UInt8:=(l.reverse.dropWhile a0C).reverse
theorem b7e (m:List UInt8)(c:UInt8):a6d (m++[c])=if a0C c then a6d m else m++[c]:=by
 unfold a6d;rw [List.reverse_append,List.reverse_singleton,List.singleton_append,e2I];split
 ·rfl
 ·rw [List.reverse_cons,List.reverse_reverse]
theorem c2p (l:List UInt8):((a6d l).dropWhile a0C=[])↔l.all a0C=true:=by
 constructor
 ·intro h
  have h1:∀ m:List UInt8,m.dropWhile a0C=[]->m.all a0C=true:=fun m=>by
   induction m with
   | nil=>intro _;rfl
   | cons c m ih =>
    intro hm;rw [e2I] at hm;split at hm
    ·rename_i hc
     rw [e1I,hc,ih hm];rfl
    ·cases hm
  have h2:(l.reverse.dropWhile a0C).all a0C=true:=by
   have:=h1 _ h
   unfold a6d at this
   rwa [List.all_reverse] at this
  have h3:∀ m:List UInt8,(m.dropWhile a0C).all a0C=true->m.all a0C=true:=fun m=>by
   induction m with
   | nil=>intro _;rfl
   | cons c m ih =>
    intro hm;rw [e2I] at hm;split at hm
    ·rename_i hc
     rw [e1I,hc,ih hm];rfl
    ·exact hm
  have:=h3 _ h2
  rwa [List.all_reverse] at this
 ·intro h
  have h1:∀ m:List UInt8,m.all a0C=true->m.dropWhile a0C=[]:=fun m=>by
   induction m with
   | nil=>intro _;rfl
   | cons c m ih =>
    intro hm;rw [e1I,e0f] at hm;rw [e2I,d9P hm.1];exact ih hm.2
  have hx:=h1 l.reverse (by rw [List.all_reverse];exact h);unfold a6d;rw [hx];rfl
theorem b4U (l:List UInt8)(hl:l.length<=1000000000):a0b C0 268 [str (sb l),.pptr b6Y] (str (sb (l.dropWhile a0C))):=by
 refine a0c.walk w1 c4A rfl fun F=>?_
 have hps:CellsPure b6Y:=d9O;have hcc:=a9c;generalize b6Y=sd at *;refine sR 0 ?_;refine OkS.seq ?_;refine OkS.block ?_;refine OkS.loop (α:=List UInt8 × Nat) (fun p=>⟨[(0,str (sb p.1)),(1,.pptr sd)],[],p.2⟩) (fun p=>p.1.length) (fun p=>p.1.dropWhile a0C=l.dropWhile a0C/\p.1.length<=l.length) (l,_) ⟨rfl,d9Z _⟩ wkI ?_;rintro ⟨m,n⟩ F ⟨h1,h2⟩;dsimp only at h1 h2 ⊢;refine OkS.seq ?_;refine OkS.seq ?_;cases m with
 | nil =>
  have e1:decide (((sb []).size:Int)>0)=false:=rfl;refine d9l w1 100 (by kernel_rfl) ?_;refine nwI e1 ?_;refine ifI ?_;refine exI ?_;refine sR 400 ?_;refine rtI ?_;exact a0a (by rw [<- h1];rfl) IsPure.out
 | cons c m =>
  have hsz:=a0x (c::m);have e1:decide (((sb (c::m)).size:Int)>0)=true:=d9S (by rw [hsz,d9Y];omega);have hx:(((sb (c::m)).data.toList.getD ((0:Int)).toNat 0).toNat:Int)=(c.toNat:Int):=rfl;have b1:(0:Int)<((sb (c::m)).size:Int):=by rw [hsz,d9Y];omega
  have b2:(1:Int)<=((sb (c::m)).size:Int):=by omega
  have e3:(sb (c::m)).extract ((1:Int)).toNat (sb (c::m)).size=sb m:=by
   rw [a2r,hsz,e0k (d9Z _)];rfl
  have cc:=hcc c;refine d9l w1 100 (by kernel_rfl) ?_;refine nwI e1 ?_;refine ifI ?_;refine skI ?_;refine OkS.block ?_;refine OkS.seq ?_;refine sZ 200 ?_;refine nwI hx ?_;refine cI cc ?_;rcases hb:a0C c with _|_
  ·refine ifI ?_
   refine exI ?_;refine sR 400 ?_;refine rtI ?_;refine a0a ?_ IsPure.out;rw [<- h1,e2I,d9Q (by rw [hb];simp)]
  ·refine ifI ?_
   refine skI ?_;refine d9l w1 300 (by kernel_rfl) ?_;refine nwI e3 ?_;refine ⟨(m,_),⟨?_,?_⟩,?_,wkI⟩
   ·rw [<- h1,e2I,d9P hb]
   ·rw [d9Y] at h2;dsimp only;omega
   ·show m.length<m.length+1;omega
theorem b2V (l:List UInt8)(hl:l.length<=1000000000):a0b C0 269 [str (sb l),.pptr b6Y] (str (sb (a6d l))):=by
 refine a0c.walk w1 c5c rfl fun F=>?_
 have hps:CellsPure b6Y:=d9O;have hcc:=a9c;generalize b6Y=sd at *;refine sR 0 ?_;refine OkS.seq ?_;refine OkS.block ?_;refine OkS.loop (α:=List UInt8 × Nat) (fun p=>⟨[(0,str (sb p.1)),(1,.pptr sd)],[],p.2⟩) (fun p=>p.1.length) (fun p=>a6d p.1=a6d l/\p.1.length<=l.length) (l,_) ⟨rfl,d9Z _⟩ wkI ?_;rintro ⟨m,n⟩ F ⟨h1,h2⟩;dsimp only at h1 h2 ⊢;refine OkS.seq ?_;refine OkS.seq ?_;rcases e3k m with rfl|⟨m,c,rfl⟩
 ·have e1:decide (((sb []).size:Int)>0)=false:=rfl
  refine d9l w1 100 (by kernel_rfl) ?_;refine nwI e1 ?_;refine ifI ?_;refine exI ?_;refine sR 400 ?_;refine rtI ?_;exact a0a (by rw [<- h1];rfl) IsPure.out
 ·rw [e3l] at h1 h2 ⊢
  have hsz:=a0x (m++[c]);rw [e0x,e1u] at hsz h2;have e1:decide (((sb (m++[c])).size:Int)>0)=true:=d9S (by rw [hsz];omega);have wk1:IntKind.i64.wrap (((sb (m++[c])).size:Int) - 1)=(m.length:Int):=by rw [hsz,wI (by omega) (by omega)];omega
  have hx:(((sb (m++[c])).data.toList.getD (((m.length:Nat):Int)).toNat 0).toNat:Int)=(c.toNat:Int):=by
   show (((m++[c]).getD m.length 0).toNat:Int)=_;simp
  have b1:((m.length:Nat):Int)<((sb (m++[c])).size:Int):=by rw [hsz];omega
  have e3:(sb (m++[c])).extract 0 (((m.length:Nat):Int)).toNat=sb m:=by
   rw [a2r];simp
  have cc:=hcc c;have ht:=b7e m c;refine d9l w1 100 (by kernel_rfl) ?_;refine nwI e1 ?_;refine ifI ?_;refine skI ?_;refine OkS.block ?_;refine OkS.seq ?_;refine sZ 200 ?_;refine nwI (ff2 wk1 hx) ?_;refine cI cc ?_;rcases hb:a0C c with _|_
  ·rw [d9Q (by rw [hb];simp)] at ht
   refine ifI ?_;refine exI ?_;refine sR 400 ?_;refine rtI ?_;exact a0a (by rw [<- h1,ht]) IsPure.out
  ·rw [d9P hb] at ht
   refine ifI ?_;refine skI ?_;refine d9l w1 300 (by kernel_rfl) ?_;refine nwI (ff2 wk1 e3) ?_;refine ⟨(m,_),⟨by rw [<- h1,ht],by dsimp only;omega⟩,?_,wkI⟩;dsimp only;rw [e0x,e1u];omega
namespace TrimW
theorem w1:WOk C0 X4:=w4
theorem trim_ok (l:List UInt8)(hl:l.length<=1000000000):a0b C0 239 [str (sb l),str (sb ten)] (str (sb ((a6d l).dropWhile a0C))):=by
 refine a0c.walk w1 c4t rfl fun F=>?_
 have cm:=b6Q;have c1:=b2V l hl;have hlr:(a6d l).length<=1000000000:=by
  unfold a6d;rw [List.length_reverse];exact e0A (List.dropWhile_sublist _).length_le (by rw [List.length_reverse];exact hl)
 have c2:=b4U (a6d l) hlr;have hps:CellsPure b6Y:=d9O;have eS:=a5N l [];have e2:(((sb ten).size:Int)==1)=false:=rfl;have e4:a1z (sb ten) (sb [])=false:=by rw [a5N];exact d9U (by simp)
 have hfit:a0X true 256 b6Y:=by
  have h:((List.range 256).map fun i=>boo (Nat.ble 48 i&&Nat.ble i 57)).length=256:=by rw [d9X,e2w]
  have:=a0X.agg (ds:=(List.range 256).map fun i=>boo (Nat.ble 48 i&&Nat.ble i 57))
  rw [h] at this;exact this
 refine sR 0 ?_
 by_cases h0:l=[]
 ·subst h0
  have eS':a1z (sb []) (sb [])=true:=by rw [a5N];exact d9S rfl
  refine OkS.seq ?_;refine sZ 100 ?_;refine nwI eS' ?_;refine gwI (ff2 eS' kT) ?_;refine ifI ?_;refine sR 200 ?_;refine rtI ?_;exact a0a rfl IsPure.out
 ·rw [d9U h0] at eS
  refine OkS.seq ?_;refine sZ 100 ?_;refine nwI eS ?_;refine gwI (ff3 eS e4 kF) ?_;refine gwI (ff3 eS e4 kF) ?_;refine ifI ?_;refine skI ?_;refine OkS.seq ?_;refine sZ 300 ?_;refine nwI e2 ?_;refine gwI e2 ?_;refine gwI e2 ?_;refine ifI ?_;refine skI ?_;refine OkS.seq ?_;refine sR 500 ?_;refine a0j.same _ cm d9O ?_;refine dsI ?_;generalize b6Y=sd at *
  repeat (refine a0p rfl rfl ?_;refine a1X (fun _ _=>rfl) ?_)
  refine a5f (And.intro (by repeat' (first|exact hfit|refine And.intro ?_ ?_|exact sdI)) ?_);refine dsI ?_;refine sR 600 ?_;refine ifI ?_;refine sR 700 ?_;refine a0j.own _ (d9F c1 rfl ?_ d9O (b0u.prim _)) ?_
  ·intro i x y hx hy
   match i with
   | 0=>simp at hx hy;subst hx;subst hy;exact FzS.refl _ _
   | 1=>simp at hx hy;subst hx;subst hy;exact FzS.ptr rfl rfl rfl rfl
   | i+2=>simp at hx
  rintro d H' n' ⟨rfl,rfl,rfl⟩;refine stI ?_;refine a0j.own _ (d9F c2 rfl ?_ d9O (b0u.prim _)) ?_
  ·intro i x y hx hy
   match i with
   | 0=>simp at hx hy;subst hx;subst hy;exact FzS.refl _ _
   | 1=>simp at hx hy;subst hx;subst hy;exact FzS.ptr rfl rfl rfl rfl
   | i+2=>simp at hx
  rintro d H' n' ⟨rfl,rfl,rfl⟩;refine stI ?_;refine rtI ?_;exact a0a rfl IsPure.out
end TrimW
def dvF (a:Nat)(l:List UInt8):Nat:=l.foldl (fun a c=>a*10+(c.toNat - 48)) a
def dv (l:List UInt8):Nat:=dvF 0 l
theorem c5Z (l:List UInt8):∀ a,dvF a l=a*10^l.length+dv l:=by
 induction l with
 | nil=>intro a;simp [dvF,dv]
 | cons c l ih =>
  intro a;have h1:∀ b,dvF b (c::l)=dvF (b*10+(c.toNat - 48)) l:=fun b=>rfl
  have h2:dv (c::l)=dvF (0*10+(c.toNat - 48)) l:=rfl;rw [h1,h2,ih,ih (0*10+(c.toNat - 48)),d9Y,e0J];rw [e0H,e2z,e0v,e0D,e0t 10];omega
theorem a5m (l m:List UInt8):dv (l++m)=dv l*10^m.length+dv m:=by
 have:dv (l++m)=dvF (dv l) m:=by unfold dv dvF;rw [List.foldl_append]
 rw [this,c5Z]
theorem b4v (l:List UInt8):∀ a,l.all a0C=true->Lib.decFrom a l=some (dvF a l):=by
 induction l with
 | nil=>intro a _;rfl
 | cons c l ih =>
  intro a h;rw [e1I,e0f] at h;have hd:Lib.digitVal c=some (c.toNat - 48):=by
   have h1:=h.1;unfold a0C at h1;rw [e0f] at h1;unfold Lib.digitVal;rw [d9P ⟨e0b h1.1,e0b h1.2⟩]
  rw [Lib.decFrom,hd];exact ih _ h.2
theorem a2J {c:UInt8}(h:a0C c=true):48<=c.toNat/\c.toNat<=57:=by
 unfold a0C at h;rw [e0f] at h;exact ⟨e0b h.1,e0b h.2⟩
theorem c3l {l:List UInt8}(h0:l≠[])(h:l.all a0C=true):Lib.atoi l=some (dv l:Int):=by
 cases l with
 | nil=>exact d9R rfl h0
 | cons c l =>
  have hc:a0C c=true:=by rw [e1I,e0f] at h;exact h.1
  obtain ⟨c1,c2⟩:=a2J hc;have e1:(c==45)=false:=by
   rw [e0g];intro hh;subst hh;simp at c1
  have e2:(c==43)=false:=by
   rw [e0g];intro hh;subst hh;simp at c1
  unfold Lib.atoi;dsimp only;rw [e1,e2];simp only [e1O,if_false];unfold Lib.decNat;simp only [List.isEmpty_cons,e1O,if_false];rw [b4v _ _ h];rfl
theorem a6a (l:List UInt8)(h:l.all a0C=true):dv l<10^l.length:=by
 induction l with
 | nil=>decide
 | cons c l ih =>
  rw [e1I,e0f] at h;have h1:dv (c::l)=dvF (0*10+(c.toNat - 48)) l:=rfl;have h2:=ih h.2;obtain ⟨c1,c2⟩:=a2J h.1;rw [h1,c5Z,e2z,e0v,d9Y,e0J,e0t _ 10];have h3:(c.toNat - 48)*10^l.length<=9*10^l.length:=e0o _ (by omega);omega
def d6C (o:Option D)(z:Int):Bool:=match o with
 | some (.agg [.prim (.int .i64 a),.prim (.slice none 0 0)])=>a==z
 | _=>false
theorem b8k {o:Option D}{z:Int}(h:d6C o z=true):o=some (smI z):=by
 unfold d6C at h;split at h
 ·rw [e1L] at h;subst h;rfl
 ·cases h
theorem c7d:((List.range 19).all fun k=>d6C ((evF X1 1000 60).1 193 [smI 10,i64 (k:Nat)]) ((10^k:Nat):Int))=true:=by kernel_rfl
theorem d2M (k:Nat)(h:k<19):a0b C0 193 [smI 10,i64 k] (smI ((10^k:Nat):Int)):=by
 refine d9H a4H 1000 60 ?_;exact b8k (e0B.1 c7d k (List.mem_range.2 h))
theorem c7n {n:Nat}(h:n<9223372036854775808):smI (n:Int)=(mkG (n:Int)).D:=by
 rw [a7N ⟨by omega,by omega⟩];rfl
theorem d7R (a b:Nat)(ha:(a0h a).length<1000000)(hb:(a0h b).length<1000000):a0b C0 144 [(mkG (a:Int)).D,(mkG (b:Int)).D] (mkG ((a+b:Nat):Int)).D:=by
 have:=c6Z (mkG (a:Int)) (mkG (b:Int)) (a1k _) (a1k _) (a3J ha) (a3J hb)
 have e:b6f (mkG (a:Int)) (mkG (b:Int))=mkG ((a+b:Nat):Int):=by
  have h1:=b9o (mkG (a:Int)) (mkG (b:Int));rw [a3L,a3L] at h1;rw [c1m (b4g _ _) (by rw [h1];omega),h1]
  congr 1
 rw [e] at this;exact this
theorem a3T {n k:Nat}(h:n<10^k):(a0h n).length<=k:=a1f (e0E h (e3e (by decide) k))
def rv (l:List UInt8):Int:=if a2g l then -(dv (a0n l):Int) else dv (a0n l)
theorem c7v (k:Nat)(h:k<19):a0b C0 193 [smI 10,i64 k] (mkG ((10^k:Nat):Int)).D:=by
 have:=d2M k h
 have h2:10^k<9223372036854775808:=e0I (e1l (by decide) (show k<=18 by omega)) (by decide)
 rwa [c7n h2] at this
theorem d3A (n:Nat)(h:n<9223372036854775808):a0b C0 136 [i64 n] (mkG (n:Int)).D:=by
 have:=b9d (n:Int)
 rwa [c7n h] at this
theorem b1J (l:List UInt8)(hd:(a0n l).all a0C=true)(hl:l.length<=100000):a0b C0 140 [str (sb l)] (mkG (rv l)).D:=by
 refine a0c.walk w1 c5U rfl fun F=>?_
 have c1:=b2D l (by omega);have c2:=a6S l (by omega);have hml:(a0n l).length<=100000:=by
  unfold a0n;split
  ·rw [e1a];omega
  ·exact hl
 unfold rv;generalize hm0:a0n l=m0 at *;generalize a2g l=ng at *;generalize sb l=sl at *;have ez:smI 0=(mkG ((0:Nat):Int)).D:=c7n (by decide);have hpm:∀ n:Nat,IsPure (mkG (n:Int)).w:=fun n=>d9O
 refine sR 0 ?_;refine sR 100 ?_;refine cI c1 ?_;refine sR 200 ?_;refine cI c2 ?_;refine sR 300 ?_;refine d9A (α:=Nat) (fun n=>⟨[(2,.optr 0 0 2 0 0),(3,boo ng),(4,.optr 301 8 2 0 0)],[⟨301,8,114,2,[(mkG (dv m0:Int)).D]⟩,⟨0,0,114,2,[smI 0]⟩],n⟩) (fun _=>True) ?_ ?_
 ·refine OkS.block ?_
  refine d9k (α:=List UInt8 × Nat × Nat) (fun p=>⟨[(0,str (sb p.1)),(2,.optr 0 0 2 0 0),(3,boo ng),(4,.optr 301 8 2 0 0)],[⟨301,8,114,2,[(mkG (p.2.1:Int)).D]⟩,⟨0,0,114,2,[smI 0]⟩],p.2.2⟩) (fun p=>p.1.length)
   (fun p F'=>F'=F/\p.1.all a0C=true/\p.1.length<=m0.length/\p.2.1<10^(m0.length - p.1.length)/\dv m0=p.2.1*10^p.1.length+dv p.1) (m0,0,20) ⟨rfl,hd,d9Z _,by simp,by simp⟩ (by rw [<- ez];exact wkI) ?_
  rintro ⟨m,A,n⟩ F' ⟨rfl,h1,h2,h3,h4⟩;dsimp only at h1 h2 h3 h4 ⊢;refine OkS.seq ?_;refine OkS.seq ?_
  by_cases hm:m=[]
  ·subst hm
   have e1:decide (((sb []).size:Int)>0)=false:=rfl;have hA:dv m0=A:=by simpa [dv,dvF] using h4
   rw [hA];refine d9l w1 400 (by kernel_rfl) ?_;refine nwI e1 ?_;refine ifI ?_;refine exI ?_;exact ⟨rfl,_,trivial,wkI⟩
  ·have hm1:0<m.length:=List.length_pos_iff.2 hm
   have hsz:=a0x m;obtain ⟨k,hk⟩:∃ k,k=min 18 m.length:=⟨_,rfl⟩
   have e1:decide (((sb m).size:Int)>0)=true:=d9S (by rw [hsz];omega);have ek:min (18:Int) ((sb m).size:Int)=(k:Int):=by rw [hsz];omega
   have b1:(k:Int)<=((sb m).size:Int):=by rw [hsz];omega
   have e22:(sb m).extract 0 ((k:Int)).toNat=sb (m.take k):=by rw [a2r];rfl
   have e36:(sb m).extract ((k:Int)).toNat (sb m).size=sb (m.drop k):=by
    rw [a2r,hsz,e0k (d9Z _)];rfl
   have htk:(m.take k).all a0C=true:=e0B.2 fun c hc=>e0B.1 h1 c (e2t hc)
   have hdk:(m.drop k).all a0C=true:=e0B.2 fun c hc=>e0B.1 h1 c (e2m hc)
   have hlk:(m.take k).length=k:=by rw [e0n];omega
   have hv:=a6a _ htk;rw [hlk] at hv;have h18:10^k<=10^18:=e1l (by decide) (by omega);have ca:=b5m (sb (m.take k)) (dv (m.take k):Int) (by rw [a0x,hlk];omega) (c3l (by intro h;change m.take k=[] at h;rw [h] at hlk;simp at hlk;omega) htk);have hval:dv m=dv (m.take k)*10^(m.drop k).length+dv (m.drop k):=by
    conv=>lhs;rw [<- e1j k m]
    exact a5m _ _
   generalize dv (m.take k)=v at *;have hAl:(a0h A).length<=100000:=e0A (a3T h3) (by omega);have h10:(a0h (10^k)).length<=19:=a3T (k:=19) (Nat.pow_lt_pow_right (by decide) (by omega));have hmul:=a5o A (10^k);have cp:=c7v k (by omega);have c3:=d6K A (10^k) (by omega) (by omega);have cv:=d3A v (by omega);have hvl:(a0h v).length<=19:=a3T (k:=19) (e0E hv (e1l (by decide) (by omega)));have c4:=d7R (A*10^k) v (by omega) (by omega);refine d9l w1 400 (by kernel_rfl) ?_;refine nwI e1 ?_;refine ifI ?_;refine skI ?_;refine OkS.block ?_;refine sZ 500 ?_;refine nwI ek ?_;refine sZ 600 ?_;refine nwI e22 ?_;refine cI ca ?_;refine OkS.seq ?_;refine d9n w1 700 [0,1,2,3,4,5] [6,7,8] (by kernel_rfl) ?_;refine stI ?_;refine a0r.same _ (b9d 10) d9O ?_;refine stI ?_;refine a0r.same _ (cp) d9O ?_;refine stI ?_;refine a0r.same _ (c3) d9O ?_;refine stI ?_;refine cI cv ?_;refine cI c4 ?_;refine d9l w1 800 (by kernel_rfl) ?_;refine nwI e36 ?_;refine ⟨(m.drop k,A*10^k+v,_),⟨trivial,hdk,?_,?_,?_⟩,?_,wkI⟩
   ·dsimp only;rw [e1a];omega
   ·dsimp only
    rw [e1a,show m0.length - (m.length - k)=(m0.length - m.length)+k by omega,e2s];have h5:(A+1)*10^k<=10^(m0.length - m.length)*10^k:=e0o _ h3;rw [e0H] at h5;omega
   ·dsimp only
    rw [h4,hval,e1a];have h6:10^m.length=10^k*10^(m.length - k):=by rw [<- e2s];congr 1;omega
    rw [h6,e0H,e0D];omega
   ·dsimp only;rw [e1a];omega
 rintro n -;have hAl:(a0h (dv m0)).length<=100000:=e0A (a3T (a6a _ hd)) hml;have cn:=b9M (mkG (dv m0:Int)) (a1k _) (a3J (by omega));rw [a3L] at cn;have hpn:IsPure (mkG (-(dv m0:Int))).w:=d9O;refine OkS.seq ?_;refine sR 900 ?_;cases ng with
 | true =>
  rw [d9P rfl];refine ifI ?_;refine sR 1000 ?_;refine cI cn ?_;refine rtI ?_;exact a0a rfl IsPure.out
 | false =>
  rw [d9Q (by simp)];refine ifI ?_;refine skI ?_;refine sR 1100 ?_;refine rtI ?_;exact a0a rfl IsPure.out
def c5d (l:List UInt8):Bool:=!decide (l=[])&&l.all a0C
def a1n (l:List UInt8):Bool:=c5d l&&(decide (l=[48]) || !decide (l.head? = some 48))
def a2u (l:List UInt8):List UInt8:=l.take (a0f l)
def a1I (l:List UInt8):List UInt8:=l.drop (a0f l+1)
def a4J (l:List UInt8):Bool:=decide (a0f l<l.length)
def a0N (l:List UInt8):List UInt8:=a0n (a2u l)
def a4k (l:List UInt8):Bool:=!a1n (a0N l)||decide (a2u l=[45,48])||(a4J l&&(!a1n (a1I l)||decide (a1I l=[48])||decide (a1I l=[49])))
def chk (l:List UInt8):Nat:=if a4k l then 1 else if 600<(a0N l).length\/600<(a1I l).length then 4
 else if a4J l=true/\Nat.gcd (dv (a0N l)) (dv (a1I l))≠1 then 1 else 0
theorem a2T {l:List UInt8}(h:a1n l=true):l≠[]/\l.all a0C=true:=by
 unfold a1n c5d at h;rw [e0f,e0f] at h;exact ⟨by have:=h.1.1;simpa using this,h.1.2⟩
theorem a7l {l:List UInt8}(h:l.all a0C=true):a2g l=false:=by
 cases l with
 | nil=>rfl
 | cons c l =>
  rw [e1I,e0f] at h;obtain ⟨c1,c2⟩:=a2J h.1;show (c==45)=false;rw [e0g];intro hh;subst hh;simp at c1
theorem a2a {l:List UInt8}(h:l.all a0C=true):a0n l=l:=by unfold a0n;rw [a7l h];rfl
theorem b0L {l:List UInt8}(h:l.all a0C=true):rv l=(dv l:Int):=by
 unfold rv;rw [a7l h,a2a h];rfl
theorem b9v (l:List UInt8)(hl:l.length<=1000000000):a0b C0 206 [str (sb l)] (boo (c5d l)):=by
 refine a0c.walk w1 c4o rfl fun F=>?_
 have ct:=TrimW.trim_ok l hl;have eS:=a5N l [];have eT:=a5N ((a6d l).dropWhile a0C) [];have hall:decide ((a6d l).dropWhile a0C=[])=l.all a0C:=by
  rw [e1D,decide_eq_true_iff];exact c2p l
 rw [hall] at eT;unfold c5d;rw [<- eS];generalize hb:a1z (sb l) (sb [])=b at *;refine sR 0 ?_;refine OkS.seq ?_;cases b with
 | true =>
  have e1:(!a1z (sb l) (sb []))=false:=by rw [hb];rfl
  refine d9l w1 100 (by kernel_rfl) ?_;refine nwI e1 ?_;refine gwI e1 ?_;refine rtI ?_;exact a0a rfl IsPure.out
 | false =>
  have e1:(!a1z (sb l) (sb []))=true:=by rw [hb];rfl
  refine d9l w1 100 (by kernel_rfl) ?_;refine nwI e1 ?_;refine gwI e1 ?_;refine gcI e1 ?_;refine a0j.same _ ct d9O ?_;refine gwI (ff2 e1 eT) ?_;refine rtI ?_;exact a0a rfl IsPure.out
theorem b6B (l:List UInt8)(hl:l.length<=1000000000):a0b C0 151 [str (sb l)] (boo (a1n l)):=by
 refine a0c.walk w1 c6b rfl fun F=>?_
 have cd:=b9v l hl;have e0:=a5N l [48];unfold a1n;refine sR 0 ?_;refine sR 100 ?_;refine cI cd ?_;rcases hd:c5d l with _|_
 ·refine gwI (ff2 kT e1O) ?_
  refine gwI (ff2 kT e1O) ?_;refine rtI ?_;exact a0a rfl IsPure.out
 ·obtain ⟨c,m,rfl⟩:∃ c m,l=c::m:=by
   cases l with
   | nil=>cases hd
   | cons c m=>exact ⟨c,m,rfl⟩
  have hsz:=a0x (c::m);rw [d9Y] at hsz;have hx:(((sb (c::m)).data.toList.getD ((0:Int)).toNat 0).toNat:Int)=(c.toNat:Int):=rfl;have b0:(0:Int)<((sb (c::m)).size:Int):=by rw [hsz];omega
  by_cases h0:(c::m)=[48]
  ·rw [d9S h0] at e0 ⊢
   refine gwI e0 ?_;refine gwI (ff2 e0 kT) ?_;refine gwI (ff2 e0 kT) ?_;refine rtI ?_;exact a0a rfl IsPure.out
  ·rw [d9U h0] at e0 ⊢
   have e1:((c.toNat:Int) != 48) = !decide (c=48):=by
    rw [e1D];simp only [bne_iff_ne,ne_eq,e0a,e2k];constructor
    ·intro h hc;subst hc;exact h rfl
    ·intro h hc
     apply h
     have:c.toNat=48:=by omega
     exact UInt8.toNat_inj.1 this
   refine gwI e0 ?_;refine gwI (ff4 e0 kF hx e1) ?_;refine gwI (ff4 e0 kF hx e1) ?_;refine rtI ?_;exact a0a (by simp) IsPure.out
theorem c8q (n:Nat):a0b C0 153 [(mkG (n:Int)).D] (.tup [i64 (mkG (n:Int)).s,boo (decide (Sm (n:Int)))]):=by
 refine a0c.walk w1 c4Q rfl fun F=>?_
 by_cases hs:Sm (n:Int)
 ·obtain ⟨a1,a2⟩:=d3Z hs
  dsimp only [GI.D];rw [a1,a2,d9S hs];refine sR 0 ?_;refine OkS.seq ?_;refine d9n w1 100 [0,1,2,3,4,5] [6] (by kernel_rfl) ?_;refine stI ?_;refine rtI ?_;exact a0a rfl IsPure.out
 ·obtain ⟨a1,a2,a3⟩:=d5L hs
  dsimp only [GI.D];rw [a1,a2,d9U hs];generalize (a0h n).map a0k=l at *;refine sR 0 ?_;refine OkS.seq ?_;refine d9n w1 100 [0,1,2,3,4,5] [6] (by kernel_rfl) ?_;refine nwI (ff3 (@ne_eq (List D)) a3 e1c) ?_;refine rtI ?_;exact a0a rfl IsPure.out
def a0q (l:List UInt8):GF:=⟨mkG (rv (a2u l)),if a4J l then dv (a1I l) else 1⟩
theorem c7j (l:List UInt8)(hl:l.length<=100000)(h1:(a0N l).all a0C=true)(h2:a4J l=true->(a1I l).all a0C=true):a0b C0 75 [str (sb l)] (a0q l).D:=by
 refine a0c.walk w1 d1W rfl fun F=>?_
 have cc:=c6a l (by omega);have r1:=b1J (a2u l) h1 (by unfold a2u;rw [e0n];omega);have hpw:IsPure (mkG (rv (a2u l))).w:=d9O;unfold a0q;change a0b C0 _ _ (.tup [str (sb (a2u l)),str (sb (a1I l)),boo (a4J l)]) at cc;rcases hs:a4J l with _|_
 ·rw [hs] at cc
  have wg:=c8t (mkG (rv (a2u l)));have hp1:IsPure (mkG ((1:Nat):Int)).w:=d9O;rw [d9Q (by simp)];dsimp only [GI.D,GF.D] at *;refine sR 0 ?_;refine sR 100 ?_;refine cI cc ?_;refine OkS.seq ?_;refine sR 200 ?_;refine ifI ?_;refine sR 300 ?_;refine cI r1 ?_;refine cI wg ?_;refine rtI ?_;exact a0a rfl IsPure.out
 ·rw [hs] at cc
  have hd:=h2 hs;have r2:=b1J (a1I l) (by rw [a2a hd];exact hd) (by unfold a1I;rw [e1a];omega);rw [b0L hd] at r2;have hp1:IsPure (mkG (dv (a1I l):Int)).w:=d9O;rw [d9P rfl];dsimp only [GI.D,GF.D] at *;refine sR 0 ?_;refine sR 100 ?_;refine cI cc ?_;refine OkS.seq ?_;refine sR 200 ?_;refine ifI ?_;refine skI ?_;refine sR 400 ?_;refine cI r1 ?_;refine cI r2 ?_;refine rtI ?_;exact a0a rfl IsPure.out
set_option maxHeartbeats 4000000
theorem d2t (g:Nat):((g:Int) != 1)=decide (g≠1):=by
 rw [e1D,bne_iff_ne,decide_eq_true_iff];omega
theorem a8e (l:List UInt8)(hl:l.length<=100000):a0b C0 82 [str (sb l)] (i64 (chk l)):=by
 refine a0c.walk w1 c9l rfl fun F=>?_
 have cc:=c6a l (by omega);change a0b C0 _ _ (.tup [str (sb (a2u l)),str (sb (a1I l)),boo (a4J l)]) at cc;have hnl:(a2u l).length<=100000:=by unfold a2u;rw [e0n];omega
 have hdl:(a1I l).length<=100000:=by unfold a1I;rw [e1a];omega
 have hsl:(a0N l).length<=100000:=by
  unfold a0N a0n;split
  ·rw [e1a];omega
  ·exact hnl
 have ct:=a6S (a2u l) (by omega);change a0b C0 _ _ (str (sb (a0N l))) at ct;have p1:=b6B (a0N l) (by omega);have p2:=b6B (a1I l) (by omega);have en:=a5N (a2u l) [45,48];have e0:=a5N (a1I l) [48];have e1:=a5N (a1I l) [49];have z1:=a0x (a0N l);have z2:=a0x (a1I l);have hbf:∃ b,b=a4k l:=⟨_,rfl⟩
 obtain ⟨bf,hbf⟩:=hbf;unfold chk;rw [<- hbf];unfold a4k at hbf;refine sR 0 ?_;refine sR 100 ?_;refine cI cc ?_;refine sR 200 ?_;refine cI ct ?_;refine OkS.seq ?_;refine d9A (α:=Nat) (fun n=>⟨[(4,str (sb (a1I l))),(5,boo (a4J l)),(6,str (sb (a0N l))),(39,boo bf)],[],n⟩) (fun _=>True) ?_ ?_
 ·refine rI 300 ?_
  refine cI p1 ?_;rcases hp:a1n (a0N l) with _|_
  ·rw [hp] at hbf
   have hb:bf=true:=by rw [hbf];rfl
   subst hb;simp only [e0S];refine gwI kT ?_;refine gwI kT ?_;exact ⟨trivial,_,trivial,wkI⟩
  ·rw [hp] at hbf
   simp only [e0V]
   by_cases hn:a2u l=[45,48]
   ·rw [d9S hn] at en hbf
    have hb:bf=true:=by rw [hbf];rfl
    subst hb;refine gwI (ff2 kF en) ?_;refine gwI (ff3 kF kT en) ?_;exact ⟨trivial,_,trivial,wkI⟩
   ·rw [d9U hn] at en hbf
    rcases hs:a4J l with _|_
    ·rw [hs] at hbf
     have hb:bf=false:=by rw [hbf];rfl
     subst hb;refine gwI (ff2 kF en) ?_;refine gwI (ff4 kF kT en hs) ?_;refine gwI (ff4 kF kT en hs) ?_;exact ⟨trivial,_,trivial,wkI⟩
    ·rw [hs] at hbf
     refine gwI (ff2 kF en) ?_;refine gwI (ff3 kF en hs) ?_;refine gcI hs ?_;refine a0j.same _ p2 d9O ?_;refine dsI ?_;rcases hq:a1n (a1I l) with _|_
     ·rw [hq] at hbf
      have hb:bf=true:=by rw [hbf];rfl
      subst hb;refine gwI (ff3 kF kT hq) ?_;refine gwI (ff3 kF kT hq) ?_;refine gwI (ff3 kF kT hq) ?_;exact ⟨trivial,_,trivial,wkI⟩
     ·rw [hq] at hbf
      refine gwI hq ?_;simp only [e0V];refine gwI kF ?_
      by_cases h0:a1I l=[48]
      ·rw [d9S h0] at e0 hbf
       have hb:bf=true:=by rw [hbf];rfl
       subst hb;simp only [e0,imp_self];refine gwI kT ?_;refine a1j rfl rfl rfl (by simp only [e0S]) (by simp) (a1X (fun _ _=>rfl) ?_);refine gwI kF ?_;exact ⟨trivial,_,trivial,wkI⟩
      ·rw [d9U h0] at e0 hbf
       simp only [e0];refine gwI kF ?_
       by_cases h1:a1I l=[49]
       ·rw [d9S h1] at e1 hbf
        have hb:bf=true:=by rw [hbf];rfl
        subst hb;simp only [e1];exact ⟨trivial,_,trivial,wkI⟩
       ·rw [d9U h1] at e1 hbf
        have hb:bf=false:=by rw [hbf];rfl
        subst hb;simp only [e1];exact ⟨trivial,_,trivial,wkI⟩
 rintro n -;cases bf with
 | true =>
  rw [d9P rfl];refine ifI ?_;refine sR 400 ?_;refine rtI ?_;exact a0a rfl IsPure.out
 | false =>
  rw [d9Q (by simp)];have hbf:=hbf.symm;simp only [e2b,e0c,Bool.and_eq_false_iff] at hbf;obtain ⟨⟨hp,hn⟩,hd⟩:=hbf;refine ifI ?_;refine skI ?_;have hsd:=(a2T hp).2;refine OkS.seq ?_;refine d9A (α:=Nat) (fun n=>⟨[(4,str (sb (a1I l))),(5,boo (a4J l)),(6,str (sb (a0N l))),(47,boo (decide (600<(a0N l).length\/600<(a1I l).length)))],[],n⟩) (fun _=>True) ?_ ?_
  ·by_cases hA:600<(a0N l).length
   ·have ea:decide (((sb (a0N l)).size:Int)>600)=true:=d9S (by rw [z1];omega)
    have eb:decide (600<(a0N l).length\/600<(a1I l).length)=true:=d9S (Or.inl hA);rw [eb];refine d9l w1 500 (by kernel_rfl) ?_;refine nwI ea ?_;refine gwI kT ?_;exact ⟨trivial,_,trivial,wkI⟩
   ·have ea:decide (((sb (a0N l)).size:Int)>600)=false:=d9U (by rw [z1];omega)
    have eb:decide (((sb (a1I l)).size:Int)>600)=decide (600<(a0N l).length\/600<(a1I l).length):=by
     rw [e0O,z2];omega
    refine d9l w1 500 (by kernel_rfl) ?_;refine nwI ea ?_;refine gwI kF ?_;simp only [eb];exact ⟨trivial,_,trivial,wkI⟩
  rintro n -
  by_cases hL:600<(a0N l).length\/600<(a1I l).length
  ·rw [d9S hL,d9P hL]
   refine ifI ?_;refine sR 600 ?_;refine rtI ?_;exact a0a rfl IsPure.out
  ·rw [d9U hL,d9Q hL]
   refine ifI ?_;refine skI ?_;refine OkS.seq ?_;refine sR 700 ?_;rcases hs:a4J l with _|_
   ·rw [d9Q (by simp)]
    refine ifI ?_;refine skI ?_;refine sR 1100 ?_;refine rtI ?_;exact a0a rfl IsPure.out
   ·rw [hs] at hd
    have hd':=hd.resolve_left (by simp);have hdd:=(a2T hd'.1.1).2;have r1:=b1J (a0N l) (by rw [a2a hsd];exact hsd) hsl;have r2:=b1J (a1I l) (by rw [a2a hdd];exact hdd) hdl;rw [b0L hsd] at r1;rw [b0L hdd] at r2;have l1:(a0h (dv (a0N l))).length<=100000:=e0A (a3T (a6a _ hsd)) hsl;have l2:(a0h (dv (a1I l))).length<=100000:=e0A (a3T (a6a _ hdd)) hdl;have cg:=d2Q (mkG (dv (a0N l):Int)) (mkG (dv (a1I l):Int)) (a1k _) (a1k _) (a3J (by omega)) (a3J (by omega));rw [a3L,a3L,e1d,e1d] at cg;have cs:=c8q (Nat.gcd (dv (a0N l)) (dv (a1I l)));obtain ⟨g,hg0⟩:∃ g,g=Nat.gcd (dv (a0N l)) (dv (a1I l)):=⟨_,rfl⟩
    rw [<- hg0] at cg cs;simp only [<- hg0];have hpa:IsPure (mkG (dv (a0N l):Int)).w:=d9O;have hpb:IsPure (mkG (dv (a1I l):Int)).w:=d9O;have hpg:IsPure (mkG (g:Int)).w:=d9O;dsimp only [GI.D] at r1 r2 cg cs;refine ifI ?_;refine sR 800 ?_;refine cI r1 ?_;refine cI r2 ?_;refine cI cg ?_;refine cI cs ?_;refine d9A (α:=Nat) (fun n=>⟨[(63,boo (decide (g≠1)))],[],n⟩) (fun _=>True) ?_ ?_
    ·by_cases hg:Sm (g:Int)
     ·obtain ⟨a1,a2⟩:=d3Z hg
      have eg:=d2t g;rw [a1,d9S hg];refine rI 900 ?_;simp only [e0V];refine gwI kF ?_;simp only [eg];exact ⟨trivial,_,trivial,wkI⟩
     ·have eg:decide (g≠1)=true:=d9S fun h=>hg (by rw [h];exact ⟨by decide,by decide⟩)
      rw [eg,d9U hg];refine rI 900 ?_;simp only [e0S];refine gwI kT ?_;exact ⟨trivial,_,trivial,wkI⟩
    rintro n -
    by_cases hg:g=1
    ·rw [d9U (fun h=>h hg),d9Q (fun h=>h.2 hg)]
     refine ifI ?_;refine skI ?_;refine sR 1100 ?_;refine rtI ?_;exact a0a rfl IsPure.out
    ·rw [d9S hg,d9P ⟨trivial,hg⟩]
     refine ifI ?_;refine sR 1000 ?_;refine rtI ?_;exact a0a rfl IsPure.out
abbrev RB:Nat:=1000000000
def a0s (n:Nat):List Nat:=if _h:n=0 then [] else (n%RB)::a0s (n / RB)
termination_by n
decreasing_by exact e2h (e0T _h) (by decide)
def a0i:List Nat->Nat
 | []=>0
 | a::l=>a+RB*a0i l
def Rd (l:List Nat):Prop:=∀ a∈l,a<RB
theorem a0K:a0s 0=[]:=by unfold a0s;rfl
theorem a1C {n:Nat}(h:n≠0):a0s n=(n%RB)::a0s (n / RB):=by rw [a0s,dif_neg h]
theorem a0D (n:Nat):Rd (a0s n):=by
 induction n using Nat.strongRecOn with
 | ind n ih =>
  by_cases h:n=0
  ·subst h;rw [a0K];intro a ha;cases ha
  ·rw [a1C h]
   intro a ha;rcases e0m.1 ha with rfl|ha
   ·exact e0L _ (by decide)
   ·exact ih _ (e2h (e0T h) (by decide)) a ha
theorem a0u (n:Nat):a0i (a0s n)=n:=by
 induction n using Nat.strongRecOn with
 | ind n ih =>
  by_cases h:n=0
  ·subst h;rw [a0K];rfl
  ·rw [a1C h,a0i,ih _ (e2h (e0T h) (by decide))]
   exact e1y n RB
theorem a1o (l m:List Nat):a0i (l++m)=a0i l+RB^l.length*a0i m:=by
 induction l with
 | nil=>simp [a0i]
 | cons a l ih =>
  simp only [e1v,a0i,ih,d9Y,e0J,e0r];rw [e0t (RB^l.length) RB,e0D,e1E]
theorem Rd.tail {a:Nat}{l:List Nat}(h:Rd (a::l)):Rd l:=fun b hb=>h b (e0X _ hb)
theorem Rd.head {a:Nat}{l:List Nat}(h:Rd (a::l)):a<RB:=h a e1x
theorem Rd.append {l m:List Nat}(h:Rd l)(k:Rd m):Rd (l++m):=fun a ha=>(List.mem_append.1 ha).elim (h a) (k a)
theorem Rd.take {l:List Nat}(h:Rd l)(n:Nat):Rd (l.take n):=fun a ha=>h a (e2t ha)
theorem a1t:∀ {l:List Nat},Rd l->a0i l<RB^l.length
 | [],_=>by simp [a0i]
 | a::l,h=>by
  have h1:=a1t h.tail;have h2:=h.head;rw [a0i,d9Y,e0J]
  calc a+RB*a0i l<RB+RB*a0i l:=by omega
   _=RB*(a0i l+1):=by rw [e0r,e1W,e3h]
   _<=RB*RB^l.length:=e0C _ h1
   _=_:=e0t _ _
theorem a8M:∀ {l:List Nat},Rd l->(∀ a∈l.getLast?,a≠0)->a0s (a0i l)=l
 | [],_,_=>a0K
 | [a],h,hl=>by
  have ha:a≠0:=hl a (by simp);have hb:=h.head;rw [show a0i [a]=a from by simp [a0i],a1C ha,e0Y hb,e1Y hb,a0K]
 | a::b::l,h,hl=>by
  have ih:=a8M h.tail (fun x hx=>hl x (by simpa using hx));have hb:=h.head;have hv:a0i (b::l)≠0:=by
   intro h0;rw [h0,a0K] at ih;cases ih
  have e1:a0i (a::b::l)%RB=a:=by rw [a0i,e2T,e0Y hb]
  have e2:a0i (a::b::l) / RB=a0i (b::l):=by
   rw [a0i,e3p _ _ (by decide),e1Y hb,e0v]
  have hne:a0i (a::b::l)≠0:=by
   intro h0;rw [h0] at e2;exact hv (by rw [<- e2];rfl)
  rw [a1C hne,e1,e2,ih]
theorem a7P:∀ (k:Nat),a0i (List.replicate k 0)=0
 | 0=>rfl
 | k+1=>by rw [List.replicate_succ,a0i,a7P k,e1K]
theorem a0F (b:Nat):∀ a,b<=a->(a0s b).length<=(a0s a).length:=by
 induction b using Nat.strongRecOn with
 | ind b ih =>
  intro a h
  by_cases hb:b=0
  ·subst hb;rw [a0K];exact e0y _
  ·rw [a1C hb,a1C (n:=a) (by omega),d9Y,d9Y]
   exact Nat.succ_le_succ (ih _ (e2h (e0T hb) (by decide)) _ (Nat.div_le_div_right h))
theorem a5S {a b:Nat}(h:(a0s a).length<(a0s b).length):a<b:=by
 rcases e0j a b with h1|h1
 ·exact h1
 ·have:=a0F b a h1;omega
theorem a5n {l:List Nat}{k a:Nat}(h:l[k]? = some a):a0i l=a0i (l.take k)+RB^k*(a+RB*a0i (l.drop (k+1))):=by
 have hk:k<l.length:=(List.getElem?_eq_some_iff.1 h).1
 conv=>lhs;rw [<- e1j k l]
 rw [a1o,e0n,e1P (by omega)]
 have:l.drop k=a::l.drop (k+1):=by
  rw [e0P hk]
  congr 1
  exact (List.getElem?_eq_some_iff.1 h).2
 rw [this,a0i]
theorem a7K {l m:List Nat}{k a b:Nat}(hl:Rd l)(ha:l[k]? = some a)(hb:m[k]? = some b)(hd:l.drop (k+1)=m.drop (k+1))(hab:a<b):a0i l<a0i m:=by
 have hk:k<l.length:=(List.getElem?_eq_some_iff.1 ha).1;rw [a5n ha,a5n hb,hd];have h1:=a1t (hl.take k);rw [e0n,e1P (by omega)] at h1;generalize a0i (m.drop (k+1))=r;have h2:RB^k*(a+RB*r)+RB^k<=RB^k*(b+RB*r):=by
  rw [<- Nat.mul_succ];exact e0C _ (by omega)
 omega
theorem a0W {l:List Nat}{i a:Nat}(hi:l.length=i):a0i (l++[a])=a0i l+RB^i*a:=by rw [a1o,hi];simp [a0i]
theorem Rd.set {l:List Nat}(h:Rd l){i a:Nat}(ha:a<RB):Rd (l.set i a):=fun b hb=>by
 rcases e2S hb with h1|rfl
 ·exact h b h1
 ·exact ha
theorem a7e (n:Nat):Rd (List.replicate n 0):=fun a ha=>by rw [e2B ha];decide
theorem a3X:∀ {l:List Nat} {k o d:Nat},l[k]? = some o->a0i (l.set k d)+RB^k*o=a0i l+RB^k*d
 | a::l,0,o,d,h=>by
  simp only [e2Y,e0e] at h;subst h;simp only [List.set_cons_zero,a0i,e3z,e3c];omega
 | a::l,k+1,o,d,h=>by
  simp only [e1M] at h;have ih:=a3X (d:=d) h;simp only [List.set_cons_succ,a0i];have h1:RB^(k+1)*o=RB*(RB^k*o):=by rw [e0J,e0t (RB^k) RB,e0D]
  have h2:RB^(k+1)*d=RB*(RB^k*d):=by rw [e0J,e0t (RB^k) RB,e0D]
  have h3:RB*a0i (l.set k d)+RB*(RB^k*o)=RB*a0i l+RB*(RB^k*d):=by rw [<- e0r,<- e0r,ih]
  omega
theorem a1E {n k:Nat}(h:n<RB^k):(a0s n).length<=k:=by
 induction k generalizing n with
 | zero =>
  have:n=0:=by simpa using h
  subst this;rw [a0K];exact d9Z _
 | succ k ih =>
  by_cases h0:n=0
  ·subst h0;rw [a0K];exact e0y _
  ·rw [a1C h0,d9Y]
   exact Nat.succ_le_succ (ih (e1e (by rw [e0t,<- e0J];exact h)))
theorem a1M (n:Nat):n<RB^(a0s n).length:=by
 have:=a1t (a0D n)
 rwa [a0u] at this
theorem a9e (a b:Nat):(a0s (a+b)).length<=max (a0s a).length (a0s b).length+1:=by
 refine a1E ?_;have h1:=a1M a;have h2:=a1M b;have m1:RB^(a0s a).length<=RB^max (a0s a).length (a0s b).length:=e1l (by decide) (Nat.le_max_left _ _);have m2:RB^(a0s b).length<=RB^max (a0s a).length (a0s b).length:=e1l (by decide) (Nat.le_max_right _ _);rw [e0J];generalize RB^max (a0s a).length (a0s b).length=q at *;unfold RB;omega
theorem a9M (a b:Nat):(a0s (a - b)).length<=(a0s a).length:=a0F _ _ (Nat.sub_le _ _)
theorem a6h (a b:Nat):(a0s (a*b)).length<=(a0s a).length+(a0s b).length:=by
 refine a1E ?_;rw [e2s];exact Nat.mul_lt_mul'' (a1M a) (a1M b)
theorem a4j {n:Nat}(h0:n≠0)(h:n<RB):a0s n=[n]:=by
 rw [a1C h0,e0Y h,e1Y h,a0K]
theorem c1H {l:List Nat}{k a:Nat}(hl:l.length=k+1)(ha:l[k]? = some a):a0i l=a0i (l.take k)+RB^k*a:=by
 rw [a5n ha,e1p (by omega)];simp [a0i]
theorem d0R {l:List Nat}{k a b:Nat}(hl:l.length=k+2)(ha:l[k]? = some a)(hb:l[k+1]? = some b):a0i l=a0i (l.take k)+RB^k*(a+RB*b):=by
 rw [a5n ha]
 have:l.drop (k+1)=[b]:=by
  rw [e0P (by omega),e1p (by omega)]
  congr 1
  exact (List.getElem?_eq_some_iff.1 hb).2
 rw [this];simp [a0i]
theorem d1i {l:List Nat}{k a b c:Nat}(hl:l.length=k+3)(ha:l[k]? = some a)(hb:l[k+1]? = some b)(hc:l[k+2]? = some c):a0i l=a0i (l.take k)+RB^k*(a+RB*(b+RB*c)):=by
 rw [a5n ha];have h1:=c1H (l:=l.drop (k+1)) (k:=1) (a:=c) (by rw [e1a];omega) (by rw [e1N,e1E];exact hc);have h2:(l.drop (k+1)).take 1=[b]:=by
  rw [e0P (by omega)];simp only [List.take_succ_cons,e3s]
  congr 1
  exact (List.getElem?_eq_some_iff.1 hb).2
 rw [h1,h2];simp [a0i]
structure b3w (P v:List Nat)(m p0 p1 p2 v2 v1:Nat):Prop where
 lP:P.length=m+3
 lv:v.length=m+2
 wP:Rd P
 wv:Rd v
 h0:P[m]? = some p0
 h1:P[m+1]? = some p1
 h2:P[m+2]? = some p2
 g2:v[m]? = some v2
 g1:v[m+1]? = some v1
 top:0<v1
 less:a0i P<a0i v*RB
namespace b3w
variable {P v:List Nat} {m p0 p1 p2 v2 v1:Nat} (S:b3w P v m p0 p1 p2 v2 v1)
include S
theorem valP:a0i P=a0i (P.take m)+RB^m*(p0+RB*(p1+RB*p2)):=d1i S.lP S.h0 S.h1 S.h2
theorem valv:a0i v=a0i (v.take m)+RB^m*(v2+RB*v1):=d0R S.lv S.g2 S.g1
theorem lowP:a0i (P.take m)<RB^m:=by
 have:=a1t (S.wP.take m)
 rwa [e0n,e1P (by have:=S.lP;omega)] at this
theorem lowv:a0i (v.take m)<RB^m:=by
 have:=a1t (S.wv.take m)
 rwa [e0n,e1P (by have:=S.lv;omega)] at this
theorem p0l:p0<RB:=S.wP _ (d9V S.h0)
theorem p1l:p1<RB:=S.wP _ (d9V S.h1)
theorem p2l:p2<RB:=S.wP _ (d9V S.h2)
theorem v1l:v1<RB:=S.wv _ (d9V S.g1)
theorem v2l:v2<RB:=S.wv _ (d9V S.g2)
theorem below3:a0i P<(p0+RB*(p1+RB*p2)+1)*RB^m:=by
 rw [S.valP,e0H,e3c,e0t (RB^m)]
 have:=S.lowP
 omega
theorem below2:a0i P<(p1+RB*p2+1)*RB^(m+1):=by
 have h:=S.below3;have h1:=S.p0l;generalize p1+RB*p2=t at *;have h2:(p0+RB*t+1)*RB^m<=(RB*(t+1))*RB^m:=e0o _ (by rw [e0r RB t 1];omega);have h3:(t+1)*RB^(m+1)=(RB*(t+1))*RB^m:=by rw [e0J,e0t (RB^m) RB,<- e0D,e0t (t+1) RB]
 omega
theorem abovev:v1*RB^(m+1)<=a0i v:=by
 rw [S.valv,e0J,e0r]
 have:v1*(RB^m*RB)=RB^m*(RB*v1):=by rw [e0t v1,e0D]
 omega
theorem abovev2:(v2+RB*v1)*RB^m<=a0i v:=by
 rw [S.valv,e0t];omega
theorem pos:0<a0i v:=e0E (e2G S.top (Nat.pow_pos (by decide))) S.abovev
theorem p2v1:p2<=v1:=by
 rcases e0j v1 p2 with h|h
 ·exfalso
  have e1:RB^(m+2)*p2<=a0i P:=by
   rw [S.valP,e0r,e0r,e0r]
   have:RB^(m+2)*p2=RB^m*(RB*(RB*p2)):=by rw [e0J,e0J,e0D,e0D]
   omega
  have e2:a0i v<RB^(m+1)*(v1+1):=by
   have h1:=S.lowv;have h2:=S.v2l;have e3:RB^(m+1)*(v1+1)=RB^m*(RB*v1+RB):=by rw [e0J,e0D,e0r,e1W]
   have e4:RB^m*(v2+RB*v1+1)<=RB^m*(RB*v1+RB):=e0C _ (by omega);rw [e0r _ _ 1,e1W] at e4;rw [S.valv,e3];omega
  have e5:RB^(m+1)*(v1+1)*RB=RB^(m+2)*(v1+1):=by rw [Nat.mul_right_comm,<- e0J]
  have e6:RB^(m+2)*(v1+1)<=RB^(m+2)*p2:=e0C _ h;have e7:(a0i v)*RB<=RB^(m+1)*(v1+1)*RB:=e0o _ (e3i e2)
  have:=S.less
  omega
 ·exact h
end b3w
theorem a9G {A P v:List Nat}{q i z x d b c b' c' lo:Nat}(hz:A[i]? = some z)(hx:v[i]? = some x)(hI:a0i A+q*a0i (v.take i)=a0i P+RB^i*(c+b))
  (h1:lo+RB*c'=q*x+c) (h2:d+lo+b=z+RB*b'):a0i (A.set i d)+q*a0i (v.take (i+1))=a0i P+RB^(i+1)*(c'+b'):=by
 have hs:=a3X (d:=d) hz;have hi:i<v.length:=(List.getElem?_eq_some_iff.1 hx).1;rw [a0U hx,a0W (i:=i) (by rw [e0n];omega),e0r,e2a q,e0J,e0D];have e:RB^i*(d+q*x+(c+b))=RB^i*(z+RB*(c'+b')):=by congr 1;rw [e0r RB];omega
 rw [e0r,e0r,e0r (RB^i) z] at e;omega
theorem a7U {A P v:List Nat}{i z x c:Nat}(hz:A[i]? = some z)(hx:v[i]? = some x)(hI:a0i A+RB^i*c=a0i P+a0i (v.take i)) :
  a0i (A.set i ((z+x+c)%RB))+RB^(i+1)*((z+x+c) / RB)=a0i P+a0i (v.take (i+1)):=by
 have hs:=a3X (d:=(z+x+c)%RB) hz;have hi:i<v.length:=(List.getElem?_eq_some_iff.1 hx).1;rw [a0U hx,a0W (i:=i) (by rw [e0n];omega),e0J,e0D];have e:RB^i*((z+x+c)%RB+RB*((z+x+c) / RB))=RB^i*(z+x+c):=by rw [e1y]
 rw [e0r,e0r,e0r (RB^i) z] at e;omega
theorem b5g {n k:Nat}(h1:RB^k<=n)(h2:n<RB^(k+1)):(a0s n).length=k+1:=by
 have h3:=a1E h2;have h4:=e0I h1 (a1M n);have h5:=(Nat.pow_lt_pow_iff_right (show 1<RB by decide)).1 h4;omega
theorem a4w:∀ (n:Nat) {k a:Nat},(a0s n).length=k+1->(a0s n)[k]? = some a->a≠0:=fun n=>by
 induction n using Nat.strongRecOn with
 | ind n ih =>
  intro k a h1 h2
  by_cases h0:n=0
  ·subst h0;rw [a0K] at h1;cases h1
  ·rw [a1C h0] at h1 h2
   rw [d9Y] at h1;have h3:=Nat.succ.inj h1;cases k with
   | zero =>
    have h4:a0s (n / RB)=[]:=e0R h3;have h5:n / RB=0:=by rw [<- a0u (n / RB),h4];rfl
    have h6:=e1y n RB;rw [h5] at h6;simp at h2;intro h7;subst h7;rw [h2] at h6;omega
   | succ k =>
    rw [e1M] at h2;exact ih _ (e2h (e0T h0) (by decide)) h3 h2
theorem a7w {n k:Nat}(h:(a0s n).length=k+1):RB^k<=n:=by
 obtain ⟨a,ha⟩:=a3v (l:=a0s n) (i:=k) (by omega);have h1:=a4w n h ha;have h2:=c1H h ha;rw [a0u] at h2;have h3:=e0C (RB^k) (show 1<=a by omega);omega
theorem a5G {l:List Nat}{j a:Nat}(h:l[j]? = some a):a0i (l.drop j)=a+RB*a0i (l.drop (j+1)):=by
 have hj:j<l.length:=(List.getElem?_eq_some_iff.1 h).1;rw [e0P hj,(List.getElem?_eq_some_iff.1 h).2];rfl
theorem b3Y {a q:List Nat}{j x b rest:Nat}(hb:0<b)(hx:a[j]? = some x)(hj:j<q.length)(hI:a0i (q.drop (j+1))*b+rest=a0i (a.drop (j+1))) :
  a0i ((q.set j ((rest*RB+x) / b)).drop j)*b+(rest*RB+x)%b=a0i (a.drop j)/\(rest*RB+x)%b<b:=by
 refine ⟨?_,e0L _ hb⟩;rw [a8u hj,a5G hx,<- hI,a0i];have e:=e1A (rest*RB+x) b;rw [e0H,e0r RB,e0D RB,e0t RB rest,e0t _ b];omega
structure c6S (X:Nat)(v U q:List Nat)(lu lq k:Nat):Prop where
 lU:U.length=lu
 lQ:q.length=lq
 wU:Rd U
 wq:Rd q
 val:RB^k*a0i (q.drop k)*a0i v+a0i U=X
 less:a0i (U.drop k)<a0i v
theorem b6P {X:Nat}{v U q:List Nat}{lu lq j m:Nat}(I:c6S X v U q lu lq (j+1))(hv:v.length=m+2)(wv:Rd v)(v1 v2:Nat)(h2:v[m]? = some v2)(h1:v[m+1]? = some v1)(ht:0<v1)(hj:j+(m+3)<=lu) :
  ∃ p0 p1 p2,b3w ((U.drop j).take (m+3)) v m p0 p1 p2 v2 v1/\a0i (U.drop (j+(m+3)))=0/\a0i ((U.drop j).take (m+3))=a0i (U.drop j):=by
 obtain ⟨lU,lQ,wU,wq,val,less⟩:=I;obtain ⟨x,hx⟩:=a3v (l:=U) (i:=j) (by omega);have hxl:=wU x (d9V hx);have e1:=a5G hx;have hlt:a0i (U.drop j)<a0i v*RB:=by
  have:RB*(a0i (U.drop (j+1))+1)<=RB*a0i v:=e0C _ less
  rw [e0r,e0t RB (a0i v)] at this;omega
 have hPl:((U.drop j).take (m+3)).length=m+3:=by rw [e0n,e1a];omega
 have e2:a0i (U.drop j)=a0i ((U.drop j).take (m+3))+RB^(m+3)*a0i (U.drop (j+(m+3))):=by
  conv=>lhs;rw [<- e1j (m+3) (U.drop j)]
  rw [a1o,hPl,List.drop_drop]
 have hvl:=a1t wv;rw [hv] at hvl;have hz:a0i (U.drop (j+(m+3)))=0:=by
  rcases e0N (a0i (U.drop (j+(m+3)))) with h|h
  ·exact h
  ·exfalso
   have e3:RB^(m+3)*1<=RB^(m+3)*a0i (U.drop (j+(m+3))):=e0C _ h;have e4:a0i v*RB<=RB^(m+2)*RB:=e0o _ (e3i hvl);have e5:RB^(m+2)*RB=RB^(m+3):=(e0J RB (m+2)).symm;rw [e5] at e4;omega
 rw [hz,e1K,e1z] at e2;obtain ⟨p0,h0⟩:=a3v (l:=(U.drop j).take (m+3)) (i:=m) (by omega);obtain ⟨p1,h3⟩:=a3v (l:=(U.drop j).take (m+3)) (i:=m+1) (by omega);obtain ⟨p2,h4⟩:=a3v (l:=(U.drop j).take (m+3)) (i:=m+2) (by omega);exact ⟨p0,p1,p2,⟨hPl,hv,fun a ha=>wU a (e2m (e2t ha)),wv,h0,h3,h4,h2,h1,ht,by rw [<- e2];exact hlt⟩,hz,e2.symm⟩
theorem b7v {X:Nat}{v U q P':List Nat}{lu lq j m:Nat}(I:c6S X v U q lu lq (j+1))(hv:0<a0i v)(hj:j+(m+3)<=lu)(hjq:j<lq)(hz:a0i (U.drop (j+(m+3)))=0)(hP:a0i ((U.drop j).take (m+3))=a0i (U.drop j))
  (h1:P'.length=m+3) (h2:Rd P') (h3:a0i P'=a0i ((U.drop j).take (m+3))%a0i v) (hd:a0i ((U.drop j).take (m+3)) / a0i v<RB) :
  c6S X v (U.take j++(P'++U.drop (j+(m+3)))) (q.set j (a0i ((U.drop j).take (m+3)) / a0i v)) lu lq j:=by
 obtain ⟨lU,lQ,wU,wq,val,less⟩:=I;have hA:(U.take j).length=j:=by rw [e0n];omega
 have e0:a0i U=a0i (U.take j)+RB^j*a0i (U.drop j):=by
  conv=>lhs;rw [<- e1j j U]
  rw [a1o,hA]
 have e1:a0i (P'++U.drop (j+(m+3)))=a0i P':=by rw [a1o,hz,e1K,e1z]
 refine ⟨?_,by rw [e0G];exact lQ,?_,wq.set hd,?_,?_⟩
 ·rw [e0x,e0x,hA,h1,e1a];omega
 ·exact Rd.append (wU.take j) (Rd.append h2 fun a ha=>wU a (e2m ha))
 ·rw [a8u (by omega),a0i,a1o,hA,e1,h3,hP]
  rw [e0] at val;have e2:=e1A (a0i (U.drop j)) (a0i v);have e3:RB^(j+1)*a0i (q.drop (j+1))*a0i v=RB^j*(RB*a0i (q.drop (j+1))*a0i v):=by
   rw [e0J,e0D,e0D,e0D]
  rw [e3] at val;have e4:RB^j*a0i (U.drop j)=RB^j*(a0i v*(a0i (U.drop j) / a0i v))+RB^j*(a0i (U.drop j)%a0i v):=by
   rw [<- e0r,e2]
  rw [e0D,e0H,e0r,e0t (a0i (U.drop j) / a0i v)];omega
 ·rw [List.drop_left' hA,e1,h3]
  exact e0L _ hv
set_option maxHeartbeats 2000000
abbrev a0t (n:Nat):D:=i64 (n:Int)
def rL (l:List Nat):D:=.sl false 1 (l.map a0t)
def rD (n:Nat):D:=rL (a0s n)
theorem a9F (l:List Nat):a2v (rL l):=.sl fun e he d hd=>by
 obtain ⟨a,_,rfl⟩:=List.mem_map.1 he;simp only [D.cells,e0m,e0M,or_false] at hd;subst hd;exact .prim _
instance  (l:List Nat):IsPure (rL l):=⟨a9F l⟩
instance  (n:Nat):IsPure (rD n):=⟨a9F _⟩
theorem a7J {l:List Nat}{i a:Nat}(h:l[i]? = some a):(l.map a0t)[i]? = some (a0t a):=by rw [e0l,h];rfl
theorem b0r {l:List Nat}{i a:Nat}:(l.map a0t).set i (a0t a)=(l.set i a).map a0t:=List.map_set.symm
theorem d6i (c:Nat):((c:Int)==0)=decide (c=0):=by rw [e1D,e1L,decide_eq_true_iff];omega
theorem b4Z (m:List Nat):a0i (m++[0])=a0i m:=by rw [a0W rfl];simp
theorem c1A {m:List Nat}{c:Nat}(h:Rd (m++[c]))(hc:c≠0):a0s (a0i (m++[c]))=m++[c]:=a8M h fun a ha=>by
 rw [List.getLast?_append] at ha;simp at ha;rw [<- ha];exact hc
theorem a8F (l:List Nat)(h:Rd l)(hlen:l.length<4000000000):a0b C0 175 [rL l] (rD (a0i l)):=by
 refine a0c.walk w1 c4q rfl fun F=>?_
 unfold rL;refine sR 0 ?_;refine OkS.seq ?_;refine OkS.block ?_;refine OkS.loop (α:=List Nat × Nat) (fun p=>⟨[(0,.sl false 1 (p.1.map a0t))],[],p.2⟩) (fun p=>p.1.length)
  (fun p=>a0i p.1=a0i l/\Rd p.1/\p.1.length<=l.length) (l,_) ⟨rfl,h,d9Z _⟩ wkI ?_
 rintro ⟨m,n⟩ F ⟨h1,h2,h3⟩;dsimp only at h1 h2 h3 ⊢;refine OkS.seq ?_;refine OkS.seq ?_;rcases e3k m with rfl|⟨m,c,rfl⟩
 ·have e1:decide (((0:Nat):Int)>0)=false:=rfl
  refine d9l w1 100 (by kernel_rfl) ?_;refine nwI e1 ?_;refine gwI e1 ?_;refine ifI ?_;refine exI ?_;refine sR 300 ?_;refine rtI ?_;refine a0a (d0:=rL []) ?_ IsPure.out;rw [<- h1];unfold rD;rw [show a0i []=0 from rfl,a0K]
 ·rw [e3l] at h1 h2 h3 ⊢
  have el:((((m++[c]).map a0t).length:Nat):Int)=((m.length+1:Nat):Int):=by rw [d9X,e0x];rfl
  rw [e0x,e1u] at h3;have e1:decide (((m.length+1:Nat):Int)>0)=true:=d9S (by omega);have wk:IntKind.i64.wrap (((m.length+1:Nat):Int) - 1)=(m.length:Int):=by rw [wI (by omega) (by omega)];omega
  have wraw:IntKind.i64.wrap (((((m++[c]).map a0t).length:Nat):Int) - 1)=(m.length:Int):=by rw [el,wk]
  have hx:((m++[c]).map a0t)[m.length]? = some (a0t c):=a7J (by simp);have ec:=d6i c;refine d9l w1 100 (by kernel_rfl) ?_;refine nwI (ff2 el e1) ?_;refine gwI (ff5 e1 wraw el wk kN) ?_;refine ixI e1 hx ?_;refine gwI (ff5 e1 wraw el wk ec) ?_
  by_cases hc:c=0
  ·rw [d9S hc]
   subst hc;have e4:List.take (m.length - 0) (List.drop 0 ((m++[0]).map a0t))=m.map a0t:=by simp
   have e5:List.take m.length ((m++[0]).map a0t)=m.map a0t:=by simp
   rw [b4Z] at h1;refine ifI ?_;refine skI ?_;refine OkS.block ?_;refine d9l w1 200 (by kernel_rfl) ?_;refine nwI (ff5 el wk wraw kN e4) ?_;exact ⟨(m,_),⟨h1,fun a ha=>h2 a (e1R _ ha),by dsimp only;omega⟩,by dsimp only;rw [e0x,e1u];omega,wkI⟩
  ·rw [d9U hc]
   refine ifI ?_;refine exI ?_;refine sR 300 ?_;refine rtI ?_;refine a0a (d0:=rL (m++[c])) ?_ IsPure.out;unfold rD;rw [<- h1,c1A h2 hc]
theorem b4z (l:List Nat)(i:Nat)(hlen:l.length<4000000000)(hi:i<4000000000):a0b C0 177 [rL l,a0t i] (a0t (l.getD i 0)):=by
 refine a0c.walk w1 d0u rfl fun F=>?_
 unfold rL;have el:(((l.map a0t).length:Nat):Int)=(l.length:Int):=by rw [d9X]
 refine sR 0 ?_;refine OkS.seq ?_;refine OkS.seq ?_
 by_cases h:i<l.length
 ·have e1:decide ((i:Int)<(l.length:Int))=true:=d9S (by omega)
  obtain ⟨a,ha⟩:=a3v h;have hx:=a7J ha;have eg:l.getD i 0=a:=by rw [e0q,ha];rfl
  rw [eg];refine d9l w1 100 (by kernel_rfl) ?_;refine nwI (ff2 el e1) ?_;refine ifI ?_;refine sZ 200 ?_;refine gwI kN ?_;refine ixI kT hx ?_;refine gwI kN ?_;refine rtI ?_;exact a0a rfl IsPure.out
 ·have e1:decide ((i:Int)<(l.length:Int))=false:=d9U (by omega)
  have eg:l.getD i 0=0:=by rw [e0q,e0F (by omega)];rfl
  rw [eg];refine d9l w1 100 (by kernel_rfl) ?_;refine nwI (ff2 el e1) ?_;refine ifI ?_;refine skI ?_;refine sR 300 ?_;refine rtI ?_;exact a0a rfl IsPure.out
theorem c2g (a b:Nat)(ha:(a0s a).length<4000000000)(hb:(a0s b).length<4000000000):a0b C0 113 [rD a,rD b] (i64 (a6W a b)):=by
 refine a0c.walk w1 d2x rfl fun F=>?_
 have hwa:=a0D a;have hwb:=a0D b;have va:=a0u a;have vb:=a0u b;have hlt:=@a5S a b;have hgt:=@a5S b a;unfold rD rL a6W;generalize a0s a=la at *;generalize a0s b=lb at *;have ea:(((la.map a0t).length:Nat):Int)=(la.length:Int):=by rw [d9X]
 have eb:(((lb.map a0t).length:Nat):Int)=(lb.length:Int):=by rw [d9X]
 refine sR 0 ?_;refine OkS.seq ?_;refine sZ 100 ?_;refine nwI (ff2 ea eb) ?_;refine ifI ?_
 (refine brI (fun h10=>?_) (fun h10=>?_))<;>(try simp only [e0a,e0c] at h10)<;>(try simp only [h10])
 ·have hne:la.length≠lb.length:=by
   have:(la.length:Int)≠lb.length:=by simpa using h10
   omega
  refine OkS.seq ?_;refine sZ 200 ?_;refine nwI (ff2 ea eb) ?_;refine ifI ?_
  (refine brI (fun h15=>?_) (fun h15=>?_))<;>(try simp only [e0a,e0c] at h15)<;>(try simp only [h15])
  ·have h1:la.length<lb.length:=by
    have:(la.length:Int)<lb.length:=by simpa using h15
    omega
   rw [d9P (by have:=hlt h1;omega)];refine sR 300 ?_;refine rtI ?_;exact a0a rfl IsPure.out
  ·have h1:lb.length<la.length:=by
    have:¬ (la.length:Int)<lb.length:=by simpa using h15
    omega
   have h2:=hgt h1;rw [d9Q (by omega),d9P (by omega)];refine skI ?_;refine sR 400 ?_;refine rtI ?_;exact a0a rfl IsPure.out
 ·have hl:la.length=lb.length:=by
   have:(la.length:Int)=lb.length:=by simpa using h10
   omega
  clear hlt hgt;refine skI ?_;refine OkS.seq ?_;refine sZ 500 ?_;refine nwI ea ?_;refine OkS.block ?_;have w0:IntKind.i64.wrap ((la.length:Int) - 1)=(la.length:Int) - 1:=wI (by omega) (by omega);rw [w0];refine OkS.loop (α:=Nat × Nat) (fun p=>⟨[(0,.sl false 1 (la.map a0t)),(1,.sl false 1 (lb.map a0t)),(5,i64 ((p.1:Int) - 1))],[],p.2⟩) (fun p=>p.1)
   (fun p=>p.1<=la.length/\la.drop p.1=lb.drop p.1) (la.length,_) ⟨d9Z _,by rw [e2P,hl,e2P]⟩ wkI ?_
  rintro ⟨k,m⟩ F ⟨h1,h2⟩;dsimp only at h1 h2 ⊢;refine OkS.seq ?_;refine sR 600 ?_;refine ifI ?_
  (refine brI (fun h20=>?_) (fun h20=>?_))<;>(try simp only [e0a,e0c] at h20)<;>(try simp only [h20])
  ·obtain ⟨j,rfl⟩:∃ j,k=j+1:=⟨k - 1,by
    have:(k:Int) - 1>=0:=by simpa using h20
    omega⟩
   have wj:((j+1:Nat):Int) - 1=(j:Int):=by omega
   obtain ⟨x,hx⟩:∃ x,la[j]? = some x:=⟨la[j],d9W (by omega)⟩
   obtain ⟨y,hy⟩:∃ y,lb[j]? = some y:=⟨lb[j],d9W (by omega)⟩
   have hx':=a7J hx;have hy':=a7J hy;rw [wj];refine skI ?_;refine OkS.seq ?_;refine OkS.block ?_;refine OkS.seq ?_;refine OkS.seq ?_;refine d9n w1 800 [0,1,2,3,4,5,6,7] [8] (by kernel_rfl) ?_;refine gwI kN ?_;refine ixI kT hx' ?_;refine gwI kN ?_;refine ixI kT hy' ?_;refine gwI kN ?_;refine gwI kN ?_;refine ifI ?_
   (refine brI (fun h31=>?_) (fun h31=>?_))<;>(try simp only [e0a,e0c] at h31)<;>(try simp only [h31])
   ·have hxy:x<y:=by
     have:=e0p h31
     omega
    have:=a7K hwa hx hy h2 hxy
    rw [d9P (by omega)];refine sR 900 ?_;refine rtI ?_;exact a0a rfl IsPure.out
   ·have hxy0:¬ x<y:=by
     have:=e0i h31
     omega
    refine skI ?_;refine OkS.seq ?_;refine d9n w1 1000 [0,1,2,3,4,5,6,7] [8] (by kernel_rfl) ?_;refine gwI kN ?_;refine ixI kT hx' ?_;refine gwI kN ?_;refine ixI kT hy' ?_;refine gwI kN ?_;refine gwI kN ?_;refine ifI ?_
    (refine brI (fun h40=>?_) (fun h40=>?_))<;>(try simp only [e0a,e0c] at h40)<;>(try simp only [h40])
    ·have hxy:y<x:=by
      have:=e0p h40
      omega
     have:=a7K hwb hy hx h2.symm hxy
     rw [d9Q (by omega),d9P (by omega)];refine sR 1100 ?_;refine rtI ?_;exact a0a rfl IsPure.out
    ·have hxy:x=y:=by
      have:=e0i h40
      omega
     subst hxy;have w5:IntKind.i64.wrap ((j:Int) - 1)=(j:Int) - 1:=wI (by omega) (by omega);refine skI ?_;refine d9l w1 700 (by kernel_rfl) ?_;refine nwI w5 ?_;have hj:=(List.getElem?_eq_some_iff.1 hx)
     have hj':=(List.getElem?_eq_some_iff.1 hy)
     refine ⟨(j,_),⟨by dsimp only;omega,?_⟩,by dsimp only;omega,wkI⟩;dsimp only;rw [e0P hj.1,e0P hj'.1,hj.2,hj'.2,h2]
  ·have hk:k=0:=by
    have:¬ ((k:Int) - 1>=0):=by simpa using h20
    omega
   subst hk;have hab:a=b:=by
    rw [<- va,<- vb]
    have:la=lb:=by simpa using h2
    rw [this]
   subst hab;rw [d9Q (by omega),d9Q (by omega)];refine exI ?_;refine sR 1200 ?_;refine rtI ?_;exact a0a rfl IsPure.out
theorem a6k (l:List Nat)(i:Nat):a0i (l.take (i+1))=a0i (l.take i)+RB^i*l.getD i 0:=by
 by_cases h:i<l.length
 ·obtain ⟨a,ha⟩:=a3v h
  rw [a0U ha,a0W (i:=i) (by rw [e0n];omega),e0q,ha];rfl
 ·rw [e0k (by omega),e0k (by omega),e0q,e0F (by omega)]
  simp
theorem a8y {l:List Nat}(h:Rd l)(i:Nat):l.getD i 0<RB:=by
 by_cases hi:i<l.length
 ·obtain ⟨a,ha⟩:=a3v hi
  rw [e0q,ha];exact h a (d9V ha)
 ·rw [e0q,e0F (by omega)];decide
theorem b3I (l:List Nat)(i:Nat):a0i (l.take i)<=a0i l:=by
 conv=>rhs;rw [<- e1j i l]
 rw [a1o];exact Nat.le_add_right _ _
theorem b0D {a i:Nat}(h:i<(a0s a).length):RB^i<=a:=by
 obtain ⟨k,hk⟩:∃ k,(a0s a).length=k+1:=⟨(a0s a).length - 1,by omega⟩
 exact e0A (e1l (by decide) (by omega)) (a7w hk)
structure b2z (a b:Nat)(i c:Nat)(out:List Nat):Prop where
 len:out.length=i
 wd:Rd out
 c1:c<=1
 val:a0i out+RB^i*c=a0i ((a0s a).take i)+a0i ((a0s b).take i)
 can:i=0\/RB^(i - 1)<=a+b
theorem c2t {a b i c:Nat}{out:List Nat}(I:b2z a b i c out)(h:i<(a0s a).length\/i<(a0s b).length\/0<c) :
  b2z a b (i+1) (((a0s a).getD i 0+(a0s b).getD i 0+c) / RB) (out++[((a0s a).getD i 0+(a0s b).getD i 0+c)%RB])/\(a0s a).getD i 0+(a0s b).getD i 0+c<2*RB:=by
 obtain ⟨len,wd,c1,val,can⟩:=I;have h1:=a8y (a0D a) i;have h2:=a8y (a0D b) i;have hs:(a0s a).getD i 0+(a0s b).getD i 0+c<2*RB:=by omega
 have e1:=a6k (a0s a) i;have e2:=a6k (a0s b) i;have ta:=b3I (a0s a) i;have tb:=b3I (a0s b) i;rw [a0u] at ta tb;refine ⟨⟨by rw [e0x,len];rfl,Rd.append wd fun x hx=>?_,?_,?_,.inr ?_⟩,hs⟩
 ·simp only [e0m,e0M,or_false] at hx
  subst hx;exact e0L _ (by decide)
 ·exact e2X (e1e (by rw [e0t];exact hs))
 ·rw [a0W len,e1,e2,e0J,e0D]
  have e:=e1y ((a0s a).getD i 0+(a0s b).getD i 0+c) RB;generalize (a0s a).getD i 0=p at *;generalize (a0s b).getD i 0=q at *;have e3:RB^i*((p+q+c)%RB+RB*((p+q+c) / RB))=RB^i*(p+q+c):=by rw [e]
  rw [e0r,e0r,e0r (RB^i) p] at e3;omega
 ·rw [e2o]
  rcases h with h|h|h
  ·have:=b0D h;omega
  ·have:=b0D h;omega
  ·have hc:c=1:=by omega
   subst hc;rw [e1W] at val;omega
theorem c2r {a b i:Nat}{out:List Nat}(I:b2z a b i 0 out)(h1:¬ i<(a0s a).length)(h2:¬ i<(a0s b).length):out=a0s (a+b):=by
 obtain ⟨len,wd,c1,val,can⟩:=I;rw [e0k (by omega),e0k (by omega),a0u,a0u,e1K,e1z] at val;rcases e3k out with rfl|⟨m,c,rfl⟩
 ·rw [<- val];unfold a0s;rfl
 ·rw [e3l] at *
  rw [e0x,e1u] at len;have hc:c≠0:=by
   intro hc;subst hc;rcases can with h|h
   ·omega
   ·rw [b4Z] at val
    have:=a1t (l:=m) fun x hx=>wd x (e1R _ hx)
    rw [show i - 1=m.length by omega] at h;omega
  rw [<- val,c1A wd hc]
theorem d5q (a b:Nat)(ha:(a0s a).length<1000000)(hb:(a0s b).length<1000000):a0b C0 112 [rD a,rD b] (rD (a+b)):=by
 refine a0c.walk w1 c9Z rfl fun F=>?_
 have hT:Fz [] [] (rD a) (rD a):=.refl _;change OkS C0 F none F _ ⟨a1y 0 [.sl false 1 ((a0s a).map a0t),.sl false 1 ((a0s b).map a0t)],[],0⟩ _;have ea:((((a0s a).map a0t).length:Nat):Int)=((a0s a).length:Int):=by rw [d9X]
 have eb:((((a0s b).map a0t).length:Nat):Int)=((a0s b).length:Int):=by rw [d9X]
 have I0:b2z a b 0 0 []:=⟨rfl,(fun x hx=>d9R hx e0M),e0y _,by simp [a0i],.inl rfl⟩
 refine sR 0 ?_;refine sR 100 ?_;refine sR 200 ?_;refine OkS.seq ?_;refine sR 300 ?_;refine OkS.block ?_;refine OkS.loop (α:=Nat × Nat × List Nat × List D × Nat × Nat) (fun p=>⟨[(0,.sl false 1 ((a0s a).map a0t)),(1,.sl false 1 ((a0s b).map a0t)),(5,a6l 704 p.2.2.2.2.1 1 p.2.2.2.1),(6,a0t p.2.1),(7,a0t p.1)],a5b 704 p.2.2.2.2.1 3 1 p.2.2.2.1,p.2.2.2.2.2⟩)
  (fun p=>(max (a0s a).length (a0s b).length - p.1)*2+p.2.1) (fun p=>b2z a b p.1 p.2.1 p.2.2.1/\p.2.2.2.1=p.2.2.1.map a0t/\p.1<=max (a0s a).length (a0s b).length+1) (0,0,[],[],0,_) ⟨I0,rfl,e0y _⟩ wkI ?_
 rintro ⟨i,c,out,L,g,n⟩ F ⟨I,hL,hi⟩;dsimp only at I hL hi ⊢;have c1:=I.c1;have hol:=I.len;refine OkS.seq ?_;refine d9A (α:=Nat) (fun n=>⟨[(0,.sl false 1 ((a0s a).map a0t)),(1,.sl false 1 ((a0s b).map a0t)),(5,a6l 704 g 1 L),(6,a0t c),(7,a0t i),(22,boo (decide (i<(a0s a).length\/i<(a0s b).length\/0<c)))],a5b 704 g 3 1 L,n⟩) (fun _=>True) ?_ ?_
 ·generalize a6l 704 g 1 L=od at *
  generalize a5b 704 g 3 1 L=oh at *
  by_cases h1:i<(a0s a).length
  ·have e1:decide ((i:Int)<((a0s a).length:Int))=true:=d9S (by omega)
   have e:decide (i<(a0s a).length\/i<(a0s b).length\/0<c)=true:=d9S (.inl h1);rw [e];refine d9l w1 400 (by kernel_rfl) ?_;refine nwI (ff2 ea e1) ?_;refine gwI kT ?_;refine gwI kT ?_;exact ⟨trivial,_,trivial,wkI⟩
  ·have e1:decide ((i:Int)<((a0s a).length:Int))=false:=d9U (by omega)
   by_cases h2:i<(a0s b).length
   ·have e2:decide ((i:Int)<((a0s b).length:Int))=true:=d9S (by omega)
    have e:decide (i<(a0s a).length\/i<(a0s b).length\/0<c)=true:=d9S (.inr (.inl h2));rw [e];refine d9l w1 400 (by kernel_rfl) ?_;refine nwI (ff2 ea e1) ?_;refine gwI kF ?_;simp only [eb,e2];refine gwI kT ?_;exact ⟨trivial,_,trivial,wkI⟩
   ·have e2:decide ((i:Int)<((a0s b).length:Int))=false:=d9U (by omega)
    have e:decide ((c:Int)>0)=decide (i<(a0s a).length\/i<(a0s b).length\/0<c):=by rw [e0O];omega
    rw [<- e];refine d9l w1 400 (by kernel_rfl) ?_;refine nwI (ff2 ea e1) ?_;refine gwI kF ?_;simp only [eb,e2];refine gwI kF ?_;exact ⟨trivial,_,trivial,wkI⟩
 rintro n2 -
 by_cases h:i<(a0s a).length\/i<(a0s b).length\/0<c
 ·obtain ⟨J,hs⟩:=c2t I h
  have d1:=b4z (a0s a) i (by omega) (by omega);have d2:=b4z (a0s b) i (by omega) (by omega);unfold rL at d1 d2;have hmu:∀ c',c'<=1->(max (a0s a).length (a0s b).length<=i->c'=0)->(max (a0s a).length (a0s b).length - (i+1))*2+c'<(max (a0s a).length (a0s b).length - i)*2+c:=fun c' h1 h2=>by
   rcases e0j i (max (a0s a).length (a0s b).length) with h3|h3
   ·omega
   ·have:=h2 h3;omega
  have hmu2:max (a0s a).length (a0s b).length<=i->((a0s a).getD i 0+(a0s b).getD i 0+c) / RB=0:=fun h3=>by
   rw [e0q,e0F (by omega),e0q,e0F (by omega)];show (0+0+c) / 1000000000=0;omega
  have hbnd:i<max (a0s a).length (a0s b).length+1:=by
   rcases h with h|h|h
   ·omega
   ·omega
   ·rcases e0j i (max (a0s a).length (a0s b).length+1) with h3|h3
    ·exact h3
    ·exfalso
     obtain ⟨len,wd,_,val,_⟩:=I;have hc:c=1:=by omega
     subst hc;rw [e0k (by omega),e0k (by omega),a0u,a0u,e1W] at val;have l1:=a1M a;have l2:=a1M b;have m1:RB^(a0s a).length<=RB^max (a0s a).length (a0s b).length:=e1l (by decide) (Nat.le_max_left _ _);have m2:RB^(a0s b).length<=RB^max (a0s a).length (a0s b).length:=e1l (by decide) (Nat.le_max_right _ _);have m3:RB^(max (a0s a).length (a0s b).length+1)<=RB^i:=e1l (by decide) h3;rw [e0J] at m3;generalize RB^max (a0s a).length (a0s b).length=Q at *;change Q*1000000000<=_ at m3;omega
  have hmu3:=hmu _ J.c1 hmu2;rw [d9S h];generalize hp:(a0s a).getD i 0=p at *;generalize hq:(a0s b).getD i 0=q at *;have k1:IntKind.i64.wrap ((p:Int)+(q:Int))=((p+q:Nat):Int):=by rw [wI (by omega) (by unfold RB at hs;omega)];omega
  have k2:IntKind.i64.wrap (((p+q:Nat):Int)+(c:Int))=((p+q+c:Nat):Int):=by rw [wI (by omega) (by unfold RB at hs;omega)];omega
  have k3:((p+q+c:Nat):Int).tmod 1000000000=(((p+q+c)%RB:Nat):Int):=rfl;have k4:IntKind.i64.wrap (((p+q+c:Nat):Int).tdiv 1000000000)=(((p+q+c) / RB:Nat):Int):=by
   show IntKind.i64.wrap ((((p+q+c) / 1000000000:Nat)):Int)=_;exact wN (by unfold RB at hs;omega)
  have wi:IntKind.i64.wrap ((i:Int)+1)=((i+1:Nat):Int):=wI (by omega) (by omega);generalize (p+q+c)%RB=d at *;generalize (p+q+c) / RB=c' at *;have hlo:L.length<=1000001:=by rw [hL,d9X];omega
  have hmo:L++[a0t d]=(out++[d]).map a0t:=by rw [hL,e1w];rfl
  clear hmu hmu2 ea eb hL I;refine ifI ?_;refine skI ?_;refine OkS.seq ?_;refine OkS.block ?_;refine sR 600 ?_;refine cI d1 ?_;refine cI d2 ?_;simp only [k1,k2];refine OkS.seq ?_;rcases L with _|⟨x,L⟩
  all_goals
   (try simp only [d9Y] at hlo)
   dsimp only [a2o,a2l,a1c,a1d];refine d9l w1 700 (by kernel_rfl) ?_;refine nwI k3 ?_;refine d9l w1 800 (by kernel_rfl) ?_;refine nwI k4 ?_;refine d9l w1 500 (by kernel_rfl) ?_;refine nwI wi ?_
  ·exact ⟨(i+1,c',out++[d],[]++[a0t d],_,_),⟨J,hmo,hbnd⟩,hmu3,wkI⟩
  ·have htk:List.take (L.length+1) (x::L)=x::L:=by simp
   rw [htk];refine ⟨(i+1,c',out++[d],x::L++[a0t d],_,_),⟨J,hmo,hbnd⟩,hmu3,by (dsimp only;rw [a2i];exact wkI)⟩
 ·rw [d9U h]
  have hc:c=0:=by omega
  subst hc;have hout:=c2r I (by omega) (by omega);refine ifI ?_;refine exI ?_;refine sR 900 ?_;refine rtI ?_;refine ⟨_,c0E _ _ _ _ _,?_,?_⟩
  ·rw [hL];exact a9F _
  ·rw [hL,hout];rfl
set_option maxHeartbeats 4000000
theorem d3E {env:Env}{t K g T n:Nat}{l:List D}(he:env.get t=a6l K g 1 l:=by exact rfl):Wk ⟨env,a5b K g T 1 l,n⟩ ⟨[(t,.sl false 1 l)],[],n⟩:=by
 refine ⟨?_,⟨?_,trivial⟩,d9Z _⟩
 ·cases l with
  | nil=>exact .nil
  | cons x l=>exact .drop .nil
 ·dsimp only
  rw [he];exact c0E _ _ _ _ _
theorem c6I {env:Env}{t K g n N:Nat}{z:List Nat}{T:Nat}(hl:z.length=N)(he:env.get t=.osl K g 1 0 N:=by exact rfl):Wk ⟨env,[⟨K,g,T,1,z.map a0t⟩],n⟩ ⟨[(t,.sl false 1 (z.map a0t))],[],n⟩:=by
 subst hl;refine ⟨.drop .nil,⟨?_,trivial⟩,d9Z _⟩;dsimp only;rw [he]
 have:=b3u K g T 1 (z.map a0t)
 rwa [d9X] at this
theorem b4B {a v c:Nat}(ha:a<RB)(hv:v<RB)(hc:c<=1):∃ d c',d<RB/\c'<=1/\d+v+c=a+RB*c'/\((c'=0/\(a:Int) - v - c=d)\/(c'=1/\(a:Int) - v - c<0/\(a:Int) - v - c+1000000000=d)):=by
 unfold RB at ha hv ⊢
 by_cases h:a<v+c
 ·exact ⟨a+1000000000 - v - c,1,by omega,by omega,by omega,.inr ⟨rfl,by omega,by omega⟩⟩
 ·exact ⟨a - v - c,0,by omega,by omega,by omega,.inl ⟨rfl,by omega⟩⟩
theorem d1K (a b:Nat)(hab:b<=a)(ha:(a0s a).length<1000000):a0b C0 114 [rD a,rD b] (rD (a - b)):=by
 refine a0c.walk w1 d1H rfl fun F=>?_
 change OkS C0 F none F _ ⟨a1y 0 [.sl false 1 ((a0s a).map a0t),.sl false 1 ((a0s b).map a0t)],[],0⟩ _;have hlb:=a0F b a hab;have va:=a0u a;have vb:=a0u b;have wx:=a0D a;have wy:=a0D b;generalize a0s a=x at *;generalize a0s b=y at *;have ea:(((x.map a0t).length:Nat):Int)=(x.length:Int):=by rw [d9X]
 refine sR 0 ?_;refine sR 100 ?_;refine sR 200 ?_;refine OkS.seq ?_;refine sR 300 ?_;refine OkS.block ?_;refine OkS.loop (α:=Nat × Nat × List Nat × List D × Nat × Nat) (fun p=>⟨[(0,.sl false 1 (x.map a0t)),(1,.sl false 1 (y.map a0t)),(5,a6l 1103 p.2.2.2.2.1 1 p.2.2.2.1),(6,a0t p.2.1),(7,a0t p.1)],a5b 1103 p.2.2.2.2.1 3 1 p.2.2.2.1,p.2.2.2.2.2⟩)
  (fun p=>x.length - p.1) (fun p=>p.1<=x.length/\p.2.1<=1/\p.2.2.1.length=p.1/\Rd p.2.2.1/\a0i p.2.2.1+a0i (y.take p.1)=a0i (x.take p.1)+RB^p.1*p.2.1/\p.2.2.2.1=p.2.2.1.map a0t) (0,0,[],[],0,_) ⟨e0y _,e0y _,rfl,(fun x hx=>d9R hx e0M),by simp [a0i],rfl⟩ wkI ?_
 rintro ⟨i,c,out,L,g,n⟩ F ⟨hi,hc,hol,how,hI,hL⟩;dsimp only at hi hc hol how hI hL ⊢;refine OkS.seq ?_;refine OkS.seq ?_
 by_cases h:i<x.length
 ·have e1:decide ((i:Int)<(x.length:Int))=true:=d9S (by omega)
  obtain ⟨p,hp⟩:=a3v h;have hx:=a7J hp;have hpl:=wx p (d9V hp);have d2:=b4z y i (by omega) (by omega);unfold rL at d2;have hql:=a8y wy i;have ty:=a6k y i;have tx:a0i (x.take (i+1))=a0i (x.take i)+RB^i*p:=by rw [a0U hp,a0W (i:=i) (by rw [e0n];omega)]
  generalize y.getD i 0=q at *;obtain ⟨d,c',hd,hc',hdig,hcase⟩:=b4B hpl hql hc;have k1:IntKind.i64.wrap ((p:Int) - (q:Int))=(p:Int) - q:=wI (by unfold RB at *;omega) (by unfold RB at *;omega);have k2:IntKind.i64.wrap ((p:Int) - q - (c:Int))=(p:Int) - q - c:=wI (by unfold RB at *;omega) (by unfold RB at *;omega);have wi:IntKind.i64.wrap ((i:Int)+1)=((i+1:Nat):Int):=wI (by omega) (by omega);have hlo:L.length<=1000001:=by rw [hL,d9X];omega
  have hmo:L++[a0t d]=(out++[d]).map a0t:=by rw [hL,e1w];rfl
  have hvn:a0i (out++[d])+a0i (y.take (i+1))=a0i (x.take (i+1))+RB^(i+1)*c':=by
   rw [a0W hol,ty,tx,e0J,e0D];have e3:RB^i*(d+q+c)=RB^i*(p+RB*c'):=by rw [hdig]
   rw [e0r,e0r,e0r (RB^i) p] at e3;omega
  have how':Rd (out++[d]):=Rd.append how fun x hx=>by
   simp only [e0m,e0M,or_false] at hx;subst hx;exact hd
  have hol':(out++[d]).length=i+1:=by rw [e0x,hol];rfl
  clear hI hL how;refine d9l w1 400 (by kernel_rfl) ?_;refine nwI (ff2 ea e1) ?_;refine ifI ?_;refine skI ?_;refine OkS.seq ?_;refine OkS.block ?_;refine OkS.seq ?_;refine d9n w1 600 [0,1,2,3,4,5,6,7,8] [9,10] (by kernel_rfl) ?_;refine gwI kN ?_;refine ixI kT hx ?_;refine gwI kN ?_;refine a0r.same _ d2 d9O ?_;refine gwI (ff2 k1 k2) ?_;refine sR 700 ?_;refine d9A (α:=Nat) (fun n=>⟨[(0,.sl false 1 (x.map a0t)),(1,.sl false 1 (y.map a0t)),(5,a6l 1103 g 1 L),(6,a0t c'),(7,a0t i),(8,a0t d)],a5b 1103 g 3 1 L,n⟩) (fun _=>True) ?_ ?_
  ·generalize a6l 1103 g 1 L=od at *
   generalize a5b 1103 g 3 1 L=oh at *;refine OkS.seq ?_;rcases hcase with ⟨rfl,h2⟩|⟨rfl,h2,h3⟩
   ·have e2:decide ((p:Int) - q - c<0)=false:=d9U (by omega)
    rw [h2] at e2;rw [h2];refine d9l w1 800 (by kernel_rfl) ?_;refine nwI e2 ?_;refine ifI ?_;refine skI ?_;exact ⟨rfl,_,trivial,wkI⟩
   ·have e2:decide ((p:Int) - q - c<0)=true:=d9S h2
    have k3:IntKind.i64.wrap ((p:Int) - q - c+1000000000)=(d:Int):=by rw [h3];exact wI (by unfold RB at *;omega) (by unfold RB at *;omega)
    refine d9l w1 800 (by kernel_rfl) ?_;refine nwI e2 ?_;refine ifI ?_;refine sZ 900 ?_;refine nwI k3 ?_;refine rI 1000 ?_;exact ⟨rfl,_,trivial,wkI⟩
  rintro n3 -;rcases L with _|⟨x0,L⟩
  all_goals
   (try simp only [d9Y] at hlo)
   dsimp only [a2o,a2l,a1c,a1d];refine rI 1100 ?_;refine d9l w1 500 (by kernel_rfl) ?_;refine nwI wi ?_
  ·exact ⟨(i+1,c',out++[d],[]++[a0t d],_,_),⟨h,hc',hol',how',hvn,hmo⟩,by dsimp only;omega,wkI⟩
  ·have htk:List.take (L.length+1) (x0::L)=x0::L:=by simp
   rw [htk];refine ⟨(i+1,c',out++[d],x0::L++[a0t d],_,_),⟨h,hc',hol',how',hvn,hmo⟩,by dsimp only;omega,by (dsimp only;rw [a2i];exact wkI)⟩
 ·have e1:decide ((i:Int)<(x.length:Int))=false:=d9U (by omega)
  have hix:i=x.length:=by omega
  subst hix;rw [e0k (by omega),e0k (by omega),va,vb] at hI;have hlt:=a1t how;rw [hol] at hlt;have hxl:=a1t wx;rw [va] at hxl;have hov:a0i out=a - b:=by
   rcases e0N c with h|h
   ·subst h;rw [e1K] at hI;omega
   ·have:c=1:=by omega
    subst this;rw [e1W] at hI;omega
  refine d9l w1 400 (by kernel_rfl) ?_;refine nwI (ff2 ea e1) ?_;refine ifI ?_;refine exI ?_;refine OkS.weak ⟨[(5,.sl false 1 L)],[],_⟩ d3E ?_;rw [hL];refine sR 1200 ?_;refine a0j.same _ (a8F out how (by omega)) d9O ?_;refine stI ?_;refine rtI ?_;exact a0a (by rw [hov]) IsPure.out
theorem c6R (a b:Nat)(hla:(a0s a).length<1000000)(hlb:(a0s b).length<1000000):a0b C0 115 [rD a,rD b] (rD (a*b)):=by
 refine a0c.walk w1 d1P rfl fun F=>?_
 change OkS C0 F none F _ ⟨a1y 0 [.sl false 1 ((a0s a).map a0t),.sl false 1 ((a0s b).map a0t)],[],0⟩ _;have va:=a0u a;have vb:=a0u b;have ha:=a0D a;have hb:=a0D b;generalize a0s a=x at *;generalize a0s b=y at *;subst va;subst vb;have ea:(((x.map a0t).length:Nat):Int)=(x.length:Int):=by rw [d9X]
 have eb:(((y.map a0t).length:Nat):Int)=(y.length:Int):=by rw [d9X]
 have wl:IntKind.i64.wrap ((x.length:Int)+(y.length:Int))=((x.length+y.length:Nat):Int):=by rw [wI (by omega) (by omega)];omega
 have r3:List.replicate (x.length+y.length) (ofV (.int .i64 0))=(List.replicate (x.length+y.length) 0).map a0t:=by rw [e2n];rfl
 refine sR 0 ?_;refine sZ 100 ?_;refine nwI (ff4 ea eb wl kN) ?_;refine OkS.seq ?_;refine sR 200 ?_;refine OkS.block ?_;refine OkS.loop (α:=Nat × List Nat × Nat) (fun p=>⟨[(0,.sl false 1 (x.map a0t)),(1,.sl false 1 (y.map a0t)),(5,.osl 105 6 1 0 (x.length+y.length)),(6,i64 p.1)],[⟨105,6,3,1,p.2.1.map a0t⟩],p.2.2⟩) (fun p=>x.length - p.1)
  (fun p=>p.1<=x.length/\p.2.1.length=x.length+y.length/\Rd p.2.1/\a0i p.2.1=a0i (x.take p.1)*a0i y/\∀ k,p.1+y.length<=k->∀ d,p.2.1[k]? = some d->d=0) (0,List.replicate (x.length+y.length) 0,_)
  ⟨e0y _,by simp,a7e _,by simp [a0i,a7P],fun k _ d hd=>e2B (d9V hd)⟩ (by rw [<- r3];exact wkI) ?_
 rintro ⟨i,o,m⟩ F ⟨h1,h2,h3,h4,h5⟩;dsimp only at h1 h2 h3 h4 h5 ⊢;refine OkS.seq ?_;refine OkS.seq ?_
 by_cases hi:i<x.length
 ·have e1:decide ((i:Int)<(x.length:Int))=true:=d9S (by omega)
  obtain ⟨p,hp⟩:=a3v hi;have hp':=a7J hp;have hpl:p<RB:=ha p (d9V hp);have wi:IntKind.i64.wrap ((i:Int)+1)=((i+1:Nat):Int):=wI (by omega) (by omega);have hax:a0i (x.take (i+1))=a0i (x.take i)+RB^i*p:=by rw [a0U hp,a0W (i:=i) (by rw [e0n];omega)]
  refine d9l w1 300 (by kernel_rfl) ?_;refine nwI (ff2 ea e1) ?_;refine ifI ?_;refine skI ?_;refine OkS.seq ?_;refine OkS.block ?_;refine sR 500 ?_;refine OkS.seq ?_;refine sR 600 ?_;refine OkS.block ?_;refine OkS.loop (α:=Nat × Nat × List Nat × Nat) (fun q=>⟨[(0,.sl false 1 (x.map a0t)),(1,.sl false 1 (y.map a0t)),(5,.osl 105 6 1 0 (x.length+y.length)),(6,i64 i),(7,a0t q.2.1),(8,i64 q.1)],[⟨105,6,3,1,q.2.2.1.map a0t⟩],q.2.2.2⟩) (fun q=>y.length - q.1)
   (fun q=>q.1<=y.length/\q.2.1<RB/\q.2.2.1.length=x.length+y.length/\Rd q.2.2.1/\a0i q.2.2.1+RB^(i+q.1)*q.2.1=a0i (x.take i)*a0i y+RB^i*p*a0i (y.take q.1)/\∀ k,i+y.length<=k->∀ d,q.2.2.1[k]? = some d->d=0) (0,0,o,_)
   ⟨e0y _,(show 0<RB by decide),h2,h3,by simp [a0i,h4],h5⟩ wkI ?_
  rintro ⟨j,c,q,m2⟩ F ⟨g1,g2,g3,g4,g5,g6⟩;dsimp only at g1 g2 g3 g4 g5 g6 ⊢;clear h2 h3 h4 h5 r3 wl;refine OkS.seq ?_;refine OkS.seq ?_
  by_cases hj:j<y.length
  ·have e2:decide ((j:Int)<(y.length:Int))=true:=d9S (by omega)
   obtain ⟨r,hr⟩:=a3v hj;have hr':=a7J hr;have hrl:r<RB:=hb r (d9V hr);obtain ⟨z,hz⟩:=a3v (l:=q) (i:=i+j) (by omega);have hz':=a7J hz;have hzl:z<RB:=g4 z (d9V hz);have wj:IntKind.i64.wrap ((j:Int)+1)=((j+1:Nat):Int):=wI (by omega) (by omega);have wij:IntKind.i64.wrap ((i:Int)+(j:Int))=((i+j:Nat):Int):=by rw [wI (by omega) (by omega)];omega
   have hbx:a0i (y.take (j+1))=a0i (y.take j)+RB^j*r:=by rw [a0U hr,a0W (i:=j) (by rw [e0n];omega)]
   have hpr:p*r<=999999999*999999999:=e1Q (by unfold RB at hpl;omega) (by unfold RB at hrl;omega);have k0:IntKind.i64.wrap ((p:Int)*(r:Int))=((p*r:Nat):Int):=by rw [<- e1t,wI (by omega) (by omega)]
   have k1:IntKind.i64.wrap ((z:Int)+((p*r:Nat):Int))=((z+p*r:Nat):Int):=by rw [wI (by omega) (by unfold RB at *;omega)];omega
   have k2:IntKind.i64.wrap (((z+p*r:Nat):Int)+(c:Int))=((z+p*r+c:Nat):Int):=by rw [wI (by omega) (by unfold RB at *;omega)];omega
   have hs:=a3X (d:=(z+p*r+c)%RB) hz;have e:=e1y (z+p*r+c) RB;have hq:(z+p*r+c) / RB<RB:=e1e (by unfold RB at *;omega);have hd:(z+p*r+c)%RB<RB:=e0L _ (by decide);have k3:((z+p*r+c:Nat):Int).tmod 1000000000=(((z+p*r+c)%RB:Nat):Int):=rfl;have k4:IntKind.i64.wrap (((z+p*r+c:Nat):Int).tdiv 1000000000)=(((z+p*r+c) / RB:Nat):Int):=by
    show IntKind.i64.wrap ((((z+p*r+c) / 1000000000:Nat)):Int)=_;exact wN (by change (z+p*r+c) / RB<=_;unfold RB at hq ⊢;omega)
   have hval:a0i (q.set (i+j) ((z+p*r+c)%RB))+RB^(i+(j+1))*((z+p*r+c) / RB)=a0i (x.take i)*a0i y+RB^i*p*a0i (y.take (j+1)):=by
    rw [hbx,e0r,<- e1E (a0i (x.take i)*a0i y),<- g5];have h6:RB^(i+j)*((z+p*r+c)%RB)+RB^(i+(j+1))*((z+p*r+c) / RB)=RB^i*p*(RB^j*r)+RB^(i+j)*z+RB^(i+j)*c:=by
     have:RB^i*p*(RB^j*r)=RB^(i+j)*(p*r):=by
      rw [e2s,e0D,e0D,e2a p]
     rw [this,<- e1E i j 1,e0J,e0D,<- e0r,<- e0r,<- e0r,e]
     congr 1;omega
    omega
   generalize (z+p*r+c)%RB=d at *;generalize (z+p*r+c) / RB=c' at *;clear hs e g5 hax hbx;refine d9l w1 700 (by kernel_rfl) ?_;refine nwI (ff2 eb e2) ?_;refine ifI ?_;refine skI ?_;refine OkS.seq ?_;refine OkS.block ?_;refine OkS.seq ?_;refine d9n w1 900 [0,1,2,3,4,5,6,7,8,9,10,11,12,13,14,15,16] [17,18] (by kernel_rfl) ?_;refine gwI (ff4 wij kN e0v hz') ?_;refine ixI kT hp' ?_;refine gwI (ff4 wij kN e0v hz') ?_;refine ixI kT hr' ?_;refine gwI (ff3 k0 k1 k2) ?_;refine sZ 1000 ?_;refine gwI (ff5 wij kN e0v hz' k3) ?_;rw [b0r];refine d9l w1 1100 (by kernel_rfl) ?_;refine nwI k4 ?_;refine d9l w1 800 (by kernel_rfl) ?_;refine nwI wj ?_;refine ⟨(j+1,c',q.set (i+j) d,_),⟨hj,hq,by dsimp only;rw [e0G];exact g3,g4.set hd,hval,fun k hk d hd=>?_⟩,by dsimp only;omega,wkI⟩;dsimp only at hk hd;rw [e1n (by omega)] at hd;exact g6 k hk d hd
  ·have e2:decide ((j:Int)<(y.length:Int))=false:=d9U (by omega)
   have hj:j=y.length:=by omega
   subst hj;obtain ⟨z,hz⟩:=a3v (l:=q) (i:=i+y.length) (by omega);have hz0:z=0:=g6 _ (d9Z _) _ hz;subst hz0;have hz':=a7J hz;have wij:IntKind.i64.wrap ((i:Int)+(y.length:Int))=((i+y.length:Nat):Int):=by rw [wI (by omega) (by omega)];omega
   have wij0:IntKind.i64.wrap ((i:Int)+(((y.map a0t).length:Nat):Int))=((i+y.length:Nat):Int):=by rw [eb];exact wij
   have k1:IntKind.i64.wrap (((0:Nat):Int)+(c:Int))=(c:Int):=by rw [wI (by omega) (by unfold RB at *;omega)];omega
   have hs:=a3X (d:=c) hz;rw [e0k (d9Z _)] at g5;have hval:a0i (q.set (i+y.length) c)=a0i (x.take (i+1))*a0i y:=by
    rw [hax,e0H];omega
   clear hs g5 hax;refine d9l w1 700 (by kernel_rfl) ?_;refine nwI (ff2 eb e2) ?_;refine ifI ?_;refine exI ?_;refine d9l w1 1200 (by kernel_rfl) ?_;refine gwI (ff6 eb wij kN e0v hz' k1) ?_;rw [b0r];refine d9l w1 400 (by kernel_rfl) ?_;refine nwI wi ?_;refine ⟨(i+1,q.set (i+y.length) c,_),⟨hi,by dsimp only;rw [e0G];exact g3,g4.set g2,hval,fun k hk d hd=>?_⟩,by dsimp only;omega,wkI⟩;dsimp only at hk hd;rw [e1n (by omega)] at hd;exact g6 k (by omega) d hd
 ·have e1:decide ((i:Int)<(x.length:Int))=false:=d9U (by omega)
  have hi:i=x.length:=by omega
  subst hi;rw [e0k (d9Z _)] at h4;refine d9l w1 300 (by kernel_rfl) ?_;refine nwI (ff2 ea e1) ?_;refine ifI ?_;refine exI ?_;refine OkS.weak ⟨[(5,.sl false 1 (o.map a0t))],[],_⟩ (c6I h2) ?_;refine sR 1300 ?_;refine a0j.same _ (a8F o h3 (by omega)) d9O ?_;refine stI ?_;refine rtI ?_;exact a0a (by rw [h4]) IsPure.out
theorem c1L (a b:Nat)(h:a / b<=9223372036854775807):IntKind.i64.wrap ((a:Int).tdiv (b:Int))=((a / b:Nat):Int):=by
 rw [<- Int.ofNat_tdiv];exact wN h
theorem c2Q (a b:Nat):(a:Int).tmod (b:Int)=((a%b:Nat):Int):=(Int.ofNat_tmod a b).symm
theorem c3y {env:Env}{t K g n N t2:Nat}{z:List Nat}{T:Nat}{d2:D}(hl:z.length=N)(he:env.get t=.osl K g 1 0 N:=by exact rfl)(h2:env.get t2=d2:=by exact rfl):Wk ⟨env,[⟨K,g,T,1,z.map a0t⟩],n⟩ ⟨[(t,.sl false 1 (z.map a0t)),(t2,d2)],[],n⟩:=by
 subst hl;refine ⟨.drop .nil,⟨?_,?_,trivial⟩,d9Z _⟩
 ·dsimp only
  rw [he]
  have:=b3u K g T 1 (z.map a0t)
  rwa [d9X] at this
 ·dsimp only
  rw [h2];exact .refl _
theorem c3e {r p d:Nat}(h:r*RB+p<d*RB)(hd:d<RB):IntKind.i64.wrap ((r:Int)*1000000000)=((r*RB:Nat):Int)/\IntKind.i64.wrap (((r*RB:Nat):Int)+(p:Int))=((r*RB+p:Nat):Int):=by
 unfold RB at *;refine ⟨?_,?_⟩
 ·rw [wI (by omega) (by omega)];omega
 ·rw [wI (by omega) (by omega)];omega
theorem b0I (a d:Nat)(hd:0<d)(hdl:d<RB)(hl:(a0s a).length<1000000):a0b C0 174 [rD a,a0t d] (.tup [rD (a / d),a0t (a%d)]):=by
 refine a0c.walk w1 d3j rfl fun F=>?_
 change OkS C0 F none F _ ⟨a1y 0 [.sl false 1 ((a0s a).map a0t),a0t d],[],0⟩ _;have va:=a0u a;have wa:=a0D a;generalize a0s a=x at *;have ea:(((x.map a0t).length:Nat):Int)=(x.length:Int):=by rw [d9X]
 have wl:IntKind.i64.wrap ((x.length:Int) - 1)=(x.length:Int) - 1:=wI (by omega) (by omega);have r3:List.replicate x.length (ofV (.int .i64 0))=(List.replicate x.length 0).map a0t:=by rw [e2n];rfl
 have d0:¬ (d:Int)=0:=by omega
 refine sR 0 ?_;refine sZ 100 ?_;refine nwI (ff2 ea kN) ?_;refine sR 200 ?_;refine OkS.seq ?_;refine sZ 300 ?_;refine nwI (ff2 ea wl) ?_;refine OkS.block ?_;refine OkS.loop (α:=Nat × Nat × List Nat × Nat) (fun p=>⟨[(0,.sl false 1 (x.map a0t)),(1,a0t d),(6,.osl 102 4 1 0 x.length),(7,a0t p.2.1),(8,i64 ((p.1:Int) - 1))],[⟨102,4,3,1,p.2.2.1.map a0t⟩],p.2.2.2⟩) (fun p=>p.1)
  (fun p=>p.1<=x.length/\p.2.1<d/\p.2.2.1.length=x.length/\Rd p.2.2.1/\a0i (p.2.2.1.drop p.1)*d+p.2.1=a0i (x.drop p.1)) (x.length,0,List.replicate x.length 0,_)
  ⟨d9Z _,hd,by simp,a7e _,by simp [a0i]⟩ (by rw [<- r3];exact wkI) ?_
 rintro ⟨k,r,q,m⟩ F ⟨h1,h2,h3,h4,h5⟩;dsimp only at h1 h2 h3 h4 h5 ⊢;clear ea wl r3;refine OkS.seq ?_;refine sR 400 ?_;refine ifI ?_
 (refine brI (fun h20=>?_) (fun h20=>?_))<;>(try simp only [e0a,e0c] at h20)<;>(try simp only [h20])
 ·obtain ⟨j,rfl⟩:∃ j,k=j+1:=⟨k - 1,by
   have:=e0p h20
   omega⟩
  have wj:((j+1:Nat):Int) - 1=(j:Int):=by omega
  obtain ⟨p,hp⟩:=a3v (l:=x) (i:=j) (by omega);obtain ⟨z,hz⟩:=a3v (l:=q) (i:=j) (by omega);have hp':=a7J hp;have hz':=a7J hz;have hpl:=wa p (d9V hp);obtain ⟨J1,J2⟩:=b3Y hd hp (by omega) h5;have hsb:r*RB+p<d*RB:=by
   have:(r+1)*RB<=d*RB:=e0o _ h2
   rw [e0H] at this;omega
  have hql:(r*RB+p) / d<RB:=e1e hsb;obtain ⟨k1,k2⟩:=c3e hsb hdl;have k3:=c1L (r*RB+p) d (e0A (e3i hql) (by decide));have k4:=c2Q (r*RB+p) d;have wi:IntKind.i64.wrap ((j:Int) - 1)=(j:Int) - 1:=wI (by omega) (by omega);generalize (r*RB+p) / d=e at *;generalize (r*RB+p)%d=r' at *;rw [wj];refine skI ?_;refine OkS.seq ?_;refine OkS.block ?_;refine sZ 600 ?_;refine gwI kN ?_;refine ixI kT hp' ?_;refine gwI (ff2 k1 k2) ?_;refine sZ 700 ?_;refine gwI (ff4 kN e0v hz' k3) ?_;rw [b0r];refine d9l w1 800 (by kernel_rfl) ?_;refine nwI k4 ?_;refine d9l w1 500 (by kernel_rfl) ?_;refine nwI wi ?_;exact ⟨(j,r',q.set j e,_),⟨by dsimp only;omega,J2,by dsimp only;rw [e0G];exact h3,h4.set hql,J1⟩,by dsimp only;omega,wkI⟩
 ·have hk:k=0:=by
   have:=e0i h20
   omega
  subst hk;rw [e1C,e1C,va] at h5;obtain ⟨q1,q2⟩:=a6B h5 h2;refine exI ?_;refine OkS.weak ⟨[(6,.sl false 1 (q.map a0t)),(7,a0t r)],[],_⟩ (c3y h3) ?_;refine sR 900 ?_;refine a0j.same _ (a8F q h4 (by omega)) d9O ?_;refine stI ?_;refine rtI ?_;exact a0a (by rw [q1,q2]) IsPure.out
structure a6z (U V n2 v1 p1 q r:Nat):Prop where
 eq:q*v1+r=n2
 up:U<(q+1)*V
 cap:n2<=v1*RB+p1
 p1l:p1<RB
namespace a6z
variable {U V n2 v1 p1 q r:Nat} (G:a6z U V n2 v1 p1 q r)
include G
theorem small (h:RB<=r):q<RB:=by
 rcases e0j q RB with h1|h1
 ·exact h1
 ·exfalso
  have h2:=e0o v1 h1;have h3:=G.eq;have h4:=G.cap;have h5:=G.p1l;rw [e0t RB v1] at h2;omega
theorem qle (hv:0<v1):q<=2*RB:=by
 rcases e0j (2*RB) q with h1|h1
 ·exfalso
  have h2:=e0o v1 h1;have h3:=G.eq;have h4:=G.cap;have h5:=G.p1l;have h6:RB*1<=RB*v1:=e0C _ hv;rw [Nat.succ_mul,e0D,e0t RB v1] at h2;rw [e0t RB v1] at h6;omega
 ·exact h1
end a6z
section
variable {P v:List Nat} {m p0 p1 p2 v2 v1:Nat} (S:b3w P v m p0 p1 p2 v2 v1)
include S
theorem b3t:a6z (a0i P) (a0i v) (p1+RB*p2) v1 p1 ((p2*RB+p1) / v1) ((p2*RB+p1)%v1):=by
 have c0:p2*RB+p1=p1+RB*p2:=by rw [e0t,e3h]
 rw [c0];have e:=e1A (p1+RB*p2) v1;have l:=e0L (p1+RB*p2) S.top;have c1:=e0t v1 ((p1+RB*p2) / v1);refine ⟨by omega,a9p S.below2 S.abovev ?_,?_,S.p1l⟩
 ·rw [e0H];omega
 ·have:=e0C RB S.p2v1
  rw [e0t v1];omega
theorem b4G {q r:Nat}(G:a6z (a0i P) (a0i v) (p1+RB*p2) v1 p1 q r)(h:RB<=q\/r*RB+p0<q*v2):0<q/\a6z (a0i P) (a0i v) (p1+RB*p2) v1 p1 (q - 1) (r+v1):=by
 obtain ⟨e,u,cp,pl⟩:=G;have hq:0<q:=by
  rcases h with h|h
  ·unfold RB at h;omega
  ·rcases e0N q with h0|h0
   ·subst h0;omega
   ·exact h0
 obtain ⟨k,rfl⟩:∃ k,q=k+1:=⟨q - 1,by omega⟩
 refine ⟨hq,⟨?_,?_,cp,pl⟩⟩
 ·rw [e2o,<- e,e0H];omega
 ·rw [e2o]
  rcases h with h|h
  ·have h1:a0i v*RB<=(k+1)*a0i v:=by rw [e0t];exact e0o _ h
   have:=S.less
   omega
  ·have e2:(k+1)*(v2+RB*v1)=(k+1)*v2+RB*((k+1)*v1):=by rw [e0r,e2a]
   refine b1k S.below3 S.abovev2 ?_;rw [e2,<- e,e0r RB,e0t RB r];omega
theorem a9a {q r:Nat}(G:a6z (a0i P) (a0i v) (p1+RB*p2) v1 p1 q r)(h:RB<=r\/(q<RB/\q*v2<=r*RB+p0)):q<RB/\q*a0i v<=a0i P+a0i v:=by
 have hqB:q<RB:=by
  rcases h with h|h
  ·exact G.small h
  ·exact h.1
 obtain ⟨e,u,cp,pl⟩:=G;have h5:=S.v2l;have hq:q*v2<=r*RB+p0:=by
  rcases h with h|h
  ·have h2:q*v2<=RB*RB:=e1Q (by omega) (by omega)
   have h3:RB*RB<=r*RB:=e0o _ h;omega
  ·exact h.2
 have e2:q*(v2+RB*v1)=q*v2+RB*(q*v1):=by rw [e0r,e2a]
 refine ⟨hqB,b3n (n3:=p0+RB*(p1+RB*p2)) (D:=v2+RB*v1) (P:=RB^m) (B:=RB) (v:=a0i (v.take m)) ?_ ?_ S.lowv ?_ (by omega) ?_⟩
 ·rw [S.valP,e0t];omega
 ·rw [S.valv,e0t];omega
 ·rw [e2,<- e,e0r RB,e0t RB r]
  omega
 ·have:=S.top
  have h1:=e0C RB (show 1<=v1 from this);omega
end
theorem d8Q {H:Hp}{d0 d:D}(h:Fz H [] d0 d):FzS H d0 d:=fun _ _ _ _ m hO hN _ hv=>h.rep m hO (fun e he b hb _=>hN e he b hb) hv
theorem d9E {C:Ctx}{f:Nat}{ds ds':List D}{Φ:D->Prop}{H:Hp}{n:Nat}(hc:a0c C f ds' Φ)(hl:ds'.length=ds.length)(hv:∀ (i:Nat) (a b:D),ds[i]? = some a->ds'[i]? = some b->FzS H a b)
  (hp:ArePure ds') (hflat:∀ d,Φ d->b0u d):a0A C f ds H n (fun d' H' n'=>Φ d'/\H'=H/\n'=n+1):=by
 refine ⟨hc.1,fun F ρ w vs m hfr hg hvs hr=>?_⟩;have hH:FzH H [] H []:=by
  generalize H=H0
  have:∀ H1:Hp,FzH H0 [] H1 []:=fun H1=>by
   induction H1 with
   | nil=>exact .nil
   | cons e r ih=>exact .drop ih
  exact this H0
 obtain ⟨m',hO,hN⟩:=hH.mem m;refine (hc.2 (Own F.X ρ []) w vs m.g (e0A m.gn m.size) (fun b hb=>m'.own_lt hb) (by omega) fun i x hx=>?_).mono ?_
 ·have hi:i<ds'.length:=(List.getElem?_eq_some_iff.1 hx).1
  have hd0:ds[i]? = some ds[i]:=d9W (by omega);exact hp.out x (d9V hx) _ _ _ _ _ (hv i _ x hd0 hx C F ρ w m hO (fun e he b hb=>hN e he b hb rfl) _ (hr i _ hd0))
 ·rintro e w' ⟨v,d',rfl,hb,hd',rep⟩
  have x:Ext ρ (Own F.X ρ H) w ρ (Own F.X ρ H) w':=⟨hb.size,fun _ _ _ h=>h,fun b hb' hO=>⟨hO,hb.block b hb'⟩,fun b cs T fz hh=>⟨cs,_,by
   rw [hb.block b (Array.getElem?_eq_some_iff.1 hh).1];exact hh,rfl⟩⟩
  exact ⟨v,_,H,n+1,ρ,rfl,⟨hd',rfl,rfl⟩,m.same x hb.os hb.tape hb.output hb.block,x,fun k g hg'=>hfr k g (by omega),fun e he=>e1f (hg e he),hflat _ hd' _ _ _ _ _ _ _ rep⟩
def b5p (P v:List Nat)(d:D):Prop:=∃ q,d=a0t q/\q<RB/\a0i P<(q+1)*a0i v/\q*a0i v<=a0i P+a0i v
theorem b9s {p2 p1 v1:Nat}(h1:p1<RB)(h2:p2<RB):IntKind.i64.wrap ((p2:Int)*1000000000)=((p2*RB:Nat):Int)/\IntKind.i64.wrap (((p2*RB:Nat):Int)+(p1:Int))=((p2*RB+p1:Nat):Int) /\
  IntKind.i64.wrap (((p2*RB+p1:Nat):Int).tdiv (v1:Int))=(((p2*RB+p1) / v1:Nat):Int):=by
 have h3:=e1H (p2*RB+p1) v1;unfold RB at *;refine ⟨?_,?_,?_⟩
 ·rw [wI (by omega) (by omega)];omega
 ·rw [wI (by omega) (by omega)];omega
 ·exact c1L _ _ (by omega)
theorem b7T {t r v2 p0:Nat}(ht:t<RB)(hr:r<RB)(h2:v2<RB)(h0:p0<RB):IntKind.i64.wrap ((t:Int)*(v2:Int))=((t*v2:Nat):Int)/\IntKind.i64.wrap ((r:Int)*1000000000)=((r*RB:Nat):Int) /\
  IntKind.i64.wrap (((r*RB:Nat):Int)+(p0:Int))=((r*RB+p0:Nat):Int):=by
 have h3:t*v2<=999999999*999999999:=e1Q (by unfold RB at ht;omega) (by unfold RB at h2;omega);unfold RB at *;refine ⟨?_,?_,?_⟩
 ·rw [<- e1t,wI (by omega) (by omega)]
 ·rw [wI (by omega) (by omega)];omega
 ·rw [wI (by omega) (by omega)];omega
theorem c7z {t v2 r p0:Nat}(h:t<RB):decide (((t*v2:Nat):Int)>((r*RB+p0:Nat):Int))=decide (RB<=t\/r*RB+p0<t*v2) :=
 e0O.2 ⟨fun h1=>.inr (Int.ofNat_lt.1 h1),fun h1=>Int.ofNat_lt.2 (h1.resolve_left (Nat.not_le.2 h))⟩
theorem c8f {t v2 r p0:Nat}(h:¬ (RB<=t\/r*RB+p0<t*v2)):t<RB/\t*v2<=r*RB+p0:=⟨Nat.lt_of_not_le fun h1=>h (.inl h1),Nat.le_of_not_lt fun h1=>h (.inr h1)⟩
theorem c8k {P v:List Nat}{m p0 p1 p2 v2 v1:Nat}(S:b3w P v m p0 p1 p2 v2 v1):∃ a1 T q0 r0:Nat,IntKind.i64.wrap ((p2:Int)*1000000000)=(a1:Int)/\IntKind.i64.wrap ((a1:Int)+(p1:Int))=(T:Int) /\
  IntKind.i64.wrap ((T:Int).tdiv (v1:Int))=(q0:Int)/\(T:Int).tmod (v1:Int)=(r0:Int)/\a6z (a0i P) (a0i v) (p1+RB*p2) v1 p1 q0 r0/\r0<RB:=by
 obtain ⟨k1,k2,k3⟩:=b9s (v1:=v1) S.p1l S.p2l;exact ⟨_,_,_,_,k1,k2,k3,c2Q _ v1,b3t S,e2i (e0L _ S.top) S.v1l⟩
theorem c3d {t r v2 p0:Nat}(ht:t<RB)(hr:r<RB)(h2:v2<RB)(h0:p0<RB):∃ a1 a2 a3:Nat,IntKind.i64.wrap ((t:Int)*(v2:Int))=(a3:Int)/\IntKind.i64.wrap ((r:Int)*1000000000)=(a1:Int) /\
  IntKind.i64.wrap ((a1:Int)+(p0:Int))=(a2:Int)/\decide ((a3:Int)>(a2:Int))=decide (RB<=t\/r*RB+p0<t*v2):=by
 obtain ⟨q1,q2,q3⟩:=b7T ht hr h2 h0;exact ⟨_,_,_,q1,q2,q3,c7z ht⟩
theorem c6z (U v:List Nat)(j m p0 p1 p2 v2 v1:Nat)(S:b3w ((U.drop j).take (m+3)) v m p0 p1 p2 v2 v1)(hj:j+(m+3)<=U.length)(hU:U.length<4000000):a0c C0 176 [rL U,rL v,a0t j] (b5p ((U.drop j).take (m+3)) v):=by
 refine a0c.walk w1 d3S rfl fun F=>?_
 unfold rL;have hg:∀ {k p:Nat},((U.drop j).take (m+3))[k]? = some p->U[j+k]? = some p:=fun {k p} h=>by
  rw [e1m] at h;split at h
  ·rwa [e1N] at h
  ·cases h
 have u0:=a7J (hg S.h0);have u1:=a7J (hg S.h1);have u2:=a7J (hg S.h2);have y1:=a7J S.g1;have y2:=a7J S.g2;have l0:=S.p0l;have l1:=S.p1l;have l2:=S.p2l;have lv1:=S.v1l;have lv2:=S.v2l;have ev:(((v.map a0t).length:Nat):Int)=((m+2:Nat):Int):=by rw [d9X,S.lv]
 have eu:(((U.map a0t).length:Nat):Int)=(U.length:Int):=by rw [d9X]
 have w0:IntKind.i64.wrap ((j:Int)+((m+2:Nat):Int))=((j+(m+2):Nat):Int):=by rw [wI (by omega) (by omega)];omega
 have wa:IntKind.i64.wrap (((j+(m+2):Nat):Int) - 1)=((j+(m+1):Nat):Int):=by rw [wI (by omega) (by omega)];omega
 have wb:IntKind.i64.wrap (((j+(m+2):Nat):Int) - 2)=((j+m:Nat):Int):=by rw [wI (by omega) (by omega)];omega
 have wc:IntKind.i64.wrap (((m+2:Nat):Int) - 1)=((m+1:Nat):Int):=by rw [wI (by omega) (by omega)];omega
 have wd:IntKind.i64.wrap (((m+2:Nat):Int) - 2)=(m:Int):=by rw [wI (by omega) (by omega)];omega
 have ra:IntKind.i64.wrap (IntKind.i64.wrap ((j:Int)+((m+2:Nat):Int)) - 1)=((j+(m+1):Nat):Int):=by rw [w0,wa]
 have rb:IntKind.i64.wrap (IntKind.i64.wrap ((j:Int)+((m+2:Nat):Int)) - 2)=((j+m:Nat):Int):=by rw [w0,wb]
 obtain ⟨a1,T,q0,r0,k1,k2,k3,k4,G0,hr0⟩:=c8k S;have v0:¬ (v1:Int)=0:=by have:=S.top;omega
 have hvl:=S.lv;refine sR 0 ?_;refine sZ 100 ?_;refine nwI ev ?_;refine OkS.seq ?_;refine d9n w1 200 [0,1,2,3,4,5,6,7,8,9,10,11,12,13] [14,15] (by kernel_rfl) ?_;refine gwI (ff4 w0 wa ra kN) ?_;refine ixI kT u2 ?_;refine gwI (ff4 w0 wa ra kN) ?_;refine ixI kT u1 ?_;refine gwI (ff6 w0 wa ra kN k1 k2) ?_;refine OkS.seq ?_;refine d9n w1 300 [0,1,2,3,4,5,6,7,8,9,10,11,12,13,14] [15] (by kernel_rfl) ?_;refine gwI (ff2 wc kN) ?_;refine ixI kT y1 ?_;refine gwI (ff2 wc kN) ?_;refine ixI kT y1 ?_;refine gwI (ff4 wc kN k3 k4) ?_;refine d9A (α:=Nat × Nat) (fun p=>⟨[(9,a0t p.1)],[],p.2⟩) (fun p=>p.1<RB/\a0i ((U.drop j).take (m+3))<(p.1+1)*a0i v/\p.1*a0i v<=a0i ((U.drop j).take (m+3))+a0i v) ?_ ?_
 ·refine OkS.block ?_
  refine d9k (α:=Nat × Nat × Nat) (fun p=>⟨[(0,.sl false 1 (U.map a0t)),(1,.sl false 1 (v.map a0t)),(2,a0t j),(7,i64 ((m+2:Nat):Int)),(9,a0t p.1),(10,a0t p.2.1)],[],p.2.2⟩) (fun p=>p.1)
   (fun p F'=>F'=F/\a6z (a0i ((U.drop j).take (m+3))) (a0i v) (p1+RB*p2) v1 p1 p.1 p.2.1/\p.2.1<RB) (q0,r0,_) ⟨rfl,G0,hr0⟩ wkI ?_
  rintro ⟨t,r,n⟩ F' ⟨rfl,G,hr⟩;dsimp only at G hr ⊢;clear G0 hr0 k1 k2 k3 k4 u1 u2 ra wa;have htl:=G.qle S.top;obtain ⟨b,hb⟩:∃ b,b=decide (RB<=t\/r*RB+p0<t*v2):=⟨_,rfl⟩
  refine OkS.seq ?_;refine d9A (α:=Nat) (fun n=>⟨[(0,.sl false 1 (U.map a0t)),(1,.sl false 1 (v.map a0t)),(2,a0t j),(7,i64 ((m+2:Nat):Int)),(9,a0t t),(10,a0t r),(63,boo b)],[],n⟩) (fun _=>True) ?_ ?_
  ·rcases e0j t RB with h|h
   ·have e1:decide ((t:Int)>=1000000000)=false:=d9U (by unfold RB at h;omega)
    obtain ⟨a1,a2,a3,q1,q2,q3,q4⟩:=c3d h hr lv2 l0;rw [<- hb] at q4;clear hb;rw [<- q4];refine d9n w1 400 [0,1,2,3,4,5,6,7,8,9,10,11,12,13,14,15,16,17,18,19] [20,21] (by kernel_rfl) ?_;refine gwI e1 ?_;refine gwI (ff3 kF wd kN) ?_;refine ixI kF y2 ?_;refine gwI (ff5 kF w0 wb rb kN) ?_;refine ixI kF u0 ?_;refine gwI (ff4 kF q1 q2 q3) ?_;refine gwI kF ?_;exact ⟨trivial,_,trivial,wkI⟩
   ·have e1:decide ((t:Int)>=1000000000)=true:=d9S (by unfold RB at h;omega)
    have e2:b=true:=hb.trans (d9S (.inl h));subst e2;refine d9n w1 400 [0,1,2,3,4,5,6,7,8,9,10,11,12,13,14,15,16,17,18,19] [20,21] (by kernel_rfl) ?_;refine gwI e1 ?_;refine gwI kT ?_;refine gwI kT ?_;exact ⟨trivial,_,trivial,wkI⟩
  rintro n2 -;cases b with
  | true =>
   have hc:=e0p hb.symm;obtain ⟨t0,G2⟩:=b4G S G hc;have j1:IntKind.i64.wrap ((t:Int) - 1)=((t - 1:Nat):Int):=by rw [wI (by omega) (by unfold RB at htl;omega)];omega
   have j2:IntKind.i64.wrap ((r:Int)+(v1:Int))=((r+v1:Nat):Int):=by rw [wI (by omega) (by unfold RB at hr lv1;omega)];omega
   clear hc hb;refine ifI ?_;refine skI ?_;refine OkS.block ?_;refine sZ 500 ?_;refine nwI j1 ?_;refine sZ 600 ?_;refine gwI (ff2 wc kN) ?_;refine ixI kT y1 ?_;refine gwI j2 ?_;refine OkS.seq ?_;rcases e0j (r+v1) RB with h|h
   ·have e3:decide (((r+v1:Nat):Int)>=1000000000)=false:=d9U (by unfold RB at h;omega)
    refine d9l w1 700 (by kernel_rfl) ?_;refine nwI e3 ?_;refine ifI ?_;refine skI ?_;exact ⟨(t - 1,r+v1,_),⟨rfl,G2,h⟩,by dsimp only;omega,wkI⟩
   ·have e3:decide (((r+v1:Nat):Int)>=1000000000)=true:=d9S (by unfold RB at h;omega)
    obtain ⟨g1,g2⟩:=a9a S G2 (.inl h);refine d9l w1 700 (by kernel_rfl) ?_;refine nwI e3 ?_;refine ifI ?_;refine sR 800 ?_;refine rtI ?_;exact ⟨_,.refl _,IsPure.out,t - 1,rfl,g1,G2.up,g2⟩
  | false =>
   have hc:=e0i hb.symm;obtain ⟨g1,g2⟩:=a9a S G (.inr (c8f hc));clear hc hb;refine ifI ?_;refine exI ?_;exact ⟨rfl,⟨t,_⟩,⟨g1,G.up,g2⟩,wkI⟩
 rintro ⟨q,n⟩ ⟨g1,g2,g3⟩;dsimp only at g1 g2 g3 ⊢;refine sR 900 ?_;refine rtI ?_;exact ⟨_,.refl _,IsPure.out,q,rfl,g1,g2,g3⟩
def c1F (k g k' n:Nat)(env:Env):Env->Prop
 | []=>True
 | (t,d)::r=>(d=env.get t\/∃ sz i len,env.get t=.osl k g sz i len/\d=.osl k' n sz i len)/\c1F k g k' n env r
theorem c1F.get {k g k' n:Nat}{env:Env}:∀ {env':Env},c1F k g k' n env env'->∀ t,env'.get t=.any\/env'.get t=env.get t\/∃ sz i len,env.get t=.osl k g sz i len/\env'.get t=.osl k' n sz i len
 | [],_,t=>.inl rfl
 | (t0,d)::r,h,t=>by
  simp only [Env.get];cases hb:Nat.beq t0 t with
  | true =>
   obtain rfl:=e0d hb;rcases h.1 with h1|h1
   ·exact .inr (.inl h1)
   ·exact .inr (.inr h1)
  | false=>exact c1F.get h.2 t
section
variable {C:Ctx} {B F:Fra} {rd:Option Nat} {Q:Exit->Fra->St->Prop}
theorem d9x {c:Code}{env:Env}{k g k' T sz n:Nat}{es:List D}(env':Env)(he:c1F k g k' n env env')(h:OkS C B rd F c ⟨env',[⟨k',n,T,sz,es⟩],n+1⟩ Q):OkS C B rd F c ⟨env,[⟨k,g,T,sz,es⟩],n⟩ Q:=by
 refine ⟨fun hB hd ρ a w hs=>?_⟩;obtain ⟨ρ',hl,hk,hf⟩:∃ ρ':Lk,(∀ k1 g1 b,ρ k1 g1=some b->ρ' k1 g1=some b)/\ρ' k' n=ρ k g/\b0h ρ' (n+1):=by
  cases hb:ρ k g with
  | none=>exact ⟨ρ,fun _ _ _ h=>h,hs.fresh _ _ (d9Z _),fun k1 g1 h=>hs.fresh _ _ (Nat.le_of_succ_le h)⟩
  | some b=>exact ⟨ρ.put k' n b,fun k1 g1 b1 h1=>d8U (hs.fresh _ _ (d9Z _)) h1,d8V _ _ _ _,fun k1 g1 h1=>by
    unfold Lk.put;split
    ·rename_i hh;omega
    ·exact hs.fresh _ _ (Nat.le_of_succ_le h1)⟩
 have hO:Own F.X ρ' [⟨k',n,T,sz,es⟩]=Own F.X ρ [⟨k,g,T,sz,es⟩]:=funext fun b=>propext (by simp [Own,hk])
 have x:Ext ρ (Own F.X ρ [⟨k,g,T,sz,es⟩]) w ρ' (Own F.X ρ' [⟨k',n,T,sz,es⟩]) w:=⟨d9Z _,hl,fun b _ hb=>⟨by rw [hO];exact hb,rfl⟩,fun _ cs _ _ h=>⟨cs,_,h,rfl⟩⟩
 refine h.out hB hd ρ' a w ⟨⟨⟨fun e he'=>?_,by simp,fun e he' b hb=>?_⟩,hs.mem.os,hs.mem.tape,hs.mem.output,hs.mem.size,hs.mem.blk,hs.mem.xlt,hs.mem.g0,hs.mem.gn,hs.mem.gw,fun k1 g1 b h1=>hl _ _ _ (hs.mem.lnk _ _ _ h1),hs.mem.shp⟩,hf,fun e he'=>?_,fun t=>?_,hs.nt,hs.dfr⟩
 ·simp only [e0m,e0M,or_false] at he'
  subst he';rcases hs.mem.hok.ent ⟨k,g,T,sz,es⟩ (by simp) with ⟨h1,h2⟩|⟨b,cs,h1,h2,h3⟩
  ·exact .inl ⟨h1,by rw [show ρ' k' n=ρ k g from hk];exact h2⟩
  ·refine .inr ⟨b,cs,hk.trans h1,h2,?_⟩
   have h4:=h3.mono x;exact ⟨h4.len,h4.siz,h4.one,h4.rep⟩
 ·simp only [e0m,e0M,or_false] at he'
  subst he';exact hs.mem.hok.own ⟨k,g,T,sz,es⟩ (by simp) b (hk.symm.trans hb)
 ·simp only [e0m,e0M,or_false] at he'
  subst he';exact e2p _
 ·have h0:=(hs.env t).mono x
  rcases he.get t with h1|h1|⟨sz',i,len,h1,h2⟩
  ·show Rep _ _ _ (env'.get t) _
   rw [h1];exact .any _
  ·show Rep _ _ _ (env'.get t) _
   rw [h1];exact h0
  ·show Rep _ _ _ (env'.get t) _
   rw [h2];have h5:=hs.env t;change Rep _ _ _ (env.get t) _ at h5;rw [h1] at h5;generalize a.tmps.getD t undef=v at *;cases h5 with
   | onil=>exact .onil _ _ _
   | osl hr hb hc hs' hm=>exact .osl (hk.trans hr) hb hc hs' hm
end
theorem d8B {b m y:Nat}(hl:(a0s b).length=m+1)(hy:(a0s b)[m]? = some y):∃ f,f=1000000000 / (y+1)/\0<f/\f<RB/\(a0s (b*f)).length=m+1:=by
 have hy0:=a4w b hl hy;have hyl:y<RB:=a0D b y (d9V hy);have hf0:0<1000000000 / (y+1):=Nat.div_pos (by unfold RB at hyl;omega) (by omega);have hf1:1000000000 / (y+1)<RB:=e2h (by decide) (by omega);have hm:=Nat.div_mul_le_self 1000000000 (y+1);refine ⟨_,rfl,hf0,hf1,?_⟩;generalize 1000000000 / (y+1)=f at *;refine b5g ?_ ?_
 ·exact e0A (a7w hl) (Nat.le_mul_of_pos_right _ hf0)
 ·have h2:=c1H hl hy
  have h3:=a1t ((a0D b).take m);rw [e0n,hl,e1P (by omega)] at h3;rw [a0u] at h2;have h4:b<RB^m*(y+1):=by rw [e0r,e1W];omega
  have h5:b*f<RB^m*(y+1)*f:=e2H h4 hf0;have h6:RB^m*(y+1)*f=RB^m*(f*(y+1)):=by rw [e0D,e0t (y+1)]
  have h7:RB^m*(f*(y+1))<=RB^m*RB:=e0C _ hm;rw [e0J];omega
theorem b7b {a b f:Nat}{U v:List Nat}{k lu lq:Nat}(hf:0<f)(hU:a0i U=a*f)(hv:a0i v=b*f)(wU:Rd U)(lU:U.length=lu){q:List Nat}(hq:q=List.replicate lq 0)(hk:lq<=k)
  (hab:a<RB^k*b):c6S (a*f) v U q lu lq k:=by
 subst hq;refine ⟨lU,e2g,wU,a7e _,?_,?_⟩
 ·rw [e1p (by rw [e2g];exact hk)]
  rw [show a0i []=0 from rfl,e1K,e2z,e0v,hU]
 ·rcases e0j (a0i (U.drop k)) (a0i v) with h|h
  ·exact h
  ·exfalso
   have e0:a0i U=a0i (U.take k)+RB^(U.take k).length*a0i (U.drop k):=by
    conv=>lhs;rw [<- e1j k U]
    rw [a1o]
   have h3:a*f<RB^k*b*f:=e2H hab hf;rw [e0D,<- hv] at h3;rcases e0j U.length k with hl|hl
   ·rw [e1p (by omega)] at h
    rw [show a0i []=0 from rfl] at h;rw [Nat.le_zero.1 h,e1K] at h3;omega
   ·rw [e0n,e1P hl] at e0
    have:=e0C (RB^k) h
    omega
theorem b9r {a b f:Nat}{v U q:List Nat}{lu lq:Nat}(hf:0<f)(I:c6S (a*f) v U q lu lq 0)(hv:a0i v=b*f):a0i q=a / b/\a0i U=a%b*f:=by
 obtain ⟨lU,lQ,wU,wq,val,less⟩:=I;simp only [e3z,e3c,e1C] at val less;obtain ⟨h1,h2⟩:=a6B val less;rw [hv,e2Q _ _ hf] at h1;rw [hv,e2R] at h2;exact ⟨h1,h2⟩
theorem c7X {P V q N Pn c z W:Nat}(hI:N+q*V=Pn+W*c)(hP:P=Pn+W*z)(hc:c<=z)(hup:P<(q+1)*V):P / V=q/\P%V=N+W*(z - c):=by
 have e:W*z=W*c+W*(z - c):=by rw [<- e0r];congr 1;omega
 exact a9L (N:=N+W*(z - c)) (by omega) hup
theorem c8u {P V q N Pn N2 c c2 z W:Nat}(hI:N+q*V=Pn+W*c)(hP:P=Pn+W*z)(hz:z<c)(hN:N<W)(hdn:q*V<=P+V)(hN2:N2+W*c2=N+V)(hc2:c2<=1)(hN2l:N2<W)(hVW:V<W) :
  0<q/\P / V=q - 1/\P%V=N2/\(z:Int) - c+c2=0:=by
 obtain ⟨e,rfl⟩:∃ e,c=z+1+e:=⟨c - z - 1,by omega⟩
 have h1:W*(z+1+e)=W*z+W+W*e:=by rw [e0r,e0r,e1W]
 have he:e=0:=by
  rcases e0N e with h|h
  ·exact h
  ·have:=e0C W h
   omega
 subst he;rw [e1K] at h1;obtain ⟨a1,a2,a3⟩:=b3H (U:=P) (V:=V) (q:=q) (N:=N) (N3:=N2) (T:=W) (c:=c2) (by omega) hN hdn hN2 hc2 hN2l;refine ⟨a1,a2,a3,?_⟩
 have:c2=1:=by
  rcases e0N c2 with h|h
  ·exfalso
   subst h;rcases e0N q with h0|h0
   ·subst h0;omega
   ·obtain ⟨k,rfl⟩:∃ k,q=k+1:=⟨q - 1,by omega⟩
    rw [e0H,e3c] at hI hdn;omega
  ·omega
 subst this;omega
def blk (A N:List Nat)(top:Int)(Z:List Nat):List D:=A.map a0t++(N.map a0t++(i64 top::Z.map a0t))
theorem c4w {A N Z:List Nat}{top:Int}{i z:Nat}(h:N[i]? = some z):(blk A N top Z)[A.length+i]? = some (a0t z):=by
 have hi:i<N.length:=(List.getElem?_eq_some_iff.1 h).1;unfold blk;rw [e0K (by rw [d9X];omega),d9X,e1X,e0U (by rw [d9X];exact hi)];exact a7J h
theorem c0w {A N Z:List Nat}{top:Int}{i d:Nat}(h:i<N.length):(blk A N top Z).set (A.length+i) (a0t d)=blk A (N.set i d) top Z:=by
 unfold blk;rw [e3j _ _ (by rw [d9X];omega),d9X,e1X,List.set_append_left _ _ (by rw [d9X];exact h),b0r]
theorem b4t {A N Z:List Nat}{top:Int}{n:Nat}(h:N.length=n):(blk A N top Z)[A.length+n]? = some (i64 top):=by
 unfold blk;rw [e0K (by rw [d9X];omega),d9X,e1X,e0K (by rw [d9X];omega),d9X,h,Nat.sub_self];rfl
theorem b5U {A N Z:List Nat}{top t:Int}{n:Nat}(h:N.length=n):(blk A N top Z).set (A.length+n) (i64 t)=blk A N t Z:=by
 unfold blk;rw [e3j _ _ (by rw [d9X];omega),d9X,e1X,e3j _ _ (by rw [d9X];omega),d9X,h,Nat.sub_self];rfl
theorem b4w {A N Z:List Nat}{t:Nat}:blk A N (t:Int) Z=(A++((N++[t])++Z)).map a0t:=by
 unfold blk;simp [e1w]
theorem c3r {t x c z:Nat}(ht:t<RB)(hx:x<RB)(hc:c<=RB)(hz:z<RB):∃ p lo hi x' d c':Nat,IntKind.i64.wrap ((t:Int)*(x:Int))=(p:Int)/\IntKind.i64.wrap ((p:Int)+(c:Int))=(x':Int)/\((x':Int)).tmod 1000000000=(lo:Int) /\
  IntKind.i64.wrap (((x':Int)).tdiv 1000000000)=(hi:Int)/\IntKind.i64.wrap ((z:Int) - (lo:Int))=(z:Int) - lo/\d<RB/\c'<=RB/\d+t*x+c=z+RB*c' /\
  ((c'=hi/\(z:Int) - lo=d)\/(c'=hi+1/\(z:Int) - lo<0/\IntKind.i64.wrap ((z:Int) - lo+1000000000)=d/\IntKind.i64.wrap ((hi:Int)+1)=((hi+1:Nat):Int))):=by
 have h3:t*x<=999999999*999999999:=e1Q (by unfold RB at ht;omega) (by unfold RB at hx;omega);have e:=e1y (t*x+c) 1000000000;have l:=e0L (t*x+c) (show 1000000000>0 by decide);have k0:IntKind.i64.wrap ((t:Int)*(x:Int))=((t*x:Nat):Int):=by rw [<- e1t,wI (by omega) (by omega)]
 unfold RB at *;have k1:IntKind.i64.wrap (((t*x:Nat):Int)+(c:Int))=((t*x+c:Nat):Int):=by rw [wI (by omega) (by omega)];omega
 have k2:((t*x+c:Nat):Int).tmod 1000000000=(((t*x+c)%1000000000:Nat):Int):=c2Q _ 1000000000;have k3:IntKind.i64.wrap (((t*x+c:Nat):Int).tdiv 1000000000)=(((t*x+c) / 1000000000:Nat):Int):=c1L _ 1000000000 (by omega);generalize t*x=p at *;generalize (p+c)%1000000000=lo at *;generalize (p+c) / 1000000000=hi at *;rcases e0j z lo with h|h
 ·exact ⟨_,_,_,_,z+1000000000 - lo,hi+1,k0,k1,k2,k3,wI (by omega) (by omega),by omega,by omega,by omega,.inr ⟨rfl,by omega,by rw [wI (by omega) (by omega)];omega,by rw [wI (by omega) (by omega)];omega⟩⟩
 ·exact ⟨_,_,_,_,z - lo,hi,k0,k1,k2,k3,wI (by omega) (by omega),by omega,by omega,by omega,.inl ⟨rfl,by omega⟩⟩
theorem c3W {z x c:Nat}(hz:z<RB)(hx:x<RB)(hc:c<=1):∃ p s d c':Nat,IntKind.i64.wrap ((z:Int)+(x:Int))=(p:Int)/\IntKind.i64.wrap ((p:Int)+(c:Int))=(s:Int)/\((s:Int)).tmod 1000000000=(d:Int) /\
  IntKind.i64.wrap (((s:Int)).tdiv 1000000000)=(c':Int)/\d<RB/\c'<=1/\d=(z+x+c)%RB/\c'=(z+x+c) / RB:=by
 have e:=e1y (z+x+c) 1000000000;have l:=e0L (z+x+c) (show 1000000000>0 by decide);unfold RB at *;have k0:IntKind.i64.wrap ((z:Int)+(x:Int))=((z+x:Nat):Int):=by rw [wI (by omega) (by omega)];omega
 have k1:IntKind.i64.wrap (((z+x:Nat):Int)+(c:Int))=((z+x+c:Nat):Int):=by rw [wI (by omega) (by omega)];omega
 have k2:((z+x+c:Nat):Int).tmod 1000000000=(((z+x+c)%1000000000:Nat):Int):=c2Q _ 1000000000;have k3:IntKind.i64.wrap (((z+x+c:Nat):Int).tdiv 1000000000)=(((z+x+c) / 1000000000:Nat):Int):=c1L _ 1000000000 (by omega);exact ⟨_,_,_,_,k0,k1,k2,k3,l,by omega,rfl,rfl⟩
set_option maxHeartbeats 2000000
theorem c7Q:rD 0=.sl false 1 []:=by unfold rD;rw [a0K];rfl
theorem b4X {H:Hp}{K g T:Nat}{l:List Nat}{N:Nat}(hl:l.length=N)(he:Hp.get H K=some ⟨K,g,T,1,l.map a0t⟩:=by exact rfl):Fz H [] (.osl K g 1 0 N) (.sl false 1 (l.map a0t)):=by
 subst hl;have key:∀ (j:Nat) (d d':D),(l.map a0t)[0+j]? = some d->(l.map a0t)[j]? = some d'->d=d':=fun j d d' h1 h2=>by
  rw [e0v] at h1;rw [h1] at h2;exact e2e h2
 refine .osl (e:=⟨K,g,T,1,l.map a0t⟩) he rfl rfl rfl (by simp) (by simp) (fun j d d' h1 h2=>by rw [key j d d' h1 h2]) fun j d d' q c c' h1 h2 h3 h4=>?_
 rw [key j d d' h1 h2] at h3;rw [h3] at h4;cases h4;exact Fz.refl _
theorem b8o (a b:Nat)(hab:a<b)(ha:(a0s a).length<1000000)(hb:(a0s b).length<1000000):a0b C0 109 [rD a,rD b] (.tup [rD (a / b),rD (a%b)]):=by
 rw [e1Y hab,e0Y hab,c7Q];refine a0c.walk w1 c1f rfl fun F=>?_
 have cc:=c2g a b (by omega) (by omega);have e1:=b8w hab;refine sR 0 ?_;refine OkS.seq ?_;refine sR 100 ?_;refine cI cc ?_;rw [e1];refine ifI ?_;refine sR 200 ?_;refine rtI ?_;exact ⟨_,c5t (.nil 1) (.refl _),b6E (.sl fun e he=>by cases he) (a9F _),rfl⟩
theorem c3J (a b:Nat)(hab:b<=a)(ha:(a0s a).length<1000000)(hb:(a0s b).length=1)(hb0:b≠0):a0b C0 109 [rD a,rD b] (.tup [rD (a / b),rD (a%b)]):=by
 have cc:=c2g a b (by omega) (by omega);have e1:=b2e hab;have hbl:b<RB:=by
  have:=a1M b
  rw [hb,Nat.pow_one] at this;exact this
 have hlb:(a0s b)[0]? = some b:=by rw [a4j hb0 hbl];rfl
 have hb':=a7J hlb;have cd:=b0I a b (e0T hb0) hbl ha;have e3:(((((a0s b).map a0t).length:Nat):Int)==1)=true:=by rw [d9X,hb];rfl
 have hml:a%b<RB:=e2i (e0L _ (e0T hb0)) hbl;have hv:a0i [a%b]=a%b:=by simp [a0i]
 refine a0c.walk w1 c1f rfl fun F=>?_
 generalize a / b=q at *;generalize a%b=r at *;unfold rD rL at cc cd ⊢;change OkS C0 F none F _ _ (c3F X1.tt _ (· = .tup [rD q,rD r]));generalize a0s a=la at *;generalize a0s b=lb at *;refine sR 0 ?_;refine OkS.seq ?_;refine sR 100 ?_;refine cI cc ?_;rw [e1];refine ifI ?_;refine skI ?_;refine OkS.seq ?_;refine sZ 300 ?_;refine nwI e3 ?_;refine ifI ?_;refine sZ 400 ?_;refine gwI kN ?_;refine ixI kT hb' ?_;refine gwI kN ?_;refine a0j.same _ cd d9O ?_;refine stI ?_;refine sR 500 ?_;have hrl:Rd [r]:=fun a ha=>by
  simp only [e0m,e0M,or_false] at ha;subst ha;exact hml
 refine a0j.pure [rL [r]] _ ⟨.nn true 1 _,trivial⟩ (a8F [r] hrl (by simp)) d9O ?_;refine stI ?_;refine rtI ?_;exact a0a (by rw [hv];rfl) IsPure.out
theorem d8b {H:Hp}{d1 d2 d3 e1 e2 e3:D}(h1:FzS H d1 e1)(h2:FzS H d2 e2)(h3:FzS H d3 e3):∀ (i:Nat) (a b:D),[d1,d2,d3][i]? = some a->[e1,e2,e3][i]? = some b->FzS H a b
 | 0,_,_,ha,hb=>by cases ha;cases hb;exact h1
 | 1,_,_,ha,hb=>by cases ha;cases hb;exact h2
 | 2,_,_,ha,hb=>by cases ha;cases hb;exact h3
 | _+3,_,_,ha,_=>by cases ha
theorem b6R {P v:List Nat}(d:D)(h:b5p P v d):b0u d:=by
 obtain ⟨q,rfl,_⟩:=h;exact b0u.prim _
theorem c7e {v N Pn:List Nat}{t i c z x:Nat}(hz:N[i]? = some z)(hx:v[i]? = some x)(ht:t<RB)(hxl:x<RB)(hc:c<=RB)(hzl:z<RB)(hI:a0i N+t*a0i (v.take i)=a0i Pn+RB^i*c) :
  ∃ (p x' lo hi d c':Nat) (e:Int),IntKind.i64.wrap ((t:Int)*(x:Int))=(p:Int)/\IntKind.i64.wrap ((p:Int)+(c:Int))=(x':Int)/\((x':Int)).tmod 1000000000=(lo:Int) /\
  IntKind.i64.wrap (((x':Int)).tdiv 1000000000)=(hi:Int)/\IntKind.i64.wrap ((z:Int) - (lo:Int))=e/\d<RB/\c'<=RB/\a0i (N.set i d)+t*a0i (v.take (i+1))=a0i Pn+RB^(i+1)*c' /\
  ((decide (e<0)=false/\e=(d:Int)/\hi=c')\/(decide (e<0)=true/\IntKind.i64.wrap (e+1000000000)=(d:Int)/\IntKind.i64.wrap ((hi:Int)+1)=(c':Int))):=by
 obtain ⟨p,lo,hi,x',d,c',k1,k2,k3,k4,k5,k6,k7,k8,k9⟩:=c3r ht hxl hc hzl;have J:=a9G (b:=0) (c':=0) (lo:=t*x+c) (b':=c') (d:=d) (A:=N) (P:=Pn) (v:=v) (q:=t) hz hx hI rfl (by rw [<- k8];exact e1E d (t*x) c ▸ rfl);refine ⟨p,x',lo,hi,d,c',_,k1,k2,k3,k4,k5,k6,k7,by rw [J,e0v],?_⟩;rcases k9 with ⟨h1,h2⟩|⟨h1,h2,h3,h4⟩
 ·exact .inl ⟨d9U (by rw [h2];exact Int.not_lt.2 (Int.natCast_nonneg d)),h2,h1.symm⟩
 ·exact .inr ⟨d9S h2,h3,by rw [h1];exact h4⟩
theorem c7E {v N Nb:List Nat}{i c z x:Nat}(hz:N[i]? = some z)(hx:v[i]? = some x)(hxl:x<RB)(hc:c<=1)(hzl:z<RB)(hI:a0i N+RB^i*c=a0i Nb+a0i (v.take i)) :
  ∃ (p s d c':Nat),IntKind.i64.wrap ((z:Int)+(x:Int))=(p:Int)/\IntKind.i64.wrap ((p:Int)+(c:Int))=(s:Int)/\((s:Int)).tmod 1000000000=(d:Int) /\
  IntKind.i64.wrap (((s:Int)).tdiv 1000000000)=(c':Int)/\d<RB/\c'<=1/\a0i (N.set i d)+RB^(i+1)*c'=a0i Nb+a0i (v.take (i+1)):=by
 obtain ⟨p,s,d,c',k1,k2,k3,k4,k5,k6,rfl,rfl⟩:=c3W hzl hxl hc;exact ⟨p,s,_,_,k1,k2,k3,k4,k5,k6,a7U hz hx hI⟩
theorem b7R {U:List Nat}{k:Nat}(h:a0i U<RB^k)(hk:k<=U.length):a0i (U.take k)=a0i U:=by
 have e:a0i U=a0i (U.take k)+RB^k*a0i (U.drop k):=by
  conv=>lhs;rw [<- e1j k U]
  rw [a1o,e0n,e1P hk]
 rcases e0N (a0i (U.drop k)) with h0|h0
 ·rw [h0,e1K,e1z] at e;exact e.symm
 ·exfalso
  have:=e0C (RB^k) h0
  omega
theorem b7U {P v:List Nat}{m p0 p1 p2 v2 v1:Nat}(S:b3w P v m p0 p1 p2 v2 v1):∃ Pn,P=Pn++[p2]/\Pn.length=m+2/\Rd Pn/\a0i P=a0i Pn+RB^(m+2)*p2:=by
 have hl:=S.lP;have e:P=P.take (m+2)++[p2]:=by
  rw [<- a0U S.h2,e0k (by omega)]
 have hn:(P.take (m+2)).length=m+2:=by rw [e0n];omega
 refine ⟨P.take (m+2),e,hn,S.wP.take _,?_⟩
 conv=>lhs;rw [e]
 rw [a0W hn]
theorem c4N {P N:List Nat}{m z V:Nat}(hl:N.length=m+2)(hN:Rd N)(hz:z<RB)(hv:a0i N+RB^(m+2)*z=a0i P%V):(N++[z]).length=m+3/\Rd (N++[z])/\a0i (N++[z])=a0i P%V:=by
 refine ⟨by rw [e0x,hl];rfl,Rd.append hN fun a ha=>?_,by rw [a0W hl,hv]⟩;simp only [e0m,e0M,or_false] at ha;subst ha;exact hz
set_option maxHeartbeats 4000000
theorem b8Q (a b m:Nat)(hab:b<=a)(ha:(a0s a).length<1000000)(hb:(a0s b).length=m+2):a0b C0 109 [rD a,rD b] (.tup [rD (a / b),rD (a%b)]):=by
 have hlen:=a0F b a hab;have cc:=c2g a b (by omega) (by omega);have e1:=b2e hab;obtain ⟨y,hy⟩:=a3v (l:=a0s b) (i:=m+1) (by omega);have yl:y<RB:=a0D b y (d9V hy);obtain ⟨f,ef,f0,fl,hvl⟩:=d8B hb hy;have wf:IntKind.i64.wrap ((1000000000:Int).tdiv ((y+1:Nat):Int))=(f:Int):=by
  rw [ef];exact c1L 1000000000 (y+1) (e0A (e1H _ _) (by decide))
 have wy:IntKind.i64.wrap ((y:Int)+1)=((y+1:Nat):Int):=wI (by omega) (by unfold RB at yl;omega);have lf:a0s f=[f]:=a4j (Nat.pos_iff_ne_zero.1 f0) fl;have cv:=c6R b f (by omega) (by rw [lf];exact (by decide:1<1000000));have cu:=c6R a f (by omega) (by rw [lf];exact (by decide:1<1000000));have hu1:=a6h a f;have hu2:=a0F a (a*f) (Nat.le_mul_of_pos_right _ f0);rw [lf] at hu1;change _<=_+1 at hu1;obtain ⟨v,hv⟩:∃ v,v=a0s (b*f):=⟨_,rfl⟩
 have wv:Rd v:=by rw [hv];exact a0D _
 have vv:a0i v=b*f:=by rw [hv];exact a0u _
 rw [<- hv] at hvl;obtain ⟨U0,hU0⟩:∃ U0,U0=a0s (a*f):=⟨_,rfl⟩
 have wU0:Rd U0:=by rw [hU0];exact a0D _
 have vU0:a0i U0=a*f:=by rw [hU0];exact a0u _
 rw [<- hU0] at hu1 hu2;obtain ⟨v1,h1⟩:=a3v (l:=v) (i:=m+1) (by omega);obtain ⟨v2,h2⟩:=a3v (l:=v) (i:=m) (by omega);have v10:v1≠0:=a4w (b*f) (by rw [<- hv];exact hvl) (by rw [<- hv];exact h1);have b0:0<b:=by
  refine e0T fun h=>?_
  subst h;rw [a0K] at hb;cases hb
 have vpos:0<a0i v:=by rw [vv];exact e2G b0 f0
 have hup:=a1M a;have hbge:=a7w hb;unfold rD rL at cc cv cu;rw [lf,<- hv] at cv;rw [lf,<- hU0] at cu;refine a0c.walk w1 c1f rfl fun F=>?_
 change OkS C0 F none F _ ⟨a1y 0 [.sl false 1 ((a0s a).map a0t),.sl false 1 ((a0s b).map a0t)],[],0⟩ _;generalize a0s a=la at *;generalize a0s b=lb at *;obtain ⟨lq,hlq⟩:∃ lq,la.length=lq+(m+2):=⟨la.length - (m+2),by omega⟩
 have hy':=a7J hy;have e3:((((lb.map a0t).length:Nat):Int)==1)=false:=by rw [d9X,hb];exact e0g.2 (by omega)
 have elb:(((lb.map a0t).length:Nat):Int)=((m+2:Nat):Int):=by rw [d9X,hb]
 have wlb0:IntKind.i64.wrap (((m+2:Nat):Int) - 1)=((m+1:Nat):Int):=by rw [wI (by omega) (by omega)];omega
 have wlb:IntKind.i64.wrap ((((lb.map a0t).length:Nat):Int) - 1)=((m+1:Nat):Int):=by rw [elb];exact wlb0
 have ea:(((la.map a0t).length:Nat):Int)=(la.length:Int):=by rw [d9X]
 have ev:(((v.map a0t).length:Nat):Int)=((m+2:Nat):Int):=by rw [d9X,hvl]
 have eu:(((U0.map a0t).length:Nat):Int)=(U0.length:Int):=by rw [d9X]
 have wa1:IntKind.i64.wrap ((la.length:Int)+1)=((la.length+1:Nat):Int):=wI (by omega) (by omega);have wq0:IntKind.i64.wrap (((la.length+1:Nat):Int) - ((m+2:Nat):Int))=((lq+1:Nat):Int):=by rw [wI (by omega) (by omega)];omega
 have wq1:IntKind.i64.wrap (((lq+1:Nat):Int) - 1)=((lq+1:Nat):Int) - 1:=wI (by omega) (by omega);have wraw:IntKind.i64.wrap (IntKind.i64.wrap (((la.length+1:Nat):Int) - ((m+2:Nat):Int)) - 1)=((lq+1:Nat):Int) - 1:=by rw [wq0,wq1]
 have r3:List.replicate (lq+1) (ofV (.int .i64 0))=(List.replicate (lq+1) 0).map a0t:=by rw [e2n];rfl
 refine sR 0 ?_;refine OkS.seq ?_;refine sR 100 ?_;refine cI cc ?_;rw [e1];refine ifI ?_;refine skI ?_;refine OkS.seq ?_;refine sZ 300 ?_;refine nwI e3 ?_;refine ifI ?_;refine skI ?_;refine sZ 600 ?_;refine gwI (ff4 wlb elb wlb0 kN) ?_;refine ixI kT hy' ?_;refine gwI (ff3 wy wf kN) ?_;refine sR 700 ?_;refine a0j.pure [rL lb,rL [f]] _ ⟨.refl _,.nn true 1 _,trivial⟩ cv d9O ?_;refine stI ?_;refine sZ 800 ?_;refine nwI ev ?_;clear cc e1 e3 elb wlb wlb0 hy' yl hy wy wf hb;refine d9A (α:=Nat × Nat) (fun p=>⟨[(0,.sl false 1 (la.map a0t)),(8,.sl true 1 [a0t f]),(9,.sl false 1 (v.map a0t)),(10,i64 ((m+2:Nat):Int)),(11,.osl 904 p.1 1 0 U0.length)],[⟨904,p.1,3,1,U0.map a0t⟩],p.2⟩) (fun _=>True) ?_ ?_
 ·refine rI 900 ?_
  refine a0j.pure [rL la,rL [f]] _ ⟨.refl _,.nn true 1 _,trivial⟩ cu d9O ?_;refine stI ?_;exact ⟨rfl,⟨_,_⟩,trivial,wkI⟩
 rintro ⟨g,n2⟩ -;dsimp only;refine d9A (α:=Nat × Nat × List Nat × Nat) (fun p=>⟨[(0,.sl false 1 (la.map a0t)),(8,.sl true 1 [a0t f]),(9,.sl false 1 (v.map a0t)),(10,i64 ((m+2:Nat):Int)),(11,.osl p.1 p.2.1 1 0 (la.length+1))],[⟨p.1,p.2.1,3,1,p.2.2.1.map a0t⟩],p.2.2.2⟩) (fun p=>p.2.2.1.length=la.length+1/\Rd p.2.2.1/\a0i p.2.2.1=a*f) ?_ ?_
 ·refine OkS.block ?_
  rcases Nat.eq_or_lt_of_le hu1 with hl|hl
  ·have eN:decide (((la.length+1:Nat):Int)<((la.length+1:Nat):Int))=false:=d9U (by omega)
   rw [hl];refine d9k (α:=Nat) (fun n=>⟨[(0,.sl false 1 (la.map a0t)),(8,.sl true 1 [a0t f]),(9,.sl false 1 (v.map a0t)),(10,i64 ((m+2:Nat):Int)),(11,.osl 904 g 1 0 (la.length+1))],[⟨904,g,3,1,U0.map a0t⟩],n⟩) (fun _=>0) (fun _ F'=>F'=F) n2 rfl wkI ?_;rintro n3 F' rfl;refine OkS.seq ?_;refine sZ 1000 ?_;refine nwI (ff3 ea wa1 eN) ?_;refine ifI ?_;refine exI ?_;exact ⟨rfl,⟨904,g,U0,_⟩,⟨hl,wU0,vU0⟩,wkI⟩
  ·have hl2:U0.length=la.length:=by omega
   have eN:decide (((la.length+1:Nat):Int)<((la.length+1:Nat):Int))=false:=d9U (by omega);have eY:decide ((la.length:Int)<((la.length+1:Nat):Int))=true:=d9S (by omega);have hap:List.take la.length (U0.map a0t)++[D.prim (Value.int IntKind.i64 0)]=(U0++[0]).map a0t:=by
    rw [e0k (by rw [d9X];omega),e1w];rfl
   rw [hl2];refine d9k (α:=Bool × Nat × Nat) (fun p=>match p with
    | (false,_,n)=>⟨[(0,.sl false 1 (la.map a0t)),(8,.sl true 1 [a0t f]),(9,.sl false 1 (v.map a0t)),(10,i64 ((m+2:Nat):Int)),(11,.osl 904 g 1 0 la.length)],[⟨904,g,3,1,U0.map a0t⟩],n⟩
    | (true,g1,n)=>⟨[(0,.sl false 1 (la.map a0t)),(8,.sl true 1 [a0t f]),(9,.sl false 1 (v.map a0t)),(10,i64 ((m+2:Nat):Int)),(11,.osl 1102 g1 1 0 (la.length+1))],[⟨1102,g1,3,1,(U0++[0]).map a0t⟩],n⟩) (fun p=>cond p.1 0 1) (fun _ F'=>F'=F) (false,0,n2) rfl wkI ?_
   rintro ⟨_|_,g1,n3⟩ F' rfl
   ·dsimp only
    refine OkS.seq ?_;refine sZ 1000 ?_;refine nwI (ff3 ea wa1 eY) ?_;refine ifI ?_;refine skI ?_;refine OkS.block ?_;refine rI 1100 ?_;refine ⟨(true,n3+8,n3+10),rfl,(by decide:(0:Nat)<1),?_⟩;dsimp only;rw [hap];exact wkI
   ·dsimp only
    refine OkS.seq ?_;refine sZ 1000 ?_;refine nwI (ff3 ea wa1 eN) ?_;refine ifI ?_;refine exI ?_;refine ⟨rfl,⟨1102,g1,U0++[0],_⟩,⟨by rw [e0x,hl2];rfl,Rd.append wU0 fun a ha=>?_,by rw [b4Z];exact vU0⟩,wkI⟩;simp only [e0m,e0M,or_false] at ha;subst ha;decide
 rintro ⟨K,gK,U1,n3⟩ ⟨lU1,wU1,vU1⟩;dsimp only at lU1 wU1 vU1 ⊢;refine d9x [(8,.sl true 1 [a0t f]),(9,.sl false 1 (v.map a0t)),(10,i64 ((m+2:Nat):Int)),(11,.osl 1102 n3 1 0 (la.length+1))] ⟨.inl rfl,.inl rfl,.inl rfl,.inr ⟨_,_,_,rfl,rfl⟩,trivial⟩ ?_;clear cu hU0 vU0 wU0 hu1 hu2 cv;refine d9A (α:=Nat × Nat) (fun p=>⟨[(8,.sl true 1 [a0t f]),(9,.sl false 1 (v.map a0t)),(10,i64 ((m+2:Nat):Int)),(11,.osl 1102 n3 1 0 (la.length+1)),(12,.osl 1204 p.1 1 0 (lq+1))],[⟨1204,p.1,3,1,(List.replicate (lq+1) 0).map a0t⟩,⟨1102,n3,3,1,U1.map a0t⟩],p.2⟩) (fun _=>True) ?_ ?_
 ·refine d9l w1 1200 (by kernel_rfl) ?_
  refine nwI (ff3 wq0 kN r3) ?_;exact ⟨trivial,⟨_,_⟩,trivial,by rw [<- r3];exact wkI⟩
 rintro ⟨g,n2⟩ -;dsimp only;have I0:c6S (a*f) v U1 (List.replicate (lq+1) 0) (la.length+1) (lq+1) (lq+1):=by
  refine b7b f0 vU1 vv wU1 lU1 rfl (d9Z _) ?_
  have:RB^(lq+1)*RB^(m+1)<=RB^(lq+1)*b:=e0C _ hbge
  rw [<- e2s,show lq+1+(m+1)=la.length by omega] at this;omega
 clear hup hbge;refine OkS.seq ?_;refine sZ 1300 ?_;refine nwI wraw ?_;refine OkS.block ?_;refine OkS.loop (α:=Nat × List Nat × List Nat × Nat) (fun p=>⟨[(8,.sl true 1 [a0t f]),(9,.sl false 1 (v.map a0t)),(10,i64 ((m+2:Nat):Int)),(11,.osl 1102 n3 1 0 (la.length+1)),(12,.osl 1204 g 1 0 (lq+1)),(13,i64 ((p.1:Int) - 1))],[⟨1204,g,3,1,p.2.2.1.map a0t⟩,⟨1102,n3,3,1,p.2.1.map a0t⟩],p.2.2.2⟩) (fun p=>p.1)
  (fun p=>p.1<=lq+1/\c6S (a*f) v p.2.1 p.2.2.1 (la.length+1) (lq+1) p.1) (lq+1,U1,List.replicate (lq+1) 0,_) ⟨d9Z _,I0⟩ wkI ?_
 rintro ⟨k,u,q,n4⟩ F ⟨hk,I⟩;dsimp only at hk I ⊢;clear I0 wq0 wq1 wraw r3 ea eu wU1 vU1 lU1;refine OkS.seq ?_;refine sR 1400 ?_;refine ifI ?_
 (refine brI (fun h20=>?_) (fun h20=>?_))<;>(try simp only [e0a,e0c] at h20)<;>(try simp only [h20])
 ·obtain ⟨j,rfl⟩:∃ j,k=j+1:=⟨k - 1,by
   have:(k:Int) - 1>=0:=by simpa using h20
   omega⟩
  have wj:((j+1:Nat):Int) - 1=(j:Int):=by omega
  obtain ⟨p0,p1,p2,SI,hz,hP⟩:=b6P I hvl wv v1 v2 h2 h1 (e0T v10) (by omega);have lu:=I.lU;have cg:=c6z u v j m p0 p1 p2 v2 v1 SI (by omega) (by omega);rw [wj];refine skI ?_;refine OkS.seq ?_;refine OkS.block ?_;refine sR 1600 ?_;refine a0j.own _ (d9E cg rfl (d8b (d8Q (b4X lu)) (d8Q (.refl _)) (d8Q (.refl _))) d9O b6R) ?_;rintro d H' n5 ⟨⟨t,rfl,ht1,ht2,ht3⟩,rfl,rfl⟩;refine stI ?_;obtain ⟨Pn,eP,lPn,wPn,vPn⟩:=b7U SI;have hA:(u.take j).length=j:=by rw [e0n];omega
  have p2l:=SI.p2l;have hdl:a0i ((u.drop j).take (m+3)) / a0i v<RB:=e1e SI.less;have hU:u.map a0t=blk (u.take j) Pn (p2:Int) (u.drop (j+(m+3))):=by rw [b4w,<- eP,<- d6T]
  have J:=fun P' h1 h2 h3=>b7v (P':=P') I vpos (by omega) (by omega) hz hP h1 h2 h3 hdl
  obtain ⟨zq,hzq⟩:=a3v (l:=q) (i:=j) (by rw [I.lQ];omega);have hzq':=a7J hzq;have wi':IntKind.i64.wrap ((j:Int) - 1)=(j:Int) - 1:=wI (by omega) (by omega);have wjn:IntKind.i64.wrap ((j:Int)+((m+2:Nat):Int))=((j+(m+2):Nat):Int):=by rw [wI (by omega) (by omega)];omega
  have hVW:=a1t wv;rw [show v.length=m+2 from hvl] at hVW;rw [hU];clear hU cg hP hz SI eP h20 wj I h1 h2 v10;generalize (u.drop j).take (m+3)=P at *;generalize u.take j=A at *;generalize u.drop (j+(m+3))=Z at *;refine sR 1700 ?_;refine OkS.seq ?_;refine sR 1800 ?_;refine OkS.block ?_;refine OkS.loop (α:=Nat × Nat × List Nat × Nat) (fun p=>⟨[(8,.sl true 1 [a0t f]),(9,.sl false 1 (v.map a0t)),(10,i64 ((m+2:Nat):Int)),(11,.osl 1102 n3 1 0 (la.length+1)),(12,.osl 1204 g 1 0 (lq+1)),(13,i64 (j:Int)),(14,a0t t),(15,a0t p.2.1),(16,i64 p.1)],[⟨1204,g,3,1,q.map a0t⟩,⟨1102,n3,3,1,blk A p.2.2.1 (p2:Int) Z⟩],p.2.2.2⟩) (fun p=>m+2 - p.1)
   (fun p=>p.1<=m+2/\p.2.1<=RB/\p.2.2.1.length=m+2/\Rd p.2.2.1/\a0i p.2.2.1+t*a0i (v.take p.1)=a0i Pn+RB^p.1*p.2.1) (0,0,Pn,_) ⟨e0y _,e0y _,lPn,wPn,by simp [a0i]⟩ wkI ?_
  rintro ⟨i,c,N,n6⟩ F ⟨hi,hc,hNl,hNw,hI⟩;dsimp only at hi hc hNl hNw hI ⊢;refine OkS.seq ?_;refine sR 1900 ?_;refine ifI ?_
  (refine brI (fun hlt=>?_) (fun hlt=>?_))<;>(try simp only [e0a,e0c] at hlt)<;>(try simp only [hlt])
  ·have hi2:i<m+2:=by
    have:=e0p hlt
    omega
   obtain ⟨x,hx⟩:=a3v (l:=v) (i:=i) (by omega);have hx':=a7J hx;have hxl:x<RB:=wv x (d9V hx);obtain ⟨z,hz⟩:=a3v (l:=N) (i:=i) (by omega);have hzl:=hNw z (d9V hz);have hz':=c4w (A:=A) (Z:=Z) (top:=(p2:Int)) hz;rw [hA] at hz';obtain ⟨p,x',lo,hi',d,c',e,k1,k2,k3,k4,k5,dl,cl,hI',hb⟩:=c7e hz hx ht1 hxl hc hzl hI;have hset:(blk A N (p2:Int) Z).set (j+i) (a0t d)=blk A (N.set i d) (p2:Int) Z:=by
    have:=c0w (A:=A) (Z:=Z) (top:=(p2:Int)) (i:=i) (d:=d) (N:=N) (by omega)
    rwa [hA] at this
   have wij:IntKind.i64.wrap ((i:Int)+(j:Int))=((j+i:Nat):Int):=by rw [wI (by omega) (by omega)];omega
   have wi:IntKind.i64.wrap ((i:Int)+1)=((i+1:Nat):Int):=wI (by omega) (by omega);clear hI J hVW vPn ht2 ht3 hdl;refine skI ?_;refine OkS.seq ?_;refine OkS.block ?_;refine sZ 2100 ?_;refine gwI kN ?_;refine ixI kT hx' ?_;refine gwI (ff3 kN k1 k2) ?_;refine sZ 2200 ?_;refine gwI (ff6 wij kN e0v hz' k3 k5) ?_;refine sZ 2300 ?_;refine nwI k4 ?_;rcases hb with ⟨b1,b2,b3⟩|⟨b1,b2,b3⟩
   ·refine OkS.seq ?_
    refine sZ 2400 ?_;refine nwI b1 ?_;refine ifI ?_;refine skI ?_;subst b2 b3;refine d9l w1 2700 (by kernel_rfl) ?_;refine gwI (ff4 wij kN e0v hz') ?_;rw [hset];refine d9l w1 2000 (by kernel_rfl) ?_;refine nwI wi ?_;exact ⟨(i+1,hi',N.set i d,_),⟨hi2,cl,by dsimp only;rw [e0G];exact hNl,hNw.set dl,hI'⟩,by dsimp only;omega,wkI⟩
   ·refine OkS.seq ?_
    refine sZ 2400 ?_;refine nwI b1 ?_;refine ifI ?_;refine sZ 2500 ?_;refine nwI b2 ?_;refine d9l w1 2600 (by kernel_rfl) ?_;refine nwI b3 ?_;refine d9l w1 2700 (by kernel_rfl) ?_;refine gwI (ff4 wij kN e0v hz') ?_;rw [hset];refine d9l w1 2000 (by kernel_rfl) ?_;refine nwI wi ?_;exact ⟨(i+1,c',N.set i d,_),⟨hi2,cl,by dsimp only;rw [e0G];exact hNl,hNw.set dl,hI'⟩,by dsimp only;omega,wkI⟩
  ·have hi2:i=m+2:=by
    have:=e0i hlt
    omega
   subst hi2;rw [e0k (by omega)] at hI;have hNlt:=a1t hNw;rw [hNl] at hNlt;have htop:=b4t (A:=A) (Z:=Z) (top:=(p2:Int)) hNl;have hstop:=b5U (A:=A) (Z:=Z) (top:=(p2:Int)) (t:=(p2:Int) - (c:Int)) hNl;have htop2:=b4t (A:=A) (Z:=Z) (top:=(p2:Int) - (c:Int)) hNl;rw [hA] at htop hstop htop2;have p2l9:p2<1000000000:=p2l;have hc9:c<=1000000000:=hc;have wzc:IntKind.i64.wrap ((p2:Int) - (c:Int))=(p2:Int) - (c:Int):=wI (by omega) (by omega);refine exI ?_;refine sZ 2800 ?_;refine gwI (ff5 wjn kN e0v htop wzc) ?_;rw [hstop];rcases e0j p2 c with h|h
   ·have e29:decide ((p2:Int) - (c:Int)<0)=true:=d9S (by omega)
    have ht9:t<1000000000:=ht1;have wt:IntKind.i64.wrap ((t:Int) - 1)=(t:Int) - 1:=wI (by omega) (by omega);refine OkS.seq ?_;refine sZ 2900 ?_;refine gwI (ff5 wjn kN e0v htop2 e29) ?_;refine ifI ?_;refine sZ 3000 ?_;refine nwI wt ?_;refine sR 3100 ?_;refine OkS.seq ?_;refine sR 3200 ?_;refine OkS.block ?_;refine OkS.loop (α:=Nat × Nat × List Nat × Nat) (fun p=>⟨[(8,.sl true 1 [a0t f]),(9,.sl false 1 (v.map a0t)),(10,i64 ((m+2:Nat):Int)),(11,.osl 1102 n3 1 0 (la.length+1)),(12,.osl 1204 g 1 0 (lq+1)),(13,i64 (j:Int)),(14,i64 ((t:Int) - 1)),(19,a0t p.2.1),(20,i64 p.1)],[⟨1204,g,3,1,q.map a0t⟩,⟨1102,n3,3,1,blk A p.2.2.1 ((p2:Int) - (c:Int)) Z⟩],p.2.2.2⟩) (fun p=>m+2 - p.1)
     (fun p=>p.1<=m+2/\p.2.1<=1/\p.2.2.1.length=m+2/\Rd p.2.2.1/\a0i p.2.2.1+RB^p.1*p.2.1=a0i N+a0i (v.take p.1)) (0,0,N,_) ⟨e0y _,e0y _,hNl,hNw,by simp [a0i]⟩ wkI ?_
    rintro ⟨i,c2,N2,n7⟩ F ⟨hi,hc2,hNl2,hNw2,hI2⟩;dsimp only at hi hc2 hNl2 hNw2 hI2 ⊢;clear htop hstop;refine OkS.seq ?_;refine sR 3300 ?_;refine ifI ?_
    (refine brI (fun hlt2=>?_) (fun hlt2=>?_))<;>(try simp only [e0a,e0c] at hlt2)<;>(try simp only [hlt2])
    ·have hi2:i<m+2:=by
      have:=e0p hlt2
      omega
     obtain ⟨x,hx⟩:=a3v (l:=v) (i:=i) (by omega);have hx':=a7J hx;have hxl:x<RB:=wv x (d9V hx);obtain ⟨z,hz⟩:=a3v (l:=N2) (i:=i) (by omega);have hzl:=hNw2 z (d9V hz);have hz':=c4w (A:=A) (Z:=Z) (top:=(p2:Int) - (c:Int)) hz;rw [hA] at hz';obtain ⟨p,s,d,c',k1,k2,k3,k4,dl,cl,hI'⟩:=c7E hz hx hxl hc2 hzl hI2;have hset:(blk A N2 ((p2:Int) - (c:Int)) Z).set (j+i) (a0t d)=blk A (N2.set i d) ((p2:Int) - (c:Int)) Z:=by
      have:=c0w (A:=A) (Z:=Z) (top:=(p2:Int) - (c:Int)) (i:=i) (d:=d) (N:=N2) (by omega)
      rwa [hA] at this
     have wij:IntKind.i64.wrap ((i:Int)+(j:Int))=((j+i:Nat):Int):=by rw [wI (by omega) (by omega)];omega
     have wi:IntKind.i64.wrap ((i:Int)+1)=((i+1:Nat):Int):=wI (by omega) (by omega);clear hI2 hI J hVW vPn ht2 ht3 hdl;refine skI ?_;refine OkS.seq ?_;refine OkS.block ?_;refine OkS.seq ?_;refine d9n w1 3500 [0,1,2,3,4,5,6,7,8,9,10,11] [12,13] (by kernel_rfl) ?_;refine gwI (ff4 wij kN e0v hz') ?_;refine ixI kT hx' ?_;refine gwI (ff3 kN k1 k2) ?_;refine sZ 3600 ?_;refine gwI (ff5 wij kN e0v hz' k3) ?_;rw [hset];refine d9l w1 3700 (by kernel_rfl) ?_;refine nwI k4 ?_;refine d9l w1 3400 (by kernel_rfl) ?_;refine nwI wi ?_;exact ⟨(i+1,c',N2.set i d,_),⟨hi2,cl,by dsimp only;rw [e0G];exact hNl2,hNw2.set dl,hI'⟩,by dsimp only;omega,wkI⟩
    ·have hi2:i=m+2:=by
      have:=e0i hlt2
      omega
     subst hi2;rw [e0k (by omega)] at hI2;have hNlt2:=a1t hNw2;rw [hNl2] at hNlt2;obtain ⟨t0,g1,g2,g3⟩:=c8u hI vPn h hNlt ht3 hI2 hc2 hNlt2 hVW;have htop3:=b4t (A:=A) (Z:=Z) (top:=(p2:Int) - (c:Int)) hNl2;have hstop3:=b5U (A:=A) (Z:=Z) (top:=(p2:Int) - (c:Int)) (t:=((0:Nat):Int)) hNl2;rw [hA] at htop3 hstop3;have wfin:IntKind.i64.wrap ((p2:Int) - (c:Int)+(c2:Int))=((0:Nat):Int):=by rw [g3];rfl
     have et:(t:Int) - 1=((t - 1:Nat):Int):=by omega
     obtain ⟨f1,f2,f3⟩:=c4N (P:=P) (V:=a0i v) hNl2 hNw2 (z:=0) (by decide) (by rw [e1K,e1z];exact g2.symm);have J1:=J _ f1 f2 f3;rw [g1] at J1;refine exI ?_;refine d9l w1 3800 (by kernel_rfl) ?_;refine gwI (ff5 wjn kN e0v htop3 wfin) ?_;rw [hstop3,b4w,et];refine d9l w1 3900 (by kernel_rfl) ?_;refine gwI (ff3 kN e0v hzq') ?_;rw [b0r];refine d9l w1 1500 (by kernel_rfl) ?_;refine nwI wi' ?_;exact ⟨(j,A++((N2++[0])++Z),q.set j (t - 1),_),⟨by dsimp only;omega,J1⟩,by dsimp only;omega,wkI⟩
   ·have e29:decide ((p2:Int) - (c:Int)<0)=false:=d9U (by omega)
    obtain ⟨g1,g2⟩:=c7X hI vPn h ht2;have ezc:(p2:Int) - (c:Int)=((p2 - c:Nat):Int):=by omega
    obtain ⟨f1,f2,f3⟩:=c4N hNl hNw (z:=p2 - c) (by omega) g2.symm;have J1:=J _ f1 f2 f3;rw [g1] at J1;refine OkS.seq ?_;refine sZ 2900 ?_;refine gwI (ff5 wjn kN e0v htop2 e29) ?_;refine ifI ?_;refine skI ?_;rw [ezc,b4w];refine d9l w1 3900 (by kernel_rfl) ?_;refine gwI (ff3 kN e0v hzq') ?_;rw [b0r];refine d9l w1 1500 (by kernel_rfl) ?_;refine nwI wi' ?_;exact ⟨(j,A++((N++[p2 - c])++Z),q.set j t,_),⟨by dsimp only;omega,J1⟩,by dsimp only;omega,wkI⟩
 ·have hk:k=0:=by
   have:¬ ((k:Int) - 1>=0):=by simpa using h20
   omega
  subst hk;obtain ⟨q1,q2⟩:=b9r f0 I vv;have wu:=I.wU;have wqq:=I.wq;have lu:=I.lU;have lqq:=I.lQ;have hlt:a0i u<RB^(m+2):=by
   have:=I.less
   rw [e1C] at this;have h:=a1t wv;rw [show v.length=m+2 from hvl] at h;omega
  have hta:=b7R hlt (by omega);have hll:=a1E hlt;rw [q2] at hll hta;have ed:a%b*f / f=a%b:=Nat.mul_div_cancel _ f0;have cd:=b0I (a%b*f) f f0 fl (by omega);rw [ed] at cd;clear I;refine exI ?_;refine OkS.weak ⟨[(8,.sl true 1 [a0t f]),(10,i64 ((m+2:Nat):Int)),(11,.sl false 1 (u.map a0t)),(12,.sl false 1 (q.map a0t))],[],_⟩ ⟨.drop (.drop .nil),⟨.refl _,.refl _,b4X lu,b4X lqq,trivial⟩,d9Z _⟩ ?_;have e5:List.take (m+2) (u.map a0t)=(u.take (m+2)).map a0t:=by
   rw [e3b]
  have eu2:(u.map a0t).length=la.length+1:=by rw [d9X];omega
  have ct:=a8F (u.take (m+2)) (wu.take _) (by rw [e0n];omega);rw [hta] at ct;refine OkS.seq ?_;refine d9n w1 4000 [0,1,2,3,4,5,6,7,8,9,10,11] [12] (by kernel_rfl) ?_;refine gwI (ff4 kN Nat.sub_zero (@e1C D) e5) ?_;refine a0r.same _ ct d9O ?_;have hf0:([a0t f]:List D)[0]? = some (a0t f):=rfl;refine gwI kN ?_;refine ixI kT hf0 ?_;refine gwI kN ?_;refine a0r.same _ cd d9O ?_;refine gwI kN ?_;refine sR 4100 ?_;refine a0j.same _ (a8F q wqq (by omega)) d9O ?_;refine stI ?_;refine rtI ?_;exact a0a (by rw [q1]) IsPure.out
theorem d5t (a b:Nat)(hb:b≠0)(ha:(a0s a).length<1000000)(hbl:(a0s b).length<1000000):a0b C0 109 [rD a,rD b] (.tup [rD (a / b),rD (a%b)]):=by
 rcases e0j a b with h|h
 ·exact b8o a b h ha hbl
 ·rcases hl:(a0s b).length with _|m
  ·have:=a1M b
   rw [hl] at this;simp at this;exact d9R this hb
  ·rcases m with _|m
   ·exact c3J a b h ha hl hb
   ·exact b8Q a b m h ha hl
abbrev rZ (z:Int):D:=.agg [boo (decide (z<0)),rD z.natAbs]
def sg (neg:Bool)(n:Nat):Int:=if neg then -(n:Int) else n
theorem c3f {n:Nat}:0<(a0s n).length↔n≠0:=by
 constructor
 ·rintro h rfl
  rw [a0K] at h;cases h
 ·intro h
  rw [a1C h,d9Y];exact Nat.succ_pos _
theorem b2B (n:Nat):decide (((((a0s n).map a0t).length:Nat):Int)>0)=decide (n≠0):=by
 have:=@c3f n
 rw [d9X];exact e0O.2 ⟨fun h=>this.1 (by omega),fun h=>by have:=this.2 h;omega⟩
theorem d6f (neg:Bool)(n:Nat):rZ (sg neg n)=.agg [boo (neg&&decide (n≠0)),rD n]:=by
 unfold rZ sg;cases neg
 ·simp only [e1O,if_false,e2r,e1d]
  rw [d9U (by omega)]
 ·simp only [if_true,e1J,e3f,e1d]
  congr 3
  exact e0O.2 (by omega)
theorem b5u (z:Int):sg (decide (z<0)) z.natAbs=z:=by
 unfold sg
 by_cases h:z<0
 ·rw [d9S h,d9P rfl];omega
 ·rw [d9U h,d9Q (by decide)];omega
theorem c0s (b:Bool)(n:Nat):a2v (.agg [boo b,.sl false 1 ((a0s n).map a0t)]):=.agg fun d hd=>by
 simp only [e0m,e0M,or_false] at hd;rcases hd with rfl|rfl
 ·exact .prim _
 ·exact a9F _
def b5G (z:Int):Prop:=(a0s z.natAbs).length<1000000
instance  (b:Bool)(n:Nat):IsPure (.agg [boo b,rD n]):=⟨c0s b n⟩
theorem b6w (a b:Nat)(fa:(a0s a).length<1000000)(fb:(a0s b).length<1000000):a0b C0 108 [rD a,rD b] (rD (Nat.gcd a b)):=by
 refine a0c.walk w1 d3x rfl fun F=>?_
 change OkS C0 F none F _ ⟨a1y 0 [.sl false 1 ((a0s a).map a0t),.sl false 1 ((a0s b).map a0t)],[],0⟩ _;refine sR 0 ?_;refine OkS.seq ?_;refine OkS.block ?_;refine OkS.loop (α:=Nat × Nat × Nat) (fun p=>⟨[(0,.sl false 1 ((a0s p.1).map a0t)),(1,.sl false 1 ((a0s p.2.1).map a0t))],[],p.2.2⟩) (fun p=>p.2.1)
  (fun p=>Nat.gcd p.1 p.2.1=Nat.gcd a b/\(a0s p.1).length<1000000/\(a0s p.2.1).length<1000000) (a,b,_) ⟨rfl,fa,fb⟩ wkI ?_
 rintro ⟨x,y,n⟩ F ⟨h1,h2,h3⟩;dsimp only at h1 h2 h3 ⊢;have et:=b2B y;refine OkS.seq ?_;refine sZ 100 ?_;refine nwI et ?_
 by_cases hy:y=0
 ·rw [d9U (by simpa using hy)]
  subst hy;refine ifI ?_;refine exI ?_;refine sR 400 ?_;refine rtI ?_;refine a0a (d0:=rD x) ?_ IsPure.out;rw [<- h1,Nat.gcd_zero_right]
 ·rw [d9S hy]
  have cd:=d5t x y hy h2 h3;refine ifI ?_;refine skI ?_;refine OkS.block ?_;refine sR 200 ?_;refine cI cd ?_;refine rI 300 ?_;refine ⟨(y,x%y,_),⟨?_,h3,?_⟩,e0L x (by omega),wkI⟩
  ·dsimp only
   rw [<- h1,e3g x y,Nat.gcd_rec y x,e3g]
  ·exact e0I (a0F _ _ (Nat.mod_le x y)) h2
theorem b6x (neg:Bool)(l:List Nat)(h:Rd l)(hl:l.length<1000000000):a0b C0 111 [boo neg,rL l] (rZ (sg neg (a0i l))):=by
 refine a0c.walk w1 c4l rfl fun F=>?_
 rw [d6f];have ct:=a8F l h (by omega);generalize a0i l=n at *;have et:=b2B n;unfold rD at ct ⊢;unfold rL at ct ⊢;refine sR 0 ?_;refine sR 100 ?_;refine cI ct ?_;refine OkS.seq ?_;cases neg
 ·refine d9l w1 200 (by kernel_rfl) ?_
  refine gwI et ?_;refine rtI ?_;exact a0a (by simp) (c0s _ n)
 ·refine d9l w1 200 (by kernel_rfl) ?_
  refine gwI et ?_;refine rtI ?_;exact a0a (by simp) (c0s _ n)
theorem a4r (neg:Bool)(n:Nat)(h:(a0s n).length<1000000000):a0b C0 111 [boo neg,rD n] (rZ (sg neg n)):=by
 have:=b6x neg (a0s n) (a0D n) h
 rwa [a0u] at this
theorem c1y (z:Int)(h:b5G z):a0b C0 107 [rZ z] (rZ (-z)):=by
 have cs:=a4r (!decide (z<0)) z.natAbs (e2i h (by decide));have e:rZ (sg (!decide (z<0)) z.natAbs)=rZ (-z):=by
  congr 1
  unfold sg
  by_cases hz:z<0
  ·rw [d9S hz];simp;omega
  ·rw [d9U hz];simp;omega
 rw [e] at cs;refine a0c.walk w1 d3r rfl fun F=>?_
 refine sR 0 ?_;refine sR 100 ?_;refine cI cs ?_;refine rtI ?_;exact a0a rfl IsPure.out
theorem a8J (x y:Int)(hx:b5G x)(hy:b5G y):a0b C0 49 [rZ x,rZ y] (rZ (x*y)):=by
 have cm:=c6R x.natAbs y.natAbs hx hy;have hl:(a0s (x.natAbs*y.natAbs)).length<1000000000:=e0I (a6h _ _) (by unfold b5G at hx hy;omega);have cs:=fun b=>a4r b (x.natAbs*y.natAbs) hl
 have e:sg (decide (x<0) != decide (y<0)) (x.natAbs*y.natAbs)=x*y:=by
  conv=>rhs;rw [<- b5u x,<- b5u y]
  generalize decide (x<0)=a;generalize decide (y<0)=b;unfold sg;cases a<;>cases b<;>simp [Int.neg_mul,Int.mul_neg]
 rw [<- e];refine a0c.walk w1 d5x rfl fun F=>?_
 refine sR 0 ?_;refine OkS.seq ?_;refine d9n w1 100 [0,1,2,3,4,5,6,7,8,9] [10,11] (by kernel_rfl) ?_;refine gwI kN ?_;refine a0r.same _ cm d9O ?_;refine gwI kN ?_;refine a0j.same _ (cs _) d9O ?_;refine stI ?_;refine rtI ?_;exact a0a rfl IsPure.out
theorem c3P {a b:Nat}(h:b<=a):decide (a6W (a:Int) (b:Int)>=0)=true:=d9S (by unfold a6W;split<;>(try split)<;>omega)
theorem c3V {a b:Nat}(h:a<b):decide (a6W (a:Int) (b:Int)>=0)=false:=d9U (by unfold a6W;split<;>(try split)<;>omega)
theorem d0e (x y:Int)(hx:b5G x)(hy:b5G y):a0b C0 48 [rZ x,rZ y] (rZ (x+y)):=by
 refine a0c.walk w1 d5D rfl fun F=>?_
 unfold b5G at hx hy;cases hs:(decide (x<0)==decide (y<0))
 ·have hs':decide (x<0)≠decide (y<0):=by simpa using hs
  have hs2:(x<0/\¬ y<0)\/(¬ x<0/\y<0):=by
   by_cases h1:x<0<;>by_cases h2:y<0<;>simp_all
  have cc:=c2g x.natAbs y.natAbs (by omega) (by omega);refine sR 0 ?_;refine OkS.seq ?_;refine sZ 100 ?_;refine nwI hs ?_;refine ifI ?_;refine skI ?_;refine OkS.seq ?_;refine sR 300 ?_;refine cI cc ?_;rcases e0j x.natAbs y.natAbs with h|h
  ·have cb:=d1K y.natAbs x.natAbs (e3i h) hy
   have cs:=a4r (decide (y<0)) (y.natAbs - x.natAbs) (e0I (a9M _ _) (by omega));have e:sg (decide (y<0)) (y.natAbs - x.natAbs)=x+y:=by
    unfold sg
    by_cases hy0:y<0
    ·rw [d9S hy0,d9P rfl];omega
    ·rw [d9U hy0,d9Q (by decide)];omega
   rw [e] at cs;rw [c3V h];refine ifI ?_;refine skI ?_;refine OkS.seq ?_;refine d9n w1 500 [0,1,2,3,4,5,6] [7,8] (by kernel_rfl) ?_;refine gwI kN ?_;refine a0r.same _ cb d9O ?_;refine gwI kN ?_;refine a0j.same _ cs d9O ?_;refine stI ?_;refine rtI ?_;exact a0a rfl IsPure.out
  ·have cb:=d1K x.natAbs y.natAbs h hx
   have cs:=a4r (decide (x<0)) (x.natAbs - y.natAbs) (e0I (a9M _ _) (by omega));have e:sg (decide (x<0)) (x.natAbs - y.natAbs)=x+y:=by
    unfold sg
    by_cases hx0:x<0
    ·rw [d9S hx0,d9P rfl];omega
    ·rw [d9U hx0,d9Q (by decide)];omega
   rw [e] at cs;rw [c3P h];refine ifI ?_;refine OkS.seq ?_;refine d9n w1 400 [0,1,2,3,4,5,6] [7,8] (by kernel_rfl) ?_;refine gwI kN ?_;refine a0r.same _ cb d9O ?_;refine gwI kN ?_;refine a0j.same _ cs d9O ?_;refine stI ?_;refine rtI ?_;exact a0a rfl IsPure.out
 ·have hs':decide (x<0)=decide (y<0):=by simpa using hs
  have ca:=d5q x.natAbs y.natAbs hx hy;have cs:=a4r (decide (x<0)) (x.natAbs+y.natAbs) (e0I (a9e _ _) (by omega));have e:sg (decide (x<0)) (x.natAbs+y.natAbs)=x+y:=by
   unfold sg
   by_cases hx0:x<0
   ·have hy0:y<0:=e0p (hs'.symm.trans (d9S hx0))
    rw [d9S hx0,d9P rfl];omega
   ·have hy0:¬ y<0:=e0i (hs'.symm.trans (d9U hx0))
    rw [d9U hx0,d9Q (by decide)];omega
  rw [e] at cs;refine sR 0 ?_;refine OkS.seq ?_;refine sZ 100 ?_;refine nwI hs ?_;refine ifI ?_;refine OkS.seq ?_;refine d9n w1 200 [0,1,2,3,4,5,6] [7,8] (by kernel_rfl) ?_;refine gwI kN ?_;refine a0r.same _ ca d9O ?_;refine gwI kN ?_;refine a0j.same _ cs d9O ?_;refine stI ?_;refine rtI ?_;exact a0a rfl IsPure.out
theorem b4r (k m:Nat):a2x (k+1) m []=a2x k (m / 10) []++[UInt8.ofNat (48+m%10)]:=by
 rw [<- a9g (k+1) m [] (.inr (Nat.succ_pos k))];unfold a2x c6w
 by_cases h:m / 10=0
 ·rw [d9P h,d9P h];simp
 ·rw [d9Q h,d9Q h]
  rw [e0W,e0x,e1u,Nat.add_sub_add_right,e1o]
theorem b4n:∀ (k hi d:Nat),hi≠0->d<10^k->Lib.decDigits (hi*10^k+d)=Lib.decDigits hi++a2x k d []
 | 0,hi,d,_,hd=>by
  have h0:d=0:=by simpa using hd
  subst h0;rw [e3z,e1W,e1z];simp [a2x,c6w]
 | k+1,hi,d,hh,hd=>by
  have e1:hi*10^(k+1)=10*(hi*10^k):=by rw [e0J,<- e0D,e0t]
  have h1:1<=10^k:=Nat.pow_pos (by decide);have h2:1<=hi*10^k:=e2G (e0T hh) h1;have h3:¬ hi*10^(k+1)+d<10:=by omega
  have h4:d / 10<10^k:=by rw [e0J] at hd;omega
  rw [b4r,<- e1o,<- b4n k hi (d / 10) hh h4];rw [Lib.decDigits,dif_neg h3,e1]
  congr 2
  ·omega
  ·congr 1;omega
theorem d1O (hi d:Nat)(h:hi≠0)(hd:d<RB):Lib.decDigits (d+RB*hi)=Lib.decDigits hi++a2x 9 d []:=by
 have:=b4n 9 hi d h (e0E hd (by decide))
 rw [<- this]
 congr 1
 rw [e0t,e3h]
theorem a8V {l:List Nat}(h:Rd l):(Lib.decDigits (a0i l)).length<=9*l.length+1:=by
 have h1:=a1t h;have e:RB^l.length=10^(9*l.length):=by rw [Nat.pow_mul]
 rw [e] at h1;refine a2c _ _ (e2i h1 ?_);exact Nat.pow_lt_pow_right (by decide) (e2p _)
theorem b8h (neg:Bool)(n:Nat)(h:neg=true->n≠0):Lib.itoa (sg neg n)=if neg then 45::Lib.decDigits n else Lib.decDigits n:=by
 unfold Lib.itoa sg;cases neg
 ·simp only [e1O,if_false]
  rw [d9Q (by omega)];rfl
 ·have:=h rfl
  simp only [if_true];rw [d9P (by omega),e3f];rfl
theorem c9W (neg:Bool)(n:Nat)(h:neg=true->n≠0)(hl:(a0s n).length<1000000):a0b C0 110 [.agg [boo neg,rD n]] (str (sb (Lib.itoa (sg neg n)))):=by
 refine a0c.walk w1 d0n rfl fun F=>?_
 rw [b8h neg n h];change OkS C0 F none F _ ⟨a1y 0 [.agg [boo neg,.sl false 1 ((a0s n).map a0t)]],[],0⟩ _;have vn:=a0u n;have wn:=a0D n;have tp:=fun k a=>a4w n (k:=k) (a:=a)
 generalize a0s n=l at *;subst vn;rcases hc:l.length with _|m
 ·have e0:l=[]:=e0R hc
  subst e0;have hn:neg=false:=by cases neg;rfl;exact d9R rfl (h rfl)
  subst hn;have e1:Lib.decDigits (a0i [])=[48]:=by unfold Lib.decDigits a0i;rw [dif_pos (by decide)];rfl
  rw [d9Q (by decide),e1];refine sR 0 ?_;refine OkS.seq ?_;refine sR 100 ?_;refine ifI ?_;refine sR 200 ?_;refine rtI ?_;exact a0a rfl IsPure.out
 ·obtain ⟨y,hy⟩:=a3v (l:=l) (i:=m) (by omega)
  have yl:=wn y (d9V hy);have y0:=tp m y hc hy;have hy':=a7J hy;have el:(((l.map a0t).length:Nat):Int)=((m+1:Nat):Int):=by rw [d9X,hc]
  have et:(((m+1:Nat):Int)==0)=false:=e0g.2 (by omega);have w0:IntKind.i64.wrap (((m+1:Nat):Int) - 1)=(m:Int):=by rw [wI (by omega) (by omega)];omega
  have w2:IntKind.i64.wrap (((m+1:Nat):Int) - 2)=(m:Int) - 1:=by rw [wI (by omega) (by omega)];omega
  have cd:=a5J y 1 (by unfold RB at yl;omega);rw [c0o] at cd;have wr0:IntKind.i64.wrap ((((l.map a0t).length:Nat):Int) - 1)=(m:Int):=by rw [el,w0]
  have ed:l.drop m=[y]:=by
   rw [e0P (by omega),e1p (by omega)];rw [d9W (by omega)] at hy;rw [e2e hy]
  refine sR 0 ?_;refine OkS.seq ?_;refine sZ 100 ?_;refine nwI (ff2 el et) ?_;refine ifI ?_;refine skI ?_;refine sZ 300 ?_;refine gwI (ff4 el w0 wr0 kN) ?_;refine ixI kT hy' ?_;refine gwI kN ?_;refine a0j.same _ cd d9O ?_;refine stI ?_;have ev:a0i (l.drop m)=y:=by rw [ed];simp [a0i]
  refine OkS.seq ?_;refine sZ 400 ?_;refine nwI (ff2 el w2) ?_;refine OkS.block ?_;refine OkS.loop (α:=Nat × Nat) (fun p=>⟨[(1,.optr 0 0 2 0 0),(3,str (sb (Lib.decDigits (a0i (l.drop p.1))))),(4,i64 ((p.1:Int) - 1))],[⟨0,0,105,2,[.agg [boo neg,.sl false 1 (l.map a0t)]]⟩],p.2⟩) (fun p=>p.1)
   (fun p=>p.1<=m/\a0i (l.drop p.1)≠0) (m,_) ⟨d9Z _,by dsimp only;rw [ev];exact y0⟩ (by dsimp only;rw [ev];exact wkI) ?_
  rintro ⟨k,n1⟩ F ⟨h1,h2⟩;dsimp only at h1 h2 ⊢;clear cd;refine OkS.seq ?_;refine sR 500 ?_;refine ifI ?_
  (refine brI (fun h20=>?_) (fun h20=>?_))<;>(try simp only [e0a,e0c] at h20)<;>(try simp only [h20])
  ·obtain ⟨j,rfl⟩:∃ j,k=j+1:=⟨k - 1,by
    have:(k:Int) - 1>=0:=by simpa using h20
    omega⟩
   have wj:((j+1:Nat):Int) - 1=(j:Int):=by omega
   obtain ⟨d,hd⟩:=a3v (l:=l) (i:=j) (by omega);have hd':=a7J hd;have dl:=wn d (d9V hd);have c9:=a5J d 9 (by unfold RB at dl;omega);have eD:Lib.decDigits (a0i (l.drop (j+1)))++a2x 9 d []=Lib.decDigits (a0i (l.drop j)):=by rw [a5G hd,d1O _ _ h2 dl]
   have hlen:=a8V (l:=l.drop j) fun a ha=>wn a (e2m ha)
   rw [<- eD,e0x,e1a] at hlen;have h3:a0i (l.drop j)≠0:=by
    rw [a5G hd]
    have:0<RB*a0i (l.drop (j+1)):=e2G (by decide) (e0T h2)
    omega
   have z1:=a0x (Lib.decDigits (a0i (l.drop (j+1))));have z2:=a9K (a2x 9 d []);have wi:IntKind.i64.wrap ((j:Int) - 1)=(j:Int) - 1:=wI (by omega) (by omega);rw [wj];refine skI ?_;refine OkS.seq ?_;refine OkS.block ?_;refine d9l w1 700 (by kernel_rfl) ?_;refine gwI kN ?_;refine ixI kT hd' ?_;refine gwI kN ?_;refine a0j.same _ c9 d9O ?_;refine stI ?_;rw [a4S,eD];refine d9l w1 600 (by kernel_rfl) ?_;refine nwI wi ?_;exact ⟨(j,_),⟨by dsimp only;omega,h3⟩,by dsimp only;omega,wkI⟩
  ·have hk:k=0:=by
    have:¬ ((k:Int) - 1>=0):=by simpa using h20
    omega
   subst hk;rw [e1C] at h2 ⊢;have hlen:=a8V wn;have z1:=a0x (Lib.decDigits (a0i l));have z2:(⟨#[45]⟩:ByteArray).size=1:=rfl;refine exI ?_;refine OkS.seq ?_;refine OkS.seq ?_;cases neg
   ·refine rI 800 ?_
    refine ifI ?_;refine skI ?_;rw [d9Q (by decide)];refine sR 1000 ?_;refine rtI ?_;exact a0a rfl IsPure.out
   ·refine rI 800 ?_
    refine ifI ?_;rw [d9P rfl];refine sR 900 ?_;refine rtI ?_;refine a0a ?_ IsPure.out;show str ((⟨([45]:List UInt8).toArray⟩:ByteArray)++⟨(Lib.decDigits (a0i l)).toArray⟩)=_;rw [a4S];rfl
theorem c5x (z:Int)(h:b5G z):a0b C0 110 [rZ z] (str (sb (Lib.itoa z))):=by
 have:=c9W (decide (z<0)) z.natAbs (fun h=>by have:=e0p h;omega) h
 rwa [b5u] at this
theorem d9D {C:Ctx}{f:Nat}{ds ds':List D}{Φ:D->Prop}{H:Hp}{n:Nat}(Hf:Hp)(hc:a0c C f ds' Φ)(hH:FzH H Hf H Hf)(hv:FzL H Hf ds ds')
  (hp:ArePure ds'):a0A C f ds H n (fun d' H' n'=>Φ d'/\H'=Hf/\n'=n+1):=by
 refine ⟨hc.1,fun F ρ w vs m hfr hg hvs hr=>?_⟩;obtain ⟨m',hO,hN⟩:=hH.mem m;obtain ⟨l1,l2⟩:=hv.spec;refine (hc.2 (Own F.X ρ Hf) w vs m.g (e0A m.gn m.size) (fun b hb=>m'.own_lt hb) (by omega) fun i x hx=>?_).mono ?_
 ·have hi:i<ds'.length:=(List.getElem?_eq_some_iff.1 hx).1
  have hd0:ds[i]? = some ds[i]:=d9W (by omega);exact hp.out x (d9V hx) _ _ _ _ _ ((l2 i _ x hd0 hx).rep m hO hN (hr i _ hd0))
 ·rintro e w' ⟨v,d',rfl,hb,hd',rep⟩
  have hb2:∀ (b:Nat) (cs:Array Value) (T:Nat) (fz:Nat × Nat),w.heap[b]? = some (.cells cs T fz)->∃ (cs':Array Value) (fz':Nat × Nat),w'.heap[b]? = some (.cells cs' T fz')/\cs'.size=cs.size:=fun b cs T fz hh=>⟨cs,_,by
   rw [hb.block b (Array.getElem?_eq_some_iff.1 hh).1];exact hh,rfl⟩
  have x:Ext ρ (Own F.X ρ H) w ρ (Own F.X ρ Hf) w':=⟨hb.size,fun _ _ _ h=>h,fun b hb' hO2=>⟨fun h=>hO2 (hO b h),hb.block b hb'⟩,hb2⟩
  have x':Ext ρ (Own F.X ρ Hf) w ρ (Own F.X ρ Hf) w':=⟨hb.size,fun _ _ _ h=>h,fun b hb' hO2=>⟨hO2,hb.block b hb'⟩,hb2⟩
  refine ⟨v,_,Hf,n+1,ρ,rfl,⟨hd',rfl,rfl⟩,m'.same x' hb.os hb.tape hb.output hb.block,x,fun k g hg'=>hfr k g (by omega),fun e he=>?_,rep.mono ⟨d9Z _,fun _ _ _ h=>(by cases h),fun b _ hO2=>⟨hO2,rfl⟩,fun b cs T fz h=>⟨cs,_,h,rfl⟩⟩⟩;obtain ⟨e',h1,h2,h3,_⟩:=hH.names e he
  have:=hg e' h1
  omega
theorem b6S {l : List UInt8} {i : Nat} {c : UInt8} (hc : l[i]? = some c) (hi : i <= a0f l) : (((c.toNat : Nat) : Int) == 47) = decide (i = a0f l) := by
  have e1 : (((c.toNat : Nat) : Int) == 47) = (c == 47) := by
    rw [e1D, e1L, e1L, <- UInt8.toNat_inj]
    exact ⟨fun h => by have : c.toNat = 47 := by omega
                       exact this, fun h => by rw [h]; rfl⟩
  rw [e1]
  unfold a0f at hi ⊢
  clear e1
  induction l generalizing i with
  | nil => cases hc
  | cons a l ih =>
    rw [e3d] at hi ⊢
    cases i with
    | zero =>
      cases hc
      by_cases h : c = 47
      · subst h; rfl
      · have h1 : (c != 47) = true := by simpa using h
        have h2 : (c == 47) = false := by simpa using h
        rw [d9P h1, h2, d9Y, d9U (by omega)]
    | succ i =>
      by_cases h : a = 47
      · subst h
        exact d9R hi (by simp)
      · have h1 : (a != 47) = true := by simpa using h
        rw [d9P h1, d9Y] at hi ⊢
        rw [ih hc (by omega)]
        exact e0O.2 (by omega)
theorem b1B (l:List UInt8)(h:l.all a0C=true)(hl:l.length<=18):a0b C0 102 [str (sb l)] (i64 (dv l:Int)):=by
 refine a0c.walk w1 d3C rfl fun F=>?_
 have hsz:=a0x l;refine sR 0 ?_;refine sR 100 ?_;refine OkS.seq ?_;refine sR 200 ?_;refine OkS.block ?_;refine OkS.loop (α:=Nat × Nat) (fun p=>⟨[(0,str (sb l)),(3,i64 (dv (l.take p.1):Int)),(4,i64 (p.1:Int))],[],p.2⟩) (fun p=>l.length - p.1) (fun p=>p.1<=l.length) (0,_) (e0y _) wkI ?_;rintro ⟨i,n⟩ F hi;dsimp only at hi ⊢;refine OkS.seq ?_;refine sZ 300 ?_;refine nwI hsz ?_;refine ifI ?_
 (refine brI (fun hlt=>?_) (fun hlt=>?_))<;>(try simp only [e0a,e0c] at hlt)<;>(try simp only [hlt])
 ·have hi2:i<l.length:=by
   have:=e0p hlt
   omega
  obtain ⟨c,hc⟩:∃ c,l[i]? = some c:=⟨l[i],d9W hi2⟩
  have hcd:a0C c=true:=e0B.1 h c (d9V hc);obtain ⟨c1,c2⟩:=a2J hcd;have hg:(sb l).data.toList.getD i 0=c:=by
   show (l.toArray.toList).getD i 0=c;simp [hc]
  have hdl:dv (l.take i)<10^17:=by
   have:=a6a (l.take i) (e0B.2 fun a ha=>e0B.1 h a (e2t ha))
   rw [e0n,e1P hi] at this;exact e0E this (e1l (by decide) (by omega))
  have hnx:dv (l.take (i+1))=dv (l.take i)*10+(c.toNat - 48):=by
   rw [e1F,hc];show dv (l.take i++[c])=_;rw [a5m];simp [dv,dvF]
  have k1:IntKind.i64.wrap (10*(dv (l.take i):Int))=((10*dv (l.take i):Nat):Int):=by rw [wI (by omega) (by omega)];omega
  have k2:IntKind.i64.wrap ((c.toNat:Nat):Int)=((c.toNat:Nat):Int):=wI (by omega) (by omega);have k3:IntKind.i64.wrap (((10*dv (l.take i):Nat):Int)+((c.toNat:Nat):Int))=((10*dv (l.take i)+c.toNat:Nat):Int):=by rw [wI (by omega) (by omega)];omega
  have k4:IntKind.i64.wrap (((10*dv (l.take i)+c.toNat:Nat):Int) - 48)=((dv (l.take (i+1)):Nat):Int):=by rw [hnx,wI (by omega) (by omega)];omega
  have wi:IntKind.i64.wrap ((i:Int)+1)=((i+1:Nat):Int):=wI (by omega) (by omega);refine skI ?_;refine OkS.seq ?_;refine OkS.block ?_;refine d9l w1 500 (by kernel_rfl) ?_;refine nwI (ff6 kN hg k1 k2 k3 k4) ?_;refine d9l w1 400 (by kernel_rfl) ?_;refine nwI wi ?_;exact ⟨(i+1,_),hi2,by dsimp only;omega,wkI⟩
 ·have hi2:i=l.length:=by
   have:=e0i hlt
   omega
  subst hi2;rw [e0k (d9Z _)];refine exI ?_;refine sR 600 ?_;refine rtI ?_;exact a0a rfl IsPure.out
theorem b5n (l:List UInt8)(hl:l.length<=1000000000):a0b C0 101 [str (sb l)] (i64 (a0f l:Int)):=by
 refine a0c.walk w1 c9R rfl fun F=>?_
 have hsz:=a0x l;refine sR 0 ?_;refine OkS.seq ?_;refine sR 100 ?_;refine OkS.block ?_;refine OkS.loop (α:=Nat × Nat) (fun p=>⟨[(0,str (sb l)),(3,i64 (p.1:Int))],[],p.2⟩) (fun p=>l.length - p.1) (fun p=>p.1<=a0f l) (0,_) (e0y _) wkI ?_;rintro ⟨i,n⟩ F hi;dsimp only at hi ⊢;have hsl:=a2K l;refine OkS.seq ?_;refine sZ 200 ?_;refine nwI hsz ?_;refine ifI ?_
 (refine brI (fun hlt=>?_) (fun hlt=>?_))<;>(try simp only [e0a,e0c] at hlt)<;>(try simp only [hlt])
 ·have hi2:i<l.length:=by
   have:=e0p hlt
   omega
  obtain ⟨c,hc⟩:∃ c,l[i]? = some c:=⟨l[i],d9W hi2⟩
  have hg:(sb l).data.toList.getD i 0=c:=by
   show (l.toArray.toList).getD i 0=c;simp [hc]
  have wi:IntKind.i64.wrap ((i:Int)+1)=((i+1:Nat):Int):=wI (by omega) (by omega);have ht:(((c.toNat:Nat):Int)==47)=decide (i=a0f l):=b6S hc hi;refine skI ?_;refine OkS.seq ?_;refine OkS.block ?_;refine sZ 400 ?_;refine nwI (ff3 kN hg ht) ?_
  by_cases he:i=a0f l
  ·rw [d9S he]
   refine ifI ?_;refine sR 500 ?_;refine rtI ?_;exact a0a (by rw [he]) IsPure.out
  ·rw [d9U he]
   refine ifI ?_;refine skI ?_;refine d9l w1 300 (by kernel_rfl) ?_;refine nwI wi ?_;exact ⟨(i+1,_),by dsimp only;omega,by dsimp only;omega,wkI⟩
 ·have hi2:i=l.length:=by
   have:=e0i hlt
   omega
  refine exI ?_;refine sZ 600 ?_;refine nwI hsz ?_;refine rtI ?_;exact a0a (by congr 3;omega) IsPure.out
theorem b5S {H Hf:Hp}{K g T:Nat}{l:List Nat}{N:Nat}(hl:l.length=N)(he:Hp.get H K=some ⟨K,g,T,1,l.map a0t⟩:=by exact rfl)(hn:Hp.get Hf K=none:=by exact rfl):Fz H Hf (.osl K g 1 0 N) (.sl false 1 (l.map a0t)):=by
 subst hl;have key:∀ (j:Nat) (d d':D),(l.map a0t)[0+j]? = some d->(l.map a0t)[j]? = some d'->d=d':=fun j d d' h1 h2=>by
  rw [e0v] at h1;rw [h1] at h2;exact e2e h2
 refine .osl (e:=⟨K,g,T,1,l.map a0t⟩) he hn rfl rfl (by simp) (by simp) (fun j d d' h1 h2=>by rw [key j d d' h1 h2]) fun j d d' q c c' h1 h2 h3 h4=>?_
 rw [key j d d' h1 h2] at h3;rw [h3] at h4;cases h4;exact Fz.refl _
theorem a8i (c : UInt8) (l : List UInt8) : (((c.toNat : Nat) : Int) == 45) = a2g (c :: l) := by
  show _ = (c == 45)
  rw [e1D, e1L, e1L, <- UInt8.toNat_inj]
  exact ⟨fun h => by have : c.toNat = 45 := by omega
                     exact this, fun h => by rw [h]; rfl⟩
abbrev b7j:Ent:=⟨0,0,105,2,[.agg [boo false,a1R]]⟩
theorem c8X {x:List UInt8}(h:9<x.length):dv x=dv (x.take (x.length - 9))*RB+dv (x.drop (x.length - 9)):=by
 conv=>lhs;rw [<- e1j (x.length - 9) x,a5m,e1a,show x.length - (x.length - 9)=9 by omega]
theorem d0C (A B t n v:Nat):(A*B+t)*B^n+v=A*B^(n+1)+(v+B^n*t):=by
 rw [e0H,e0D,e0J,e0t B,e0t t];omega
theorem b1a {x x0:List UInt8}{w:List Nat}(h9:9<x.length)(g1:x.all a0C=true)(g2:x.length+w.length*9=x0.length)(g3:Rd w)(g4:dv x0=dv x*RB^w.length+a0i w) :
  (x.take (x.length - 9)).all a0C=true/\(x.take (x.length - 9)).length+(w++[dv (x.drop (x.length - 9))]).length*9=x0.length/\Rd (w++[dv (x.drop (x.length - 9))]) /\
  dv x0=dv (x.take (x.length - 9))*RB^(w++[dv (x.drop (x.length - 9))]).length+a0i (w++[dv (x.drop (x.length - 9))]):=by
 refine ⟨e0B.2 fun a ha=>e0B.1 g1 a (e2t ha),?_,Rd.append g3 fun a ha=>?_,?_⟩
 ·rw [e0n,e0x,e1u];omega
 ·simp only [e0m,e0M,or_false] at ha
  subst ha
  have:=a6a (x.drop (x.length - 9)) (e0B.2 fun a ha=>e0B.1 g1 a (e2m ha))
  rwa [e1a,show x.length - (x.length - 9)=9 by omega] at this
 ·rw [g4,c8X h9,a0W rfl,e0x,e1u]
  exact d0C _ _ _ _ _
theorem b9x {x x0:List UInt8}{w:List Nat}(h9:x.length<=9)(g1:x.all a0C=true)(g3:Rd w)(g4:dv x0=dv x*RB^w.length+a0i w):Rd (w++[dv x])/\a0i (w++[dv x])=dv x0:=by
 refine ⟨Rd.append g3 fun a ha=>?_,?_⟩
 ·simp only [e0m,e0M,or_false] at ha
  subst ha;exact e0E (a6a x g1) (e1l (by decide) h9)
 ·rw [g4,a0W rfl,e0t,e3h]
theorem b9B {w:List Nat}{a:Nat}:List.take w.length (w.map a0t)++[i64 (a:Int)]=(w++[a]).map a0t:=by
 rw [e0k (by rw [d9X];exact d9Z _),e1w];rfl
theorem b8d (l:List UInt8)(hd:(a0n l).all a0C=true)(hl:l.length<=1000000):a0b C0 106 [str (sb l)] (rZ (rv l)):=by
 have er:rv l=sg (a2g l) (dv (a0n l)):=rfl;rw [er];refine a0c.walk w1 d2z rfl fun F=>?_
 have hsz:=a0x l;have hdl:(a0n l).length<=l.length:=by
  unfold a0n;split
  ·rw [e1a];omega
  ·exact d9Z _
 refine sR 0 ?_;refine d9A (α:=Nat) (fun n=>⟨[(0,str (sb l)),(2,.optr 0 0 2 0 0),(3,boo (a2g l))],[b7j],n⟩) (fun _=>True) ?_ ?_
 ·cases l with
  | nil =>
   have e0:(sb []).size=0:=rfl;have e1:decide (((0:Nat):Int)>0)=false:=rfl;refine d9l w1 100 (by kernel_rfl) ?_;refine gwI (ff2 e0 e1) ?_;refine gwI (ff2 kF e1) ?_;exact ⟨trivial,_,trivial,wkI⟩
  | cons c l =>
   have hpos:(sb (c::l)).size=l.length+1:=hsz;have e0:decide (((sb (c::l)).size:Int)>0)=true:=d9S (by omega);have e1:((((c::l).getD (Int.toNat 0) 0).toNat:Int)==45)=a2g (c::l):=a8i c l;refine d9l w1 100 (by kernel_rfl) ?_;refine gwI e0 ?_;refine gwI (ff3 kT e0 e1) ?_;exact ⟨trivial,_,trivial,wkI⟩
 rintro n0 -;refine d9A (α:=Nat) (fun n=>⟨[(0,str (sb (a0n l))),(2,.optr 0 0 2 0 0),(3,boo (a2g l))],[b7j],n⟩) (fun _=>True) ?_ ?_
 ·refine sR 200 ?_
  cases hb:a2g l
  ·have ed:a0n l=l:=by unfold a0n;rw [hb];rfl
   rw [ed];refine ifI ?_;refine skI ?_;exact ⟨rfl,_,trivial,wkI⟩
  ·have ed:a0n l=l.drop 1:=by unfold a0n;rw [hb];rfl
   have hl0:1<=l.length:=by
    cases l with
    | nil=>cases hb
    | cons c l=>rw [d9Y];omega
   have ee:(sb l).extract (Int.toNat 1) l.length=sb (a0n l):=by
    rw [a2r,e0k (d9Z _),ed];rfl
   refine ifI ?_;refine d9l w1 300 (by kernel_rfl) ?_;refine gwI (ff2 hsz kN) ?_;rw [ee];exact ⟨trivial,_,trivial,wkI⟩
 rintro n1 -;generalize a2g l=neg at *;generalize a0n l=x0 at *;clear er hsz;have hx0:x0.length<=1000000:=e0A hdl hl;clear hdl hl l;refine sR 400 ?_;refine OkS.seq ?_;refine OkS.block ?_;refine OkS.loop (α:=Bool × List UInt8 × List Nat × Nat × Nat) (fun p=>match p with
  | (false,x,_,_,n)=>⟨[(0,str (sb x)),(2,.optr 0 0 2 0 0),(3,boo neg),(4,a1R)],[b7j],n⟩
  | (true,x,w,g,n)=>⟨[(0,str (sb x)),(2,.optr 0 0 2 0 0),(3,boo neg),(4,.osl 608 g 1 0 w.length)],[⟨608,g,3,1,w.map a0t⟩,b7j],n⟩) (fun p=>p.2.1.length)
  (fun p=>p.2.1.all a0C=true/\p.2.1.length+p.2.2.1.length*9=x0.length/\Rd p.2.2.1/\dv x0=dv p.2.1*RB^p.2.2.1.length+a0i p.2.2.1/\(p.1=false->p.2.2.1=[]))
  (false,x0,[],0,_) ⟨hd,rfl,(fun a ha=>by cases ha),by simp [a0i],fun _=>rfl⟩ wkI ?_
 rintro ⟨t,x,w,g,n2⟩ F ⟨g1,g2,g3,g4,g5⟩;dsimp only at g1 g2 g3 g4 g5;have hsz:=a0x x
 by_cases h9:9<x.length
 ·have ht:decide ((x.length:Int)>9)=true:=d9S (by omega)
  have cv:=b1B (x.drop (x.length - 9)) (e0B.2 fun a ha=>e0B.1 g1 a (e2m ha)) (by rw [e1a];omega);have wk:IntKind.i64.wrap ((x.length:Int) - 9)=((x.length - 9:Nat):Int):=by rw [wI (by omega) (by omega)];omega
  have wr:IntKind.i64.wrap (((sb x).size:Int) - 9)=((x.length - 9:Nat):Int):=by rw [hsz,wk]
  have e1:(sb x).extract (x.length - 9) x.length=sb (x.drop (x.length - 9)):=by rw [a2r,e0k (d9Z _)]
  have e2:(sb x).extract 0 (x.length - 9)=sb (x.take (x.length - 9)):=by rw [a2r,e1C]
  cases t
  ·dsimp only
   obtain rfl:=g5 rfl;refine OkS.seq ?_;refine sZ 500 ?_;refine nwI (ff2 hsz ht) ?_;refine ifI ?_;refine skI ?_;refine OkS.block ?_;refine sZ 600 ?_;refine gwI (ff5 hsz wk wr kN e1) ?_;refine a0j.same _ cv d9O ?_;refine stI ?_;have J:=b1a h9 g1 g2 g3 g4;rw [e1h] at J;refine d9l w1 700 (by kernel_rfl) ?_;refine gwI (ff4 hsz wk wr kN) ?_;refine gwI e2 ?_;exact ⟨(true,x.take (x.length - 9),[dv (x.drop (x.length - 9))],n2+11,_),⟨J.1,J.2.1,J.2.2.1,J.2.2.2,fun h=>by cases h⟩,by dsimp only;rw [e0n];omega,wkI⟩
  ·dsimp only
   clear g5;have J:=b1a h9 g1 g2 g3 g4;have ew:(w.map a0t).length=w.length:=d9X _;have el:w.length+1=(w++[dv (x.drop (x.length - 9))]).length:=by rw [e0x];rfl
   refine OkS.seq ?_;refine sZ 500 ?_;refine nwI (ff2 hsz ht) ?_;refine ifI ?_;refine skI ?_;refine OkS.block ?_;refine sZ 600 ?_;refine gwI (ff5 hsz wk wr kN e1) ?_;refine a0j.same _ cv d9O ?_;refine stI ?_;rw [b9B,el];refine d9l w1 700 (by kernel_rfl) ?_;refine gwI (ff4 hsz wk wr kN) ?_;refine gwI e2 ?_;exact ⟨(true,x.take (x.length - 9),w++[dv (x.drop (x.length - 9))],n2+11,_),⟨J.1,J.2.1,J.2.2.1,J.2.2.2,fun h=>by cases h⟩,by dsimp only;rw [e0n];omega,wkI⟩
 ·have ht:decide ((x.length:Int)>9)=false:=d9U (by omega)
  have cv:=b1B x g1 (by omega);obtain ⟨r1,r2⟩:=b9x (by omega) g1 g3 g4;have cs:=b6x neg (w++[dv x]) r1 (by rw [e0x,e1u];omega);rw [r2] at cs;cases t
  ·dsimp only
   obtain rfl:=g5 rfl;refine OkS.seq ?_;refine sZ 500 ?_;refine nwI (ff2 hsz ht) ?_;refine ifI ?_;refine exI ?_;refine sR 800 ?_;refine a0j.same _ cv d9O ?_;refine stI ?_;refine a0j.own _ (d9D [b7j] cs (.drop (.keep .nil)) ⟨.refl _,b5S rfl,trivial⟩ d9O) ?_;rintro d H' n' ⟨rfl,rfl,rfl⟩;refine stI ?_;refine rtI ?_;exact a0a rfl IsPure.out
  ·dsimp only
   clear g5;have ew:(w.map a0t).length=w.length:=d9X _;have el:w.length+1=(w++[dv x]).length:=by rw [e0x];rfl
   refine OkS.seq ?_;refine sZ 500 ?_;refine nwI (ff2 hsz ht) ?_;refine ifI ?_;refine exI ?_;refine sR 800 ?_;refine a0j.same _ cv d9O ?_;refine stI ?_;rw [b9B,el];refine a0j.own _ (d9D [b7j] cs (.drop (.keep .nil)) ⟨.refl _,b5S rfl,trivial⟩ d9O) ?_;rintro d H' n' ⟨rfl,rfl,rfl⟩;refine stI ?_;refine rtI ?_;exact a0a rfl IsPure.out
def isO (o:Option D):Bool:=match o with
 | some (.agg [.prim (.bool false),.sl false 1 [.prim (.int .i64 1)]])=>true
 | _=>false
theorem c2w {o:Option D}(h:isO o=true):o=some (rZ 1):=by
 have h1:a0s 1=[1]:=a4j (by decide) (by decide);unfold isO at h;split at h
 ·show _=some (D.agg [boo (decide ((1:Int)<0)),rL (a0s 1)])
  rw [h1];rfl
 ·cases h
theorem b7H:isO ((evF X1 1000 60).1 103 [i64 1])=true:=by kernel_rfl
theorem b8S:a0b C0 103 [i64 1] (rZ 1):=d9H a4H 1000 60 (c2w b7H)
def c9a (l:List UInt8):Int:=rv (a2u l)
def d1u (l:List UInt8):Int:=if a4J l then rv (a1I l) else 1
instance  (x y:Int):IsPure (.tup [rZ x,rZ y]):=⟨.tup fun d hd=>by
 simp only [e0m,e0M,or_false] at hd;rcases hd with rfl|rfl
 ·exact IsPure.out
 ·exact IsPure.out⟩
theorem b0a (l:List UInt8)(hn:(a0n (a2u l)).all a0C=true)(hd:(a0n (a1I l)).all a0C=true)(hl:l.length<=1000000):a0b C0 46 [str (sb l)] (.tup [rZ (c9a l),rZ (d1u l)]):=by
 refine a0c.walk w1 d4A rfl fun F=>?_
 have hsz:=a0x l;have cs:=b5n l (by omega);have hsl:=a2K l;have c1:=b8d (a2u l) hn (by unfold a2u;rw [e0n];omega);have c2:=b8d (a1I l) hd (by unfold a1I;rw [e1a];omega);have cw:=b8S;unfold c9a d1u;refine sR 0 ?_;refine sR 100 ?_;refine sR 200 ?_;refine cI cs ?_;cases hh:a4J l
 ·have he:a0f l=l.length:=by
   unfold a4J at hh
   have:=e0i hh
   omega
  have e0:(((a0f l:Nat):Int)==(l.length:Int))=true:=e1L.2 (by omega);have en:a2u l=l:=by unfold a2u;rw [he,e0k (d9Z _)]
  rw [en] at c1 ⊢;refine OkS.seq ?_;refine sZ 300 ?_;refine nwI (ff2 hsz e0) ?_;refine ifI ?_;refine sR 400 ?_;refine cI c1 ?_;refine a0j.same _ cw d9O ?_;refine stI ?_;refine rtI ?_;exact a0a rfl IsPure.out
 ·have he:a0f l<l.length:=e0p hh
  have e0:(((a0f l:Nat):Int)==(l.length:Int))=false:=e0g.2 (by omega);have x1:(sb l).extract 0 (a0f l)=sb (a2u l):=by rw [a2r,e1C];rfl
  have x2:(sb l).extract (a0f l+1) l.length=sb (a1I l):=by rw [a2r,e0k (d9Z _)];rfl
  have wk:IntKind.i64.wrap (((a0f l:Nat):Int)+1)=((a0f l+1:Nat):Int):=wI (by omega) (by omega);refine OkS.seq ?_;refine sZ 300 ?_;refine nwI (ff2 hsz e0) ?_;refine ifI ?_;refine skI ?_;refine OkS.seq ?_;refine d9n w1 500 [0,1,2,3,4,5,6,7] [8,9,10] (by kernel_rfl) ?_;refine gwI (ff5 hsz wk kN x1 x2) ?_;refine a0r.same _ c1 d9O ?_;refine gwI (ff5 hsz wk kN x1 x2) ?_;refine a0j.same _ c2 d9O ?_;refine stI ?_;refine rtI ?_;exact a0a rfl IsPure.out
def txt (r:Rat):List UInt8:=if r.den=1 then Lib.itoa r.num else Lib.itoa r.num++47::Lib.decDigits r.den
def qZ (x y:Int):Rat:=mkRat (if y<0 then -x else x) y.natAbs
theorem b1D {x:Int}{d:Nat}(hd:d≠0):(mkRat x d).num=sg (decide (x<0)) (x.natAbs / Nat.gcd x.natAbs d)/\(mkRat x d).den=d / Nat.gcd x.natAbs d:=by
 rw [mkRat,dif_neg hd,Rat.normalize_eq];refine ⟨?_,rfl⟩;dsimp only;have hg:0<Nat.gcd x.natAbs d:=e2c _ (e0T hd);obtain ⟨p,hp⟩:=Nat.gcd_dvd_left x.natAbs d;have e1:x.natAbs / Nat.gcd x.natAbs d=p:=by
  refine Nat.div_eq_of_eq_mul_right hg hp
 have e2:x=(Nat.gcd x.natAbs d:Int)*sg (decide (x<0)) p:=by
  have h0:(x.natAbs:Int)=(Nat.gcd x.natAbs d:Int)*(p:Int):=by rw [<- e1t,<- hp]
  unfold sg
  by_cases hx:x<0
  ·rw [d9S hx,d9P rfl,Int.mul_neg,<- h0];omega
  ·rw [d9U hx,d9Q (by decide),<- h0];omega
 rw [e1]
 conv=>lhs;arg 1;rw [e2]
 rw [Int.mul_ediv_cancel_left _ (by omega)]
theorem b6e (q:Nat):((((((a0s q).map a0t).length:Nat):Int)==1)=true/\∃ a,(a0s q)[0]? = some a/\(((a:Nat):Int)==1)=decide (q=1))\/((((((a0s q).map a0t).length:Nat):Int)==1)=false/\q≠1):=by
 rw [d9X]
 by_cases h:(a0s q).length=1
 ·refine .inl ⟨e1L.2 (by omega),?_⟩
  obtain ⟨a,ha⟩:=a3v (l:=a0s q) (i:=0) (by omega);refine ⟨a,ha,?_⟩;have e:a0s q=[a]:=by
   obtain ⟨b,hb⟩:=List.length_eq_one_iff.1 h;rw [hb] at ha ⊢;cases ha;rfl
  have e2:q=a:=by rw [<- a0u q,e];simp [a0i]
  rw [e2];rw [e1D,e1L,decide_eq_true_iff];omega
 ·refine .inr ⟨e0g.2 (by omega),fun hq=>h ?_⟩
  rw [hq,a4j (by decide) (by decide)];rfl
theorem b0G (x y:Int)(hy0:y≠0)(hx:b5G x)(hy:b5G y):a0b C0 47 [rZ x,rZ y] (str (sb (txt (qZ x y)))):=by
 refine a0c.walk w1 d4G rfl fun F=>?_
 unfold qZ;refine sR 0 ?_;refine d9A (α:=Nat) (fun n=>⟨[(2,.optr 0 0 2 0 0),(3,.optr 1 1 2 0 0)],[⟨1,1,105,2,[.agg [boo false,rD y.natAbs]]⟩,⟨0,0,105,2,[rZ (if y<0 then -x else x)]⟩],n⟩) (fun _=>True) ?_ ?_
 ·by_cases h:y<0
  ·have cx:=c1y x hx
   have cy:=c1y y hy;have e1:rZ (-y)=.agg [boo false,rD y.natAbs]:=by
    show D.agg [boo (decide (-y<0)),rD (-y).natAbs]=_;rw [d9U (by omega),e3f]
   rw [e1] at cy;rw [d9P h];refine sZ 100 ?_;refine nwI (d9S h) ?_;refine ifI ?_;refine d9n w1 200 [0,1,2] [3,4,5] (by kernel_rfl) ?_;refine gwI kN ?_;refine a0r.same _ cx d9O ?_;refine gwI kN ?_;refine a0j.same _ cy d9O ?_;refine stI ?_;exact ⟨trivial,_,trivial,wkI⟩
  ·have e1:rZ y=.agg [boo false,rD y.natAbs]:=by
    show D.agg [boo (decide (y<0)),rD y.natAbs]=_;rw [d9U h]
   rw [d9Q h];refine sZ 100 ?_;refine nwI (d9U h) ?_;refine ifI ?_;refine skI ?_;refine ⟨rfl,5,trivial,?_⟩;rw [<- e1];exact wkI
 rintro n0 -;obtain ⟨z,hz⟩:∃ z,z=(if y<0 then -x else x):=⟨_,rfl⟩
 have hza:z.natAbs=x.natAbs:=by rw [hz];split<;>omega
 obtain ⟨d,hd⟩:∃ d,d=y.natAbs:=⟨_,rfl⟩
 have hd0:d≠0:=by omega
 unfold b5G at hx hy;rw [<- hza] at hx;rw [<- hd] at hy;rw [<- hz,<- hd];clear hz hza hd hy0;clear x y;have cg:=b6w z.natAbs d hx hy;obtain ⟨qn,qd⟩:=b1D (x:=z) hd0;have hg:0<Nat.gcd z.natAbs d:=e2c _ (e0T hd0);have hgl:(a0s (Nat.gcd z.natAbs d)).length<1000000:=e0I (a0F _ _ (e3t _ (e0T hd0))) hy;have c4:=d5t z.natAbs (Nat.gcd z.natAbs d) (by omega) hx hgl;have c5:a0b C0 109 [rD d,rD (Nat.gcd z.natAbs d)] (.tup [.sl false 1 ((a0s (d / Nat.gcd z.natAbs d)).map a0t),rD (d%Nat.gcd z.natAbs d)]):=d5t d (Nat.gcd z.natAbs d) (by omega) hy hgl;have hpl:(a0s (z.natAbs / Nat.gcd z.natAbs d)).length<1000000:=e0I (a0F _ _ (e1H _ _)) hx;have hql:(a0s (d / Nat.gcd z.natAbs d)).length<1000000:=e0I (a0F _ _ (e1H _ _)) hy;have etx:txt (mkRat z d)=if d / Nat.gcd z.natAbs d=1 then Lib.itoa (sg (decide (z<0)) (z.natAbs / Nat.gcd z.natAbs d)) else Lib.itoa (sg (decide (z<0)) (z.natAbs / Nat.gcd z.natAbs d))++47::Lib.decDigits (d / Nat.gcd z.natAbs d):=by
  unfold txt;rw [qn,qd]
 rw [etx];clear etx qn qd hg hgl;generalize z.natAbs / Nat.gcd z.natAbs d=p at *;generalize d / Nat.gcd z.natAbs d=q at *;generalize z.natAbs%Nat.gcd z.natAbs d=r1 at *;generalize d%Nat.gcd z.natAbs d=r2 at *;generalize Nat.gcd z.natAbs d=gg at *;have c6:=a4r (decide (z<0)) p (by omega);have hab:(sg (decide (z<0)) p).natAbs=p:=by unfold sg;split<;>omega
 have c7:=c5x (sg (decide (z<0)) p) (by unfold b5G;rw [hab];exact hpl);have c8:=a4r false q (by omega);have c9:=c5x (sg false q) (by unfold b5G;show (a0s q).length<1000000;exact hql);have e9:Lib.itoa (sg false q)=Lib.decDigits q:=by rw [b8h false q (by simp)];rfl
 rw [e9] at c9;have l1:=a8V (a0D p);rw [a0u] at l1;have l2:=a8V (a0D q);rw [a0u] at l2;have l3:(Lib.itoa (sg (decide (z<0)) p)).length<=(Lib.decDigits p).length+1:=by
  unfold Lib.itoa;split
  ·rw [hab,d9Y];exact d9Z _
  ·rw [show (sg (decide (z<0)) p).toNat=p by omega];omega
 generalize sg (decide (z<0)) p=pz at *;have s1:=a0x (Lib.itoa pz);have s2:=a0x (Lib.decDigits q);have s3:(⟨#[47]⟩:ByteArray).size=1:=rfl;have s4:(sb (Lib.itoa pz)++(⟨#[47]⟩:ByteArray)).size=(sb (Lib.itoa pz)).size+(⟨#[47]⟩:ByteArray).size:=ByteArray.size_append;generalize Lib.itoa pz=t1 at *;generalize Lib.decDigits q=t2 at *;refine sR 300 ?_;refine cI cg ?_;refine sR 400 ?_;refine cI c4 ?_;refine sR 500 ?_;refine cI c5 ?_;refine sR 600 ?_;refine cI c6 ?_;refine cI c7 ?_;have ht:=b6e q;rcases ht with ⟨h1,a,ha,h2⟩|⟨h1,h2⟩
 ·have ha':=a7J ha
  refine OkS.seq ?_;refine sZ 700 ?_;refine gwI h1 ?_;refine ixI kT ha' ?_;refine gwI (ff2 h1 h2) ?_
  by_cases hq:q=1
  ·rw [d9S hq,d9P hq]
   refine ifI ?_;refine sR 800 ?_;refine rtI ?_;exact a0a rfl IsPure.out
  ·rw [d9U hq,d9Q hq]
   refine ifI ?_;refine skI ?_;refine sR 900 ?_;refine a0j.same _ c8 d9O ?_;refine stI ?_;refine a0j.same _ c9 d9O ?_;refine stI ?_;refine rtI ?_;refine a0a ?_ IsPure.out;show str ((⟨t1.toArray⟩++⟨([47]:List UInt8).toArray⟩:ByteArray)++⟨t2.toArray⟩)=_;rw [a4S,a4S,e1o];rfl
 ·rw [d9Q h2]
  refine OkS.seq ?_;refine sZ 700 ?_;refine nwI h1 ?_;refine gwI kF ?_;refine ifI ?_;refine skI ?_;refine sR 900 ?_;refine a0j.same _ c8 d9O ?_;refine stI ?_;refine a0j.same _ c9 d9O ?_;refine stI ?_;refine rtI ?_;refine a0a ?_ IsPure.out;show str ((⟨t1.toArray⟩++⟨([47]:List UInt8).toArray⟩:ByteArray)++⟨t2.toArray⟩)=_;rw [a4S,a4S,e1o];rfl
set_option maxHeartbeats 2000000
theorem a8j (k:Nat)(h:k<10):(UInt8.ofNat (48+k)).toNat=48+k:=by
 rw [UInt8.toNat_ofNat'];omega
theorem a1D:∀ n:Nat,(Lib.decDigits n).all a0C=true/\dv (Lib.decDigits n)=n/\(Lib.decDigits n)≠[]:=fun n=>by
 induction n using Nat.strongRecOn with
 | _ n ih =>
  have one:∀ k,k<10->a0C (UInt8.ofNat (48+k))=true:=fun k hk=>by
   unfold a0C;rw [a8j k hk,e0f];exact ⟨Nat.ble_eq_true_of_le (by omega),Nat.ble_eq_true_of_le (by omega)⟩
  have vone:∀ k,k<10->dv [UInt8.ofNat (48+k)]=k:=fun k hk=>by
   show 0*10+((UInt8.ofNat (48+k)).toNat - 48)=k;rw [a8j k hk];omega
  rw [Lib.decDigits];split
  ·rename_i h
   exact ⟨by rw [e1I,one n h];rfl,vone n h,by simp⟩
  ·rename_i h
   obtain ⟨h1,h2,h3⟩:=ih (n / 10) (by omega);refine ⟨by rw [e2F,h1,e1I,one _ (e0L _ (by decide))];rfl,?_,by simp⟩;rw [a5m,h2,vone _ (e0L _ (by decide)),e1u];omega
theorem c2l {n:Nat}(h:n≠0):∃ c l,Lib.decDigits n=c::l/\c≠48:=by
 induction n using Nat.strongRecOn with
 | _ n ih =>
  rw [Lib.decDigits];split
  ·rename_i h1
   refine ⟨_,_,rfl,fun hh=>?_⟩
   have:=congrArg UInt8.toNat hh
   rw [a8j n h1] at this
   have:48+n=48:=this
   omega
  ·rename_i h1
   obtain ⟨c,l,e,hc⟩:=ih (n / 10) (by omega) (by omega);rw [e];exact ⟨c,l++_,rfl,hc⟩
theorem d1o {c:UInt8}(h:a0C c=true):c≠47/\c≠45:=by
 obtain ⟨h1,h2⟩:=a2J h;exact ⟨fun hh=>by subst hh;simp at h1,fun hh=>by subst hh;simp at h1⟩
theorem a6J (z:Int):a2g (Lib.itoa z)=decide (z<0)/\a0n (Lib.itoa z)=Lib.decDigits z.natAbs:=by
 unfold Lib.itoa
 by_cases h:z<0
 ·rw [d9P h,d9S h]
  exact ⟨rfl,rfl⟩
 ·rw [d9Q h,d9U h,show z.toNat=z.natAbs by omega]
  have h1:=a7l (a1D z.natAbs).1;exact ⟨h1,a2a (a1D z.natAbs).1⟩
theorem b9h (z:Int):rv (Lib.itoa z)=z:=by
 unfold rv;rw [(a6J z).1,(a6J z).2,(a1D z.natAbs).2.1]
 by_cases h:z<0
 ·rw [d9S h,d9P rfl];omega
 ·rw [d9U h,d9Q (by decide)];omega
theorem a7E (z:Int):∀ c∈Lib.itoa z,(c != 47)=true:=fun c hc=>by
 have hd:∀ n,∀ c∈Lib.decDigits n,(c != 47)=true:=fun n c h=>by
  have:=(d1o (e0B.1 (a1D n).1 c h)).1
  simpa using this
 unfold Lib.itoa at hc;split at hc
 ·rcases e0m.1 hc with rfl|h
  ·rfl
  ·exact hd _ c h
 ·exact hd _ c hc
theorem a4n {p:UInt8->Bool}:∀ {l:List UInt8} (m:List UInt8),(∀ c∈l,p c=true)->(l++m).takeWhile p=l++m.takeWhile p
 | [],_,_=>rfl
 | a::l,m,h=>by
  rw [e1v,e3d,d9P (h a e1x),a4n m fun c hc=>h c (e0X _ hc)];rfl
theorem a5d (r:Rat):a0f (txt r)=(Lib.itoa r.num).length:=by
 unfold a0f txt;split
 ·have:=a4n (p:=(· != 47)) [] (a7E r.num)
  rw [e0W] at this;rw [this];simp
 ·rw [a4n (p:=(· != 47)) _ (a7E r.num)]
  simp
theorem a9W (r:Rat):a2u (txt r)=Lib.itoa r.num:=by
 unfold a2u;rw [a5d];unfold txt;split
 ·exact e0k (d9Z _)
 ·exact List.take_left' rfl
theorem a7y (r:Rat):a1I (txt r)=if r.den=1 then [] else Lib.decDigits r.den:=by
 unfold a1I;rw [a5d];unfold txt;split
 ·exact e1p (Nat.le_succ _)
 ·rw [List.drop_append]
  rw [e1p (Nat.le_succ _),e1X];rfl
theorem b1A (r:Rat):a4J (txt r) = !decide (r.den=1):=by
 unfold a4J;rw [a5d];unfold txt
 by_cases h:r.den=1
 ·rw [d9P h,d9S h,d9U (by omega)];rfl
 ·rw [d9Q h,d9U h,e0x,d9Y,d9S (by omega)];rfl
theorem b1p (r:Rat):c9a (txt r)=r.num:=by unfold c9a;rw [a9W,b9h]
theorem b5O (r:Rat):d1u (txt r)=r.den:=by
 unfold d1u;rw [b1A,a7y]
 by_cases h:r.den=1
 ·rw [d9S h,h];rfl
 ·rw [d9U h,d9Q h,d9P (show (!false)=true from rfl),b0L (a1D _).1,(a1D _).2.1]
theorem a8d (r:Rat):(a0n (a2u (txt r))).all a0C=true:=by rw [a9W,(a6J _).2];exact (a1D _).1
theorem a8l (r:Rat):(a0n (a1I (txt r))).all a0C=true:=by
 rw [a7y];split
 ·rfl
 ·rw [a2a (a1D _).1];exact (a1D _).1
theorem b8y (z:Int):Lib.itoa z≠[]:=by
 unfold Lib.itoa;split
 ·simp
 ·exact (a1D _).2.2
theorem c5J (r:Rat):txt r≠[]:=by
 unfold txt;split
 ·exact b8y _
 ·simp
theorem b1M (r:Rat):a2g (txt r)=decide (r.num<0):=by
 rw [<- (a6J r.num).1];unfold txt;split
 ·rfl
 ·have:=b8y r.num
  cases h:Lib.itoa r.num with
  | nil=>exact d9R h this
  | cons c l=>rfl
theorem b5K (r:Rat):decide (txt r=[48])=decide (r.num=0):=by
 refine e0O.2 ⟨fun h=>?_,fun h=>?_⟩
 ·have h1:=b1p r
  rw [h] at h1;rw [<- h1];decide
 ·have:r.den=1:=by
   have:=r.reduced
   rw [h] at this;simpa using this
  unfold txt;rw [d9P this,h];show Lib.decDigits 0=[48];rw [Lib.decDigits,dif_pos (by decide)];rfl
abbrev rR (r:Rat):D:=str (sb (txt r))
def c2W (r:Rat):Prop:=(txt r).length<=1000000
theorem b8Y (r:Rat)(hl:c2W r):a0b C0 121 [rR r] (i64 (a8Y r)):=by
 refine a0c.walk w1 c9F rfl fun F=>?_
 have hsz:=a0x (txt r);unfold c2W at hl;have ez:=a5N (txt r) [48];rw [b5K] at ez;have en:=b1M r;refine sR 0 ?_;refine OkS.seq ?_;refine OkS.seq ?_;have ez2:a1z (sb (txt r)) ⟨#[48]⟩=decide (r.num=0):=ez;have hne:=c5J r;refine d9l w1 100 (by kernel_rfl) ?_;refine nwI ez2 ?_
 by_cases h0:r.num=0
 ·rw [d9S h0]
  refine ifI ?_;refine sR 200 ?_;refine rtI ?_;exact a0a (by unfold a8Y;rw [h0];rfl) IsPure.out
 ·rw [d9U h0]
  have hpos:0<(txt r).length:=List.length_pos_iff.2 hne;have e0:decide (((sb (txt r)).size:Int)>0)=true:=d9S (by omega);have e1:((((txt r).getD (Int.toNat 0) 0).toNat:Int)==45)=decide (r.num<0):=by
   rw [<- en];cases ht:txt r with
   | nil=>exact d9R ht hne
   | cons c l=>exact a8i c l
  refine ifI ?_;refine skI ?_;refine OkS.seq ?_;refine sZ 300 ?_;refine gwI e0 ?_;refine gwI (ff3 kT e0 e1) ?_
  by_cases hn:r.num<0
  ·rw [d9S hn]
   refine ifI ?_;refine sR 400 ?_;refine rtI ?_;exact a0a (by unfold a8Y;congr 3;omega) IsPure.out
  ·rw [d9U hn]
   refine ifI ?_;refine skI ?_;refine sR 500 ?_;refine rtI ?_;exact a0a (by unfold a8Y;congr 3;omega) IsPure.out
theorem b1W {r:Rat}(h:r.num<0):(txt r).drop 1=txt (-r)/\(txt (-r)).length+1=(txt r).length:=by
 have e:Lib.itoa r.num=45::Lib.itoa (-r.num):=by
  unfold Lib.itoa;rw [d9P h,d9Q (by omega),show (-r.num).toNat=r.num.natAbs by omega]
 have e2:txt r=45::txt (-r):=by
  unfold txt;rw [Rat.neg_den,Rat.neg_num,e];split<;>rfl
 rw [e2];exact ⟨rfl,rfl⟩
theorem c3R {r:Rat}(h:0<r.num):txt (-r)=45::txt r:=by
 obtain ⟨h1,h2⟩:=b1W (r:=-r) (by rw [Rat.neg_num];omega);rw [Rat.neg_neg] at h1;have h3:=b1M (-r);rw [d9S (by rw [Rat.neg_num];omega)] at h3;cases ht:txt (-r) with
 | nil=>rw [ht] at h3;cases h3
 | cons c l =>
  rw [ht] at h1 h3
  have:c=45:=by simpa [a2g] using h3
  rw [this,<- h1];rfl
theorem c6P (r:Rat):decide (a8Y r<0)=decide (r.num<0):=e0O.2 (by unfold a8Y;omega)
theorem c7F (r:Rat):(a8Y r==0)=decide (r.num=0):=by
 rw [e1D,e1L,decide_eq_true_iff];unfold a8Y;omega
theorem d5C (r:Rat)(hl:c2W r):a0b C0 187 [rR r] (rR (-r)):=by
 refine a0c.walk w1 d0K rfl fun F=>?_
 have hsz:=a0x (txt r);have cs:=b8Y r hl;unfold c2W at hl;have e1:=c6P r;have e2:=c7F r;refine sR 0 ?_;refine OkS.seq ?_;refine sR 100 ?_;refine cI cs ?_;rw [e1]
 by_cases h:r.num<0
 ·obtain ⟨t1,t2⟩:=b1W h
  have ee:(sb (txt r)).extract (Int.toNat 1) (txt r).length=sb (txt (-r)):=by
   rw [a2r,e0k (d9Z _),<- t1];rfl
  rw [d9S h];refine ifI ?_;refine sZ 200 ?_;refine gwI (ff2 hsz kN) ?_;rw [ee];refine rtI ?_;exact a0a rfl IsPure.out
 ·rw [d9U h]
  refine ifI ?_;refine skI ?_;refine OkS.seq ?_;refine sR 300 ?_;refine cI cs ?_;rw [e2]
  by_cases h0:r.num=0
  ·rw [d9S h0]
   refine ifI ?_;refine sR 400 ?_;refine rtI ?_;refine a0a ?_ IsPure.out
   have:r=0:=Rat.num_eq_zero.1 h0
   rw [this];rfl
  ·have tp:=c3R (r:=r) (by omega)
   have z3:(⟨#[45]⟩:ByteArray).size=1:=rfl;rw [d9U h0];refine ifI ?_;refine skI ?_;refine sR 500 ?_;refine rtI ?_;refine a0a ?_ IsPure.out;show str ((⟨([45]:List UInt8).toArray⟩:ByteArray)++⟨(txt r).toArray⟩)=str (sb (txt (-r)));rw [a4S,tp];rfl
def a5P (r:Rat):Rat:=if r.num<0 then -r else r
theorem a8p (r:Rat):(a5P r).num=r.num.natAbs/\(a5P r).den=r.den:=by
 unfold a5P;split
 ·rw [Rat.neg_num,Rat.neg_den];exact ⟨by omega,rfl⟩
 ·exact ⟨by omega,rfl⟩
def qk (r:Rat):Bool:=!decide (20<(txt r).length) && !(decide (9<a0f (txt (a5P r)))||decide (10<(txt (a5P r)).length - a0f (txt (a5P r))))
theorem c3n (r:Rat):(txt (a5P r)).length<=(txt r).length:=by
 unfold a5P;split
 ·rename_i h
  have:=(b1W h).2
  omega
 ·exact d9Z _
theorem a8C (r:Rat):Lib.itoa (a5P r).num=Lib.decDigits r.num.natAbs:=by
 rw [(a8p r).1];unfold Lib.itoa;rw [d9Q (by omega)];rfl
theorem a6w {r:Rat}(h:qk r=true):r.num.natAbs<10^9/\r.den<10^9:=by
 unfold qk at h;simp only [e0f,e0a,e2b,e2k] at h;obtain ⟨h1,h2,h3⟩:=h;have hs:=a5d (a5P r);rw [a8C] at hs;have hd:=a7y (a5P r);rw [(a8p r).2] at hd;have hdl:(a1I (txt (a5P r))).length=(txt (a5P r)).length - (a0f (txt (a5P r))+1):=by unfold a1I;rw [e1a]
 have d1:=a6a _ (a1D r.num.natAbs).1;have d2:=a6a _ (a1D r.den).1;rw [(a1D _).2.1] at d1 d2;refine ⟨e0E d1 (e1l (by decide) (by omega)),?_⟩
 by_cases h1:r.den=1
 ·rw [h1];decide
 ·rw [d9Q h1] at hd
  rw [hd] at hdl;exact e0E d2 (e1l (by decide) (by omega))
theorem b1H (r:Rat)(hl:c2W r):a0b C0 44 [rR r] (.tup [i64 (if qk r then r.num else 0),i64 (if qk r then (r.den:Int) else 0),boo (qk r)]):=by
 refine a0c.walk w1 d5R rfl fun F=>?_
 have hsz:=a0x (txt r);unfold c2W at hl;have hne:=c5J r;have hpos:0<(txt r).length:=List.length_pos_iff.2 hne;refine sR 0 ?_;refine sR 100 ?_;refine OkS.seq ?_;refine OkS.seq ?_
 by_cases h20:20<(txt r).length
 ·have e2:decide (((txt r).length:Int)>20)=true:=d9S (by omega)
  have eq:qk r=false:=by unfold qk;rw [d9S h20];rfl
  rw [eq];refine d9l w1 200 (by kernel_rfl) ?_;refine nwI (ff2 hsz e2) ?_;refine ifI ?_;refine sR 300 ?_;refine rtI ?_;exact a0a rfl IsPure.out
 ·have e2:decide (((txt r).length:Int)>20)=false:=d9U (by omega)
  have eq:qk r = !(decide (9<a0f (txt (a5P r)))||decide (10<(txt (a5P r)).length - a0f (txt (a5P r)))):=by unfold qk;rw [d9U h20];rfl
  have en:=b1M r;refine d9l w1 200 (by kernel_rfl) ?_;refine nwI (ff2 hsz e2) ?_;refine ifI ?_;refine skI ?_;refine d9A (α:=Nat) (fun n=>⟨[(5,rR r),(6,boo (decide (r.num<0)))],[],n⟩) (fun _=>True) ?_ ?_
  ·have e0:decide (((sb (txt r)).size:Int)>0)=true:=d9S (by omega)
   have e1:((((txt r).getD (Int.toNat 0) 0).toNat:Int)==45)=decide (r.num<0):=by
    rw [<- en];cases ht:txt r with
    | nil=>exact d9R ht hne
    | cons c l=>exact a8i c l
   refine d9l w1 400 (by kernel_rfl) ?_;refine gwI e0 ?_;refine gwI (ff3 kT e0 e1) ?_;exact ⟨trivial,_,trivial,wkI⟩
  rintro n0 -;refine d9A (α:=Nat) (fun n=>⟨[(5,rR (a5P r)),(6,boo (decide (r.num<0)))],[],n⟩) (fun _=>True) ?_ ?_
  ·refine sR 500 ?_
   by_cases h:r.num<0
   ·obtain ⟨t1,t2⟩:=b1W h
    have ea:a5P r = -r:=by unfold a5P;rw [d9P h]
    have ee:(sb (txt r)).extract (Int.toNat 1) (txt r).length=sb (txt (a5P r)):=by
     rw [ea,a2r,e0k (d9Z _),<- t1];rfl
    rw [d9S h];refine ifI ?_;refine d9l w1 600 (by kernel_rfl) ?_;refine gwI (ff2 hsz kN) ?_;rw [ee];exact ⟨trivial,_,trivial,wkI⟩
   ·have ea:a5P r=r:=by unfold a5P;rw [d9Q h]
    rw [d9U h,ea];refine ifI ?_;refine skI ?_;exact ⟨rfl,_,trivial,wkI⟩
  rintro n1 -;have hal:=c3n r;have hsa:=a5d (a5P r);rw [a8C] at hsa;have hn:=a9W (a5P r);rw [a8C] at hn;have hd:=a7y (a5P r);rw [(a8p r).2] at hd;have hh:=b1A (a5P r);rw [(a8p r).2] at hh;unfold a4J at hh;have hle:=a2K (txt (a5P r));have cs:=b5n (txt (a5P r)) (by omega);have hszA:=a0x (txt (a5P r));clear hsz hne hpos e2 en;generalize hT:txt (a5P r)=T at *;have eR:rR (a5P r)=str (sb T):=by rw [<- hT]
  rw [eR];clear hT eR;refine sR 700 ?_;refine cI cs ?_;have w8:IntKind.i64.wrap ((T.length:Int) - (a0f T:Int))=((T.length - a0f T:Nat):Int):=by rw [wI (by omega) (by omega)];omega
  have eb:decide (((T.length - a0f T:Nat):Int)>10)=decide (10<T.length - a0f T):=e0O.2 (by omega)
  by_cases h9:9<a0f T
  ·have e8:decide ((a0f T:Int)>9)=true:=d9S (by omega)
   rw [d9S h9] at eq;have eq2:qk r=false:=eq;rw [eq2];refine OkS.seq ?_;refine sZ 800 ?_;refine nwI e8 ?_;refine gwI kT ?_;refine ifI ?_;refine sR 900 ?_;refine rtI ?_;exact a0a rfl IsPure.out
  have e8:decide ((a0f T:Int)>9)=false:=d9U (by omega);rw [d9U h9] at eq
  by_cases h10:10<T.length - a0f T
  ·rw [d9S h10] at eq eb
   have eq2:qk r=false:=eq;rw [eq2];refine OkS.seq ?_;refine sZ 800 ?_;refine nwI e8 ?_;refine gwI (ff4 kF hszA w8 eb) ?_;refine ifI ?_;refine sR 900 ?_;refine rtI ?_;exact a0a rfl IsPure.out
  rw [d9U h10] at eq eb;have eq2:qk r=true:=eq;rw [eq2];refine OkS.seq ?_;refine sZ 800 ?_;refine nwI e8 ?_;refine gwI (ff4 kF hszA w8 eb) ?_;refine ifI ?_;refine skI ?_;have hd1:=a1D r.num.natAbs;have hd2:=a1D r.den;have c1:=b1B (Lib.decDigits r.num.natAbs) hd1.1 (by omega);rw [hd1.2.1] at c1;have e10:(sb T).extract 0 (a0f T)=sb (Lib.decDigits r.num.natAbs):=by
   rw [a2r,e1C,<- hn];rfl
  refine sZ 1000 ?_;refine gwI (ff2 hszA kN) ?_;refine gwI e10 ?_;refine a0j.same _ c1 d9O ?_;refine stI ?_;refine d9A (α:=Nat) (fun n=>⟨[(6,boo (decide (r.num<0))),(8,i64 (r.num.natAbs:Int)),(9,i64 (r.den:Int))],[],n⟩) (fun _=>True) ?_ ?_
  ·by_cases hden:r.den=1
   ·rw [d9S hden] at hh
    have e11:decide ((a0f T:Int)<(T.length:Int))=false:=d9U (by have:=e0i (p:=a0f T<T.length) hh;omega);rw [hden];refine sZ 1100 ?_;refine nwI (ff2 hszA e11) ?_;refine ifI ?_;refine skI ?_;exact ⟨rfl,_,trivial,wkI⟩
   ·rw [d9U hden] at hh
    rw [d9Q hden] at hd;have hlt:=e0p (p:=a0f T<T.length) hh;have e11:decide ((a0f T:Int)<(T.length:Int))=true:=d9S (by omega);have wk:IntKind.i64.wrap (((a0f T:Nat):Int)+1)=((a0f T+1:Nat):Int):=wI (by omega) (by omega);have e12:(sb T).extract (a0f T+1) T.length=sb (Lib.decDigits r.den):=by
     rw [a2r,e0k (d9Z _),<- hd];rfl
    have hdl:(Lib.decDigits r.den).length<=18:=by
     rw [<- hd];unfold a1I;rw [e1a];omega
    have c2:=b1B (Lib.decDigits r.den) hd2.1 hdl;rw [hd2.2.1] at c2;refine sZ 1100 ?_;refine nwI (ff2 hszA e11) ?_;refine ifI ?_;refine d9l w1 1200 (by kernel_rfl) ?_;refine gwI (ff3 hszA wk kN) ?_;refine gwI e12 ?_;refine a0j.same _ c2 d9O ?_;refine stI ?_;exact ⟨trivial,_,trivial,wkI⟩
  rintro n2 -;obtain ⟨b1,b2⟩:=a6w eq2;refine d9A (α:=Nat) (fun n=>⟨[(8,i64 r.num),(9,i64 (r.den:Int))],[],n⟩) (fun _=>True) ?_ ?_
  ·refine sR 1300 ?_
   by_cases h:r.num<0
   ·have wn:IntKind.i64.wrap (0 - (r.num.natAbs:Int))=r.num:=by rw [wI (by omega) (by omega)];omega
    rw [d9S h];refine ifI ?_;refine d9l w1 1400 (by kernel_rfl) ?_;refine nwI wn ?_;exact ⟨trivial,_,trivial,wkI⟩
   ·have en:(r.num.natAbs:Int)=r.num:=by omega
    rw [d9U h,en];refine ifI ?_;refine skI ?_;exact ⟨rfl,_,trivial,wkI⟩
  rintro n3 -;refine sR 1500 ?_;refine rtI ?_;exact a0a rfl IsPure.out
theorem b8O (b:Bool)(n:Nat):(sg b n).natAbs=n:=by unfold sg;split<;>omega
theorem d0c (z:Int)(d:Nat)(hz:z.natAbs<=4000000000000000000)(hd0:0<d)(hd:d<=4000000000000000000):a0b C0 45 [i64 z,i64 (d:Int)] (rR (mkRat z d)):=by
 refine a0c.walk w1 d6o rfl fun F=>?_
 have hg:0<Nat.gcd z.natAbs d:=e2c _ hd0;have hgl:Nat.gcd z.natAbs d<=d:=e3t _ hd0;obtain ⟨qn,qd⟩:=b1D (x:=z) (d:=d) (by omega);have etx:txt (mkRat z d)=if d / Nat.gcd z.natAbs d=1 then Lib.itoa (mkRat z d).num else Lib.itoa (mkRat z d).num++47::Lib.decDigits (d / Nat.gcd z.natAbs d):=by
  unfold txt;rw [qd]
 have q1:z.tdiv (Nat.gcd z.natAbs d:Nat)=(mkRat z d).num:=by
  rw [qn];obtain ⟨p,hp⟩:=Nat.gcd_dvd_left z.natAbs d;have e1:z.natAbs / Nat.gcd z.natAbs d=p:=Nat.div_eq_of_eq_mul_right hg hp;have e2:z=(Nat.gcd z.natAbs d:Int)*sg (decide (z<0)) p:=by
   have h0:(z.natAbs:Int)=(Nat.gcd z.natAbs d:Int)*(p:Int):=by rw [<- e1t,<- hp]
   unfold sg
   by_cases hx:z<0
   ·rw [d9S hx,d9P rfl,Int.mul_neg,<- h0];omega
   ·rw [d9U hx,d9Q (by decide),<- h0];omega
  rw [e1]
  conv=>lhs;arg 1;rw [e2]
  rw [Int.mul_tdiv_cancel_left _ (by omega)]
 have q2:(d:Int).tdiv (Nat.gcd z.natAbs d:Nat)=((d / Nat.gcd z.natAbs d:Nat):Int):=rfl;have q5:(mkRat z d).num.natAbs<=4000000000000000000:=by
  rw [qn];rw [b8O];exact e0A (e1H _ _) hz
 have q4:d / Nat.gcd z.natAbs d<=4000000000000000000:=e0A (e1H _ _) hd;have hx:0<d / Nat.gcd z.natAbs d:=Nat.div_pos hgl hg;have ert:rR (mkRat z d)=str (sb (if d / Nat.gcd z.natAbs d=1 then Lib.itoa (mkRat z d).num else Lib.itoa (mkRat z d).num++47::Lib.decDigits (d / Nat.gcd z.natAbs d))):=by rw [<- etx]
 rw [ert];clear etx ert qn qd;generalize (mkRat z d).num=pz at *;refine fR 0 ?_;refine d9y ⟨[(0,i64 z),(1,i64 d),(4,str ⟨#[]⟩)],[],50⟩ ?_ ?_
 ·refine OkS.seq ?_
  have l1:(decide (z < -4000000000000000000))=false:=by apply d9U;omega
  have l2:(decide (z>4000000000000000000))=false:=by apply d9U;omega
  have l3:(decide ((d:Int) < -4000000000000000000))=false:=by apply d9U;omega
  have l4:(decide ((d:Int)>4000000000000000000))=false:=by apply d9U;omega
  refine d9l w1 100 (by kernel_rfl) ?_
  repeat' (first|(refine And.intro (by exact sdI) ?_;(refine dsI ?_);(try simp only [b6U,c3Z,l1,l2,l3,l4]))|((refine brI (fun hb=>?_) (fun hb=>?_))<;>(try simp only [e0a,e0c] at hb)<;>(try simp only [hb])<;>(refine dsI ?_)))
  refine ifI ?_;refine skI ?_;exact And.intro (by trivial) (wkI)
 refine d9y ⟨[(0,i64 z),(1,i64 d),(4,str ⟨#[]⟩)],[],100⟩ ?_ ?_
 ·refine fR 300 ?_
  refine ifI ?_;have e27:(decide ((d:Int)<0))=false:=by simp
  rw [e27];refine skI ?_;exact And.intro (by trivial) (wkI)
 refine OkS.seq ?_;have m1:max z (IntKind.i64.wrap (0 - z))=(z.natAbs:Int):=by rw [wI (by omega) (by omega)];omega
 refine d9l w1 500 (by kernel_rfl) ?_;refine mwI m1 ?_;refine dI (c6N z.natAbs d (by omega) (by omega)) ?_;refine OkS.seq ?_;refine d9n w1 600 [0,1,2,3,4,5,6] [7] (by kernel_rfl) ?_;refine nxI ?_;have w1p:IntKind.i64.wrap pz=pz:=wI (by omega) (by omega);rw [q1,q2,w1p,wN (e0A q4 (by decide))];clear q1 q2 hg hgl;generalize d / Nat.gcd z.natAbs d=y at *;refine fR 700 ?_;have c1:=a5J pz.natAbs 1 (by omega);have c2:=a5J y 1 (by omega);rw [c0o] at c1 c2;have s1:=a2c 18 pz.natAbs (e0I q5 (by decide));have s2:=a2c 18 y (e0I q4 (by decide));have z1:=a9K (Lib.decDigits pz.natAbs);have z2:=a9K (Lib.decDigits y);have m1:max pz (IntKind.i64.wrap (0 - pz))=(pz.natAbs:Int):=by rw [wI (by omega) (by omega)];omega
 refine d9A (α:=Nat) (fun n=>⟨[(0,i64 pz),(1,i64 (y:Int)),(4,str ⟨#[]⟩),(6,str (sb (if pz<0 then [45] else [])))],[],n⟩) (fun _=>True) ?_ ?_
 ·refine fR 800 ?_
  by_cases h:pz<0
  ·rw [d9S h,d9P h]
   refine ifI ?_;refine fI 900 ?_;exact ⟨rfl,_,trivial,wkI⟩
  ·rw [d9U h,d9Q h]
   refine ifI ?_;refine skI ?_;exact ⟨rfl,_,trivial,wkI⟩
 rintro n0 -;have ei:(if pz<0 then [45] else [])++Lib.decDigits pz.natAbs=Lib.itoa pz:=by
  unfold Lib.itoa;split
  ·rfl
  ·rw [show pz.toNat=pz.natAbs by omega];rfl
 have z3:=a0x (if pz<0 then [45] else []);have z4:(if pz<0 then [45] else []:List UInt8).length<=1:=by split<;>simp
 have z5:(Lib.itoa pz).length<=20:=by rw [<- ei,e0x];omega
 refine sZ 1000 ?_;refine mwI m1 ?_;refine dI c1 ?_;rw [a4S,ei];have z6:=a9K (Lib.itoa pz);generalize Lib.itoa pz=t1 at *;clear ei z3 z4;refine d9A (α:=Nat) (fun n=>⟨[(6,str (sb (if y=1 then t1 else t1++47::Lib.decDigits y)))],[],n⟩) (fun _=>True) ?_ ?_
 ·refine fR 1100 ?_
  by_cases hy:y=1
  ·rw [d9P hy]
   have e54:(decide ((y:Int)>1))=false:=by apply d9U;omega
   rw [e54];refine ifI ?_;refine skI ?_;exact ⟨rfl,_,trivial,wkI⟩
  ·rw [d9Q hy]
   have e54:(decide ((y:Int)>1))=true:=by apply d9S;omega
   have s3:(⟨#[47]⟩:ByteArray).size=1:=rfl;have sc:((⟨t1.toArray⟩:ByteArray)++(⟨#[47]⟩:ByteArray)).size=(⟨t1.toArray⟩:ByteArray).size+(⟨#[47]⟩:ByteArray).size:=ByteArray.size_append;rw [e54];refine ifI ?_;refine fI 1200 ?_;refine dI c2 ?_;have e47:(⟨#[47]⟩:ByteArray)=⟨([47]:List UInt8).toArray⟩:=rfl;rw [e47,a4S,a4S,e1o,e1v,e1h];exact ⟨rfl,_,trivial,wkI⟩
 rintro n1 -;refine fR 1300 ?_;refine rtI ?_;exact a0a rfl IsPure.out
theorem b4i {n k:Nat}(h:(a0h n).length<=k):(a0s n).length<=3*k:=by
 refine a1E (e0E (a2Z n) ?_);rw [Nat.pow_mul];exact e0A (e1l (by decide) h) (e3e (by decide) k)
theorem b2T {n k:Nat}(h:(a0h n).length<=k):(Lib.decDigits n).length<=27*k+1:=by
 have h1:=a8V (a0D n);rw [a0u] at h1
 have:=b4i h
 omega
theorem c8y {z:Int}{k:Nat}(h:(a0h z.natAbs).length<=k):(Lib.itoa z).length<=27*k+2:=by
 have:=b2T h
 unfold Lib.itoa;split
 ·rw [d9Y];omega
 ·rw [show z.toNat=z.natAbs by omega];omega
theorem a6i {r:Rat}{k:Nat}(h:rk r k)(hk:k<=10000):c2W r:=by
 have h1:=c8y h.1;have h2:=b2T h.2;unfold c2W txt;split
 ·omega
 ·rw [e0x,d9Y];omega
def LZ (x:Int)(p:Nat):Prop:=(a0s x.natAbs).length<=p
theorem LZ.mul {x y:Int}{p q:Nat}(hx:LZ x p)(hy:LZ y q):LZ (x*y) (p+q):=by
 unfold LZ at *;rw [e2y]
 have:=a6h x.natAbs y.natAbs
 omega
theorem LZ.add {x y:Int}{p q:Nat}(hx:LZ x p)(hy:LZ y q):LZ (x+y) (p+q+1):=by
 unfold LZ at *;have h1:=a0F (x+y).natAbs (x.natAbs+y.natAbs) (Int.natAbs_add_le x y);have h2:=a9e x.natAbs y.natAbs;omega
theorem LZ.few {x:Int}{p:Nat}(h:LZ x p)(hp:p<1000000):b5G x:=e0I h hp
theorem LZ.num {r:Rat}{k:Nat}(h:rk r k):LZ r.num (3*k):=b4i h.1
theorem LZ.den {r:Rat}{k:Nat}(h:rk r k):LZ (r.den:Int) (3*k):=b4i h.2
theorem d2n (a b:Rat):qZ (a.num*b.den+b.num*a.den) ((a.den:Int)*b.den)=a+b:=by
 unfold qZ;have h:¬ ((a.den:Int)*b.den<0):=by
  rw [<- e1t];omega
 rw [d9Q h,<- e1t,e1d,Rat.add_def',]
theorem d0N (a b:Rat):qZ (a.num*b.num) ((a.den:Int)*b.den)=a*b:=by
 unfold qZ;have h:¬ ((a.den:Int)*b.den<0):=by
  rw [<- e1t];omega
 rw [d9Q h,<- e1t,e1d,Rat.mul_def']
theorem a5j {x y:Int}(hx:x.natAbs<10^9)(hy:y.natAbs<10^9):(x*y).natAbs<10^18:=by
 rw [e2y];exact e0E (Nat.mul_lt_mul'' hx hy) (by decide)
theorem d6O (a b:Rat)(i j:Nat)(ha:rk a i)(hb:rk b j)(hij:i+j<=10000):a0b C0 13 [rR a,rR b] (rR (a+b)):=by
 refine a0c.walk w1 d4M rfl fun F=>?_
 have ta:=a6i ha (by omega);have tb:=a6i hb (by omega);have qa:=b1H a ta;have qb:=b1H b tb
 by_cases hq:qk a=true/\qk b=true
 ·obtain ⟨h1,h2⟩:=hq
  obtain ⟨n1,d1⟩:=a6w h1;obtain ⟨n2,d2⟩:=a6w h2;rw [h1,d9P rfl,d9P rfl] at qa;rw [h2,d9P rfl,d9P rfl] at qb;have p1:=a5j n1 (y:=(b.den:Int)) (by omega);have p2:=a5j n2 (y:=(a.den:Int)) (by omega);have p3:=a5j (x:=(a.den:Int)) (y:=(b.den:Int)) (by omega) (by omega);have m1:IntKind.i64.wrap (a.num*(b.den:Int))=a.num*b.den:=wI (by omega) (by omega);have m2:IntKind.i64.wrap (b.num*(a.den:Int))=b.num*a.den:=wI (by omega) (by omega);have m3:IntKind.i64.wrap (a.num*(b.den:Int)+b.num*(a.den:Int))=a.num*b.den+b.num*a.den:=wI (by omega) (by omega);have m4:IntKind.i64.wrap ((a.den:Int)*(b.den:Int))=((a.den*b.den:Nat):Int):=by rw [wI (by omega) (by omega),e1t]
  have p4:a.den*b.den<10^18:=by rw [<- e1t,e1d] at p3;exact p3
  have cf:=d0c (a.num*b.den+b.num*a.den) (a.den*b.den) (by omega) (e2G a.den_pos b.den_pos) (by omega);rw [<- Rat.add_def'] at cf;refine sR 0 ?_;refine sR 100 ?_;refine cI qa ?_;refine sR 200 ?_;refine cI qb ?_;refine OkS.seq ?_;refine sZ 300 ?_;refine gwI kT ?_;refine ifI ?_;refine sZ 400 ?_;refine nwI (ff4 m1 m2 m3 m4) ?_;refine cI cf ?_;refine rtI ?_;exact a0a rfl IsPure.out
 ·refine sR 0 ?_
  refine sR 100 ?_;refine cI qa ?_;refine sR 200 ?_;refine cI qb ?_;refine d9A (α:=Nat) (fun n=>⟨[(0,rR a),(1,rR b)],[],n⟩) (fun _=>True) ?_ ?_
  ·cases h1:qk a
   ·refine sZ 300 ?_
    refine gwI h1 ?_;refine gwI kF ?_;refine ifI ?_;refine skI ?_;exact ⟨rfl,_,trivial,wkI⟩
   ·have h2:qk b=false:=by
     cases h2:qk b
     ·rfl
     ·exact d9R ⟨h1,h2⟩ hq
    rw [h2];refine sZ 300 ?_;refine gwI h1 ?_;refine gwI kT ?_;refine ifI ?_;refine skI ?_;exact ⟨rfl,_,trivial,wkI⟩
  rintro n0 -;clear qa qb hq;have pa:=b0a (txt a) (a8d a) (a8l a) ta;have pb:=b0a (txt b) (a8d b) (a8l b) tb;rw [b1p,b5O] at pa pb;have lan:=LZ.num ha;have lad:=LZ.den ha;have lbn:=LZ.num hb;have lbd:=LZ.den hb;have da:=a.den_pos;have db:=b.den_pos;have c1:=a8J a.num b.den (lan.few (by omega)) (lbd.few (by omega));have c2:=a8J b.num a.den (lbn.few (by omega)) (lad.few (by omega));have c3:=d0e (a.num*b.den) (b.num*a.den) ((lan.mul lbd).few (by omega)) ((lbn.mul lad).few (by omega));have c4:=a8J (a.den:Int) b.den (lad.few (by omega)) (lbd.few (by omega));have c5:=b0G (a.num*b.den+b.num*a.den) ((a.den:Int)*b.den) (by rw [<- e1t];have:=e2G da db;omega) (((lan.mul lbd).add (lbn.mul lad)).few (by omega)) ((lad.mul lbd).few (by omega));rw [d2n] at c5;refine sR 500 ?_;refine cI pa ?_;refine sR 600 ?_;refine cI pb ?_;refine OkS.seq ?_;refine d9n w1 700 [0,1,2,3,4,5,6,7,8] [9,10,11] (by kernel_rfl) ?_;refine gwI kN ?_
  first|refine a0r.same _ c1 d9O ?_|refine a0j.same _ c1 d9O ?_
  refine gwI kN ?_
  first|refine a0r.same _ c2 d9O ?_|refine a0j.same _ c2 d9O ?_
  refine gwI kN ?_
  first|refine a0r.same _ c3 d9O ?_|refine a0j.same _ c3 d9O ?_
  refine gwI kN ?_
  first|refine a0r.same _ c4 d9O ?_|refine a0j.same _ c4 d9O ?_
  refine gwI kN ?_
  first|refine a0r.same _ c5 d9O ?_|refine a0j.same _ c5 d9O ?_
  refine gwI kN ?_;refine rtI ?_;exact a0a rfl IsPure.out
theorem d8n (a b:Rat)(i j:Nat)(ha:rk a i)(hb:rk b j)(hij:i+j<=10000):a0b C0 43 [rR a,rR b] (rR (a*b)):=by
 refine a0c.walk w1 d6r rfl fun F=>?_
 have ta:=a6i ha (by omega);have tb:=a6i hb (by omega);have qa:=b1H a ta;have qb:=b1H b tb
 by_cases hq:qk a=true/\qk b=true
 ·obtain ⟨h1,h2⟩:=hq
  obtain ⟨n1,d1⟩:=a6w h1;obtain ⟨n2,d2⟩:=a6w h2;rw [h1,d9P rfl,d9P rfl] at qa;rw [h2,d9P rfl,d9P rfl] at qb;have p1:=a5j n1 (y:=b.num) n2;have p3:=a5j (x:=(a.den:Int)) (y:=(b.den:Int)) (by omega) (by omega);have m1:IntKind.i64.wrap (a.num*b.num)=a.num*b.num:=wI (by omega) (by omega);have m4:IntKind.i64.wrap ((a.den:Int)*(b.den:Int))=((a.den*b.den:Nat):Int):=by rw [wI (by omega) (by omega),e1t]
  have p4:a.den*b.den<10^18:=by rw [<- e1t,e1d] at p3;exact p3
  have cf:=d0c (a.num*b.num) (a.den*b.den) (by omega) (e2G a.den_pos b.den_pos) (by omega);rw [<- Rat.mul_def'] at cf;refine sR 0 ?_;refine sR 100 ?_;refine cI qa ?_;refine sR 200 ?_;refine cI qb ?_;refine OkS.seq ?_;refine sZ 300 ?_;refine gwI kT ?_;refine ifI ?_;refine sZ 400 ?_;refine nwI (ff2 m1 m4) ?_;refine cI cf ?_;refine rtI ?_;exact a0a rfl IsPure.out
 ·refine sR 0 ?_
  refine sR 100 ?_;refine cI qa ?_;refine sR 200 ?_;refine cI qb ?_;refine d9A (α:=Nat) (fun n=>⟨[(0,rR a),(1,rR b)],[],n⟩) (fun _=>True) ?_ ?_
  ·cases h1:qk a
   ·refine sZ 300 ?_
    refine gwI h1 ?_;refine gwI kF ?_;refine ifI ?_;refine skI ?_;exact ⟨rfl,_,trivial,wkI⟩
   ·have h2:qk b=false:=by
     cases h2:qk b
     ·rfl
     ·exact d9R ⟨h1,h2⟩ hq
    rw [h2];refine sZ 300 ?_;refine gwI h1 ?_;refine gwI kT ?_;refine ifI ?_;refine skI ?_;exact ⟨rfl,_,trivial,wkI⟩
  rintro n0 -;clear qa qb hq;have pa:=b0a (txt a) (a8d a) (a8l a) ta;have pb:=b0a (txt b) (a8d b) (a8l b) tb;rw [b1p,b5O] at pa pb;have lan:=LZ.num ha;have lad:=LZ.den ha;have lbn:=LZ.num hb;have lbd:=LZ.den hb;have da:=a.den_pos;have db:=b.den_pos;have c1:=a8J a.num b.num (lan.few (by omega)) (lbn.few (by omega));have c4:=a8J (a.den:Int) b.den (lad.few (by omega)) (lbd.few (by omega));have c5:=b0G (a.num*b.num) ((a.den:Int)*b.den) (by rw [<- e1t];have:=e2G da db;omega) ((lan.mul lbn).few (by omega)) ((lad.mul lbd).few (by omega));rw [d0N] at c5;refine sR 500 ?_;refine cI pa ?_;refine sR 600 ?_;refine cI pb ?_;refine OkS.seq ?_;refine d9n w1 700 [0,1,2,3,4] [5,6,7] (by kernel_rfl) ?_;refine gwI kN ?_
  first|refine a0r.same _ c1 d9O ?_|refine a0j.same _ c1 d9O ?_
  refine gwI kN ?_
  first|refine a0r.same _ c4 d9O ?_|refine a0j.same _ c4 d9O ?_
  refine gwI kN ?_
  first|refine a0r.same _ c5 d9O ?_|refine a0j.same _ c5 d9O ?_
  refine gwI kN ?_;refine rtI ?_;exact a0a rfl IsPure.out
theorem d7Y (a b:Rat)(i j:Nat)(ha:rk a i)(hb:rk b j)(hij:i+j<=10000):a0b C0 122 [rR a,rR b] (rR (a - b)):=by
 refine a0c.walk w1 d3K rfl fun F=>?_
 have c1:=d5C b (a6i hb (by omega));have c2:=d6O a (-b) i j ha (c5S hb) hij;rw [<- Rat.sub_eq_add_neg] at c2;refine sR 0 ?_;refine sR 100 ?_;refine cI c1 ?_;refine cI c2 ?_;refine rtI ?_;exact a0a rfl IsPure.out
theorem c7V (a b:Rat):a8Y (a - b)=a1e a b:=by
 unfold a8Y a1e;have h1:(a - b).num<0↔a<b:=by
  have e:=Rat.lt_iff (a - b) 0;have e1:(a - b).num*((0:Rat).den:Int)<(0:Rat).num*((a - b).den:Int)↔(a - b).num<0:=by simp
  rw [<- e1,<- e];constructor<;>intro h<;>grind
 have h2:0<(a - b).num↔b<a:=by
  have e:=Rat.lt_iff 0 (a - b);have e1:(0:Rat).num*((a - b).den:Int)<(a - b).num*((0:Rat).den:Int)↔0<(a - b).num:=by simp
  rw [<- e1,<- e];constructor<;>intro h<;>grind
 by_cases h:a<b
 ·rw [d9P h];have:=h1.2 h;omega
 ·rw [d9Q h]
  by_cases h':b<a
  ·rw [d9P h'];have:=h2.2 h';omega
  ·rw [d9Q h']
   have:=mt h1.1 h
   have:=mt h2.1 h'
   omega
theorem d6P (a b:Rat)(i j:Nat)(ha:rk a i)(hb:rk b j)(hij:i+j<10000):a0b C0 57 [rR a,rR b] (i64 (a1e a b)):=by
 refine a0c.walk w1 d5y rfl fun F=>?_
 have c1:=d7Y a b i j ha hb (by omega);have c2:=b8Y (a - b) (a6i (d2r ha hb) (by omega));rw [c7V] at c2;refine sR 0 ?_;refine sR 100 ?_;refine cI c1 ?_;refine cI c2 ?_;refine rtI ?_;exact a0a rfl IsPure.out
end Go.Ide
