/- The layer of own lemmas and contracts, part 14. -/
import Derived.Test.YtmpdcldckjeklaaGreatDoorAC11
import Derived.Test.YtmpdcldckjeklaaGreatDoorAC12
import Derived.Test.YtmpdcldckjeklaaGreatDoorAC13
import Derived.Test.YtmpdcldckjeklaaGreatDoorAC7
set_option linter.unusedVariables false
set_option linter.unusedSimpArgs false
namespace Go.Ide
open Go.Proofs Go.RowKit
set_option maxRecDepth 100000
theorem MF (l:List UInt8)(n:Nat)(h:(Nat.beq (BY l) n&&BG l)=true:=by kernel_rfl)(hl:Nat.ble l.length 1000000=true:=by kernel_rfl):Af C0 23 [str (sb l)] (.tup [i64 (n:Nat),Al true]):=by
 have:=Jz l (A0 hl)
 rw[Ad]at h;rw[Ab h.1,h.2]at this;exact this
theorem el:Af C0 23 [.prim (.string ⟨#[49]⟩)] (.tup [i64 1,Al true]):=MF [49] 1
theorem en:Af C0 23 [.prim (.string ⟨#[48]⟩)] (.tup [i64 0,Al true]):=MF [48] 0
theorem eo:Af C0 23 [.prim (.string ⟨#[49,48,48]⟩)] (.tup [i64 100,Al true]):=MF [49,48,48] 100
theorem ep:Af C0 23 [.prim (.string ⟨#[53,48]⟩)] (.tup [i64 50,Al true]):=MF [53,48] 50
def d8:List (Nat×List D×D):=[(42,[TS,SY],.tup [M7,i64 0]),
 (42,[M7,SZ],.tup [M8,i64 0]),
 (42,[M8,Sa],.tup [M9,i64 0]),
 (42,[M9,Sb],.tup [NA,i64 0]),
 (42,[NA,Sc],.tup [NB,i64 0]),
 (42,[NB,Sd],.tup [NC,i64 0]),
 (42,[NC,Se],.tup [ND,i64 0]),
 (42,[ND,Sf],.tup [NE,i64 0]),
 (42,[NE,Sg],.tup [Jn,i64 0]),
 (42,[Jn,Rx],.tup [HX,i64 0]),
 (42,[HX,Ry],.tup [Sz,i64 0]),
 (42,[Jn,RK],.tup [.prim (.pointer none),i64 28]),
 (42,[HX,RL],.tup [.prim (.pointer none),i64 28]),
 (42,[HX,RM],.tup [TT,i64 0]),
 (111,[.mp kL vL],.tup [.sl false 2 [aB,aR],i64 0]),
 (23,[.prim (.string ⟨#[49]⟩)],.tup [i64 1,Al true]),
 (23,[.prim (.string ⟨#[48]⟩)],.tup [i64 0,Al true]),
 (23,[.prim (.string ⟨#[49,48,48]⟩)],.tup [i64 100,Al true]),
 (23,[.prim (.string ⟨#[53,48]⟩)],.tup [i64 50,Al true])]
theorem WM:IN d8:=DP Tu (DR (by kernel_rfl)) (DP Tv (DR (by kernel_rfl)) (DP Tw (DR (by kernel_rfl)) (DP Tx (DR (by kernel_rfl)) (DP Ty (DR (by kernel_rfl)) (DP Tz (DR (by kernel_rfl)) (DP T1 (DR (by kernel_rfl)) (DP T2 (DR (by kernel_rfl)) (DP T3 (DR (by kernel_rfl)) (DP dh (DR (by kernel_rfl)) (DP di (DR (by kernel_rfl)) (DP aV (DR (by kernel_rfl)) (DP aW (DR (by kernel_rfl)) (DP aX (DR (by kernel_rfl)) (DP aY (DR (by kernel_rfl)) (DP el (DR (by kernel_rfl)) (DP en (DR (by kernel_rfl)) (DP eo (DR (by kernel_rfl)) (DP ep (DR (by kernel_rfl)) (DA)))))))))))))))))))
def dP:List Nat:=8::19::(1000000+33)::(8000000+33)::DK
theorem T6:Af C0 4 [] (Al true):=DW (DE dP WM) 1000 40 (by kernel_rfl)
end Go.Ide
