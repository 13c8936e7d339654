/- The layer of own lemmas and contracts, part 19. -/
import Derived.Test.YtmpdcldckjeklacGreatDoorAE16
import Derived.Test.YtmpdcldckjeklacGreatDoorAE17
import Derived.Test.YtmpdcldckjeklacGreatDoorAE18
import Derived.Test.YtmpdcldckjeklacGreatDoorAE7
set_option linter.unusedVariables false
set_option linter.unusedSimpArgs false
namespace Go.Ide
open Go.Proofs Go.RowKit
set_option maxRecDepth 100000
theorem Mp (l:List UInt8)(n:Nat)(h:(Nat.beq (Bg l) n&&BH l)=true:=by kernel_rfl)(hl:Nat.ble l.length 1000000=true:=by kernel_rfl):Aa C0 52 [str (sb l)] (.tup [i64 (n:Nat),Ai true]):=by
 have:=KY l (BD hl)
 rw[Ag]at h;rw[Ae h.1,h.2]at this;exact this
theorem ig:Aa C0 52 [.prim (.string ⟨#[49]⟩)] (.tup [i64 1,Ai true]):=Mp [49] 1
theorem ii:Aa C0 52 [.prim (.string ⟨#[48]⟩)] (.tup [i64 0,Ai true]):=Mp [48] 0
theorem ij:Aa C0 52 [.prim (.string ⟨#[49,48,48]⟩)] (.tup [i64 100,Ai true]):=Mp [49,48,48] 100
theorem ik:Aa C0 52 [.prim (.string ⟨#[53,48]⟩)] (.tup [i64 50,Ai true]):=Mp [53,48] 50
def gb:List (Nat×List D×D):=[(43,[UZ,Ti],.tup [Nh,i64 0]),
 (43,[Nh,Tj],.tup [Ni,i64 0]),
 (43,[Ni,Tk],.tup [Nj,i64 0]),
 (43,[Nj,Tl],.tup [Nk,i64 0]),
 (43,[Nk,Tm],.tup [Nl,i64 0]),
 (43,[Nl,Tn],.tup [Nm,i64 0]),
 (43,[Nm,To],.tup [Nn,i64 0]),
 (43,[Nn,Tp],.tup [No,i64 0]),
 (43,[No,Tq],.tup [KF,i64 0]),
 (43,[KF,S6],.tup [Hv,i64 0]),
 (43,[Hv,S7],.tup [T9,i64 0]),
 (43,[KF,SN],.tup [.prim (.pointer none),i64 28]),
 (43,[Hv,SO],.tup [.prim (.pointer none),i64 28]),
 (43,[Hv,SP],.tup [Ua,i64 0]),
 (113,[.mp kL vL],.tup [.sl false 2 [aB,aR],i64 0]),
 (52,[.prim (.string ⟨#[49]⟩)],.tup [i64 1,Ai true]),
 (52,[.prim (.string ⟨#[48]⟩)],.tup [i64 0,Ai true]),
 (52,[.prim (.string ⟨#[49,48,48]⟩)],.tup [i64 100,Ai true]),
 (52,[.prim (.string ⟨#[53,48]⟩)],.tup [i64 50,Ai true])]
theorem XW:Im gb:=Dj U0 (Dl (by kernel_rfl)) (Dj U1 (Dl (by kernel_rfl)) (Dj U2 (Dl (by kernel_rfl)) (Dj U3 (Dl (by kernel_rfl)) (Dj U4 (Dl (by kernel_rfl)) (Dj U5 (Dl (by kernel_rfl)) (Dj U6 (Dl (by kernel_rfl)) (Dj U7 (Dl (by kernel_rfl)) (Dj U8 (Dl (by kernel_rfl)) (Dj gj (Dl (by kernel_rfl)) (Dj gk (Dl (by kernel_rfl)) (Dj dR (Dl (by kernel_rfl)) (Dj dS (Dl (by kernel_rfl)) (Dj dT (Dl (by kernel_rfl)) (Dj dU (Dl (by kernel_rfl)) (Dj ig (Dl (by kernel_rfl)) (Dj ii (Dl (by kernel_rfl)) (Dj ij (Dl (by kernel_rfl)) (Dj ik (Dl (by kernel_rfl)) (DY)))))))))))))))))))
def gK:List Nat:=11::22::(1000000+28)::(8000000+28)::Dg
theorem VU:Aa C0 5 [] (Ai true):=Dq (Da gK XW) 1000 40 (by kernel_rfl)
end Go.Ide
