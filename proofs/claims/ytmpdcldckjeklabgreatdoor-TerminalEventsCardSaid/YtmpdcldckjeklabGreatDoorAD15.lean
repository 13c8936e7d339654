/- The layer of own lemmas and contracts, part 15. -/
import Derived.Test.YtmpdcldckjeklabGreatDoorAD7
set_option linter.unusedVariables false
set_option linter.unusedSimpArgs false
namespace Go.Ide
open Go.Proofs Go.RowKit
set_option maxRecDepth 100000
def CZ:D:=.prim (.string ⟨#[49]⟩)
def Km:D:=.prim (.string ⟨#[97,110,110]⟩)
def Qo:D:=.prim (.string ⟨#[97,114,114,105,118,101]⟩)
def Sk:D:=.prim (.string ⟨#[98,105,110]⟩)
def Bo:D:=.prim (.string ⟨#[98,108,117,101]⟩)
def eO:D:=.prim (.string ⟨#[100,114,121]⟩)
def Dx:D:=.prim (.string ⟨#[101,97,115,116]⟩)
def FJ:D:=.prim (.string ⟨#[102,117,110,110,101,108]⟩)
def RR:D:=.prim (.string ⟨#[105,115,115,117,101]⟩)
def Oa:D:=.prim (.string ⟨#[108,111,97,100]⟩)
def E3:D:=.prim (.string ⟨#[109,97,115,115]⟩)
def cV:D:=.prim (.string ⟨#[109,111,118,101]⟩)
def Ge:D:=.prim (.string ⟨#[111,115,108,111]⟩)
def Bd:D:=.prim (.string ⟨#[114,101,100]⟩)
def cW:D:=.prim (.string ⟨#[115,104,105,112]⟩)
def RS:D:=.prim (.string ⟨#[115,116,111,114,101]⟩)
def Dy:D:=.prim (.string ⟨#[119,101,115,116]⟩)
def A8:D:=.prim (.string ⟨#[119,104,101,97,116]⟩)
def Su:D:=.agg [i64 1,i64 3,Sk,.sl true 1 [Dx,E3],.sl true 1 [i64 1,i64 0,i64 100,i64 50]]
def Sv:D:=.agg [i64 2,i64 3,Sk,.sl true 1 [Dy,FJ],.sl true 1 [i64 2,i64 4,i64 100,i64 60]]
def Sw:D:=.agg [i64 3,i64 3,Qo,.sl true 1 [Bd,A8],.sl true 1 [i64 40]]
def Sx:D:=.agg [i64 4,i64 3,Qo,.sl true 1 [Bo,A8],.sl true 1 [i64 20]]
def Sy:D:=.agg [i64 5,i64 3,RS,.sl true 1 [Bd,Dx],.sl true 1 [i64 0,i64 30]]
def Sz:D:=.agg [i64 6,i64 3,RS,.sl true 1 [Bo,Dx],.sl true 1 [i64 0,i64 20]]
def S0:D:=.agg [i64 7,i64 3,cV,.sl true 1 [Dx,Dy],.sl true 1 [i64 0,i64 1,i64 36]]
def S1:D:=.agg [i64 8,i64 3,cW,.sl true 1 [Ge,A8],.sl true 1 [i64 90]]
def S2:D:=.agg [i64 9,i64 3,Oa,.sl true 1 [Ge,Dy],.sl true 1 [i64 1,i64 9]]
def SH:D:=.agg [i64 10,i64 3,RR,.sl true 1 [Km,A8],.sl true 1 [i64 50]]
def R9:D:=.agg [i64 11,i64 3,eO,.sl true 1 [Dy,Dx],.sl true 1 [i64 1,i64 0,i64 20,i64 19]]
def Rd:D:=.agg [i64 10,i64 3,RR,.sl true 1 [Km,A8],.sl true 1 [i64 52]]
def Re:D:=.agg [i64 11,i64 3,Oa,.sl true 1 [Ge,Dy],.sl true 1 [i64 1,i64 2]]
def Rm:D:=.agg [i64 11,i64 3,Oa,.sl true 1 [Ge,Dy],.sl true 1 [i64 1,i64 1]]
def Tp:D:=.pptr (.agg [i64 0,i64 0,BC,BC,BC,BC,.mp [] [],BC])
def NE:D:=.pptr (.agg [i64 3,i64 1,.sl false 6 [.agg [Dx,E3,i64 0,i64 100,i64 50,.sl true 1 [BC]]],.sl false 4 [],.sl false 6 [],.sl false 3 [],.mp [] [],BC])
def NF:D:=.pptr (.agg [i64 3,i64 2,.sl false 6 [.agg [Dx,E3,i64 0,i64 100,i64 50,.sl true 1 [BC]],.agg [Dy,FJ,i64 4,i64 100,i64 60,.sl true 1 [BC,BC]]],.sl false 4 [],.sl false 6 [],.sl false 3 [],.mp [] [],BC])
def NG:D:=.pptr (.agg [i64 3,i64 3,.sl false 6 [.agg [Dx,E3,i64 0,i64 100,i64 50,.sl true 1 [BC]],.agg [Dy,FJ,i64 4,i64 100,i64 60,.sl true 1 [BC,BC]]],.sl false 4 [.agg [Bd,A8,i64 40,i64 40]],.sl false 6 [],.sl false 3 [],.mp [] [],.sl true 1 [Bd]])
def NH:D:=.pptr (.agg [i64 3,i64 4,.sl false 6 [.agg [Dx,E3,i64 0,i64 100,i64 50,.sl true 1 [BC]],.agg [Dy,FJ,i64 4,i64 100,i64 60,.sl true 1 [BC,BC]]],.sl false 4 [.agg [Bo,A8,i64 20,i64 20],.agg [Bd,A8,i64 40,i64 40]],.sl false 6 [],.sl false 3 [],.mp [] [],.sl true 1 [Bo]])
def NI:D:=.pptr (.agg [i64 3,i64 5,.sl false 6 [.agg [Dx,E3,i64 0,i64 100,i64 50,.sl false 1 [.sl false 3 [.agg [A8,i64 30,.sl false 2 [.agg [Bd,CZ]]]]]],.agg [Dy,FJ,i64 4,i64 100,i64 60,.sl true 1 [BC,BC]]],.sl false 4 [.agg [Bo,A8,i64 20,i64 20],.agg [Bd,A8,i64 40,i64 10]],.sl false 6 [],.sl false 3 [],.mp [] [],.sl true 1 [Bd]])
def NJ:D:=.pptr (.agg [i64 3,i64 6,.sl false 6 [.agg [Dx,E3,i64 0,i64 100,i64 50,.sl false 1 [.sl false 3 [.agg [A8,i64 30,.sl false 2 [.agg [Bd,CZ]]],.agg [A8,i64 20,.sl false 2 [.agg [Bo,CZ]]]]]],.agg [Dy,FJ,i64 4,i64 100,i64 60,.sl true 1 [BC,BC]]],.sl false 4 [.agg [Bo,A8,i64 20,i64 0],.agg [Bd,A8,i64 40,i64 10]],.sl false 6 [],.sl false 3 [],.mp [] [],.sl true 1 [Bo]])
def NK:D:=.pptr (.agg [i64 3,i64 7,.sl false 6 [.agg [Dx,E3,i64 0,i64 100,i64 50,.sl false 1 [.sl false 3 [.agg [A8,i64 14,.sl false 2 [.agg [Bo,CZ]]]]]],.agg [Dy,FJ,i64 4,i64 100,i64 60,.sl false 1 [BC,.sl false 3 [.agg [A8,i64 30,.sl false 2 [.agg [Bd,CZ]]],.agg [A8,i64 6,.sl false 2 [.agg [Bo,CZ]]]]]]],.sl false 4 [.agg [Bo,A8,i64 20,i64 0],.agg [Bd,A8,i64 40,i64 10]],.sl false 6 [],.sl false 3 [],.mp [] [],.sl false 1 [Bd,Bo]])
def NM:D:=.pptr (.agg [i64 3,i64 8,.sl false 6 [.agg [Dx,E3,i64 0,i64 100,i64 50,.sl false 1 [.sl false 3 [.agg [A8,i64 14,.sl false 2 [.agg [Bo,CZ]]]]]],.agg [Dy,FJ,i64 4,i64 100,i64 60,.sl false 1 [BC,.sl false 3 [.agg [A8,i64 30,.sl false 2 [.agg [Bd,CZ]]],.agg [A8,i64 6,.sl false 2 [.agg [Bo,CZ]]]]]]],.sl false 4 [.agg [Bo,A8,i64 20,i64 0],.agg [Bd,A8,i64 40,i64 10]],.sl false 6 [.agg [Ge,A8,.prim (.bool false),i64 90,.prim (.bool false),BC]],.sl false 3 [],.mp [] [],BC])
def Jl:D:=.pptr (.agg [i64 3,i64 9,.sl false 6 [.agg [Dx,E3,i64 0,i64 100,i64 50,.sl false 1 [.sl false 3 [.agg [A8,i64 14,.sl false 2 [.agg [Bo,CZ]]]]]],.agg [Dy,FJ,i64 4,i64 100,i64 60,.sl false 1 [BC,.sl false 3 [.agg [A8,i64 27,.sl false 2 [.agg [Bd,CZ]]]]]]],.sl false 4 [.agg [Bo,A8,i64 20,i64 0],.agg [Bd,A8,i64 40,i64 10]],.sl false 6 [.agg [Ge,A8,.prim (.bool false),i64 90,.prim (.bool false),.sl false 3 [.agg [A8,i64 6,.sl false 2 [.agg [Bo,CZ]]],.agg [A8,i64 3,.sl false 2 [.agg [Bd,CZ]]]]]],.sl false 3 [],.mp [] [],.sl false 1 [Bo,Bd]])
def HU:D:=.pptr (.agg [i64 3,i64 10,.sl false 6 [.agg [Dx,E3,i64 0,i64 100,i64 50,.sl false 1 [.sl false 3 [.agg [A8,i64 14,.sl false 2 [.agg [Bo,CZ]]]]]],.agg [Dy,FJ,i64 4,i64 100,i64 60,.sl false 1 [BC,.sl false 3 [.agg [A8,i64 27,.sl false 2 [.agg [Bd,CZ]]]]]]],.sl false 4 [.agg [Bo,A8,i64 20,i64 0],.agg [Bd,A8,i64 40,i64 10]],.sl false 6 [.agg [Ge,A8,.prim (.bool false),i64 90,.prim (.bool false),.sl false 3 [.agg [A8,i64 6,.sl false 2 [.agg [Bo,CZ]]],.agg [A8,i64 3,.sl false 2 [.agg [Bd,CZ]]]]]],.sl false 3 [.agg [Km,A8,i64 50]],.mp [] [],BC])
def TO:D:=.pptr (.agg [i64 3,i64 11,.sl false 6 [.agg [Dx,E3,i64 0,i64 100,i64 50,.sl false 1 [.sl false 3 [.agg [A8,i64 14,.sl false 2 [.agg [Bo,CZ]]],.agg [A8,i64 19,.sl false 2 [.agg [Bd,CZ]]]]]],.agg [Dy,FJ,i64 4,i64 100,i64 60,.sl false 1 [BC,.sl false 3 [.agg [A8,i64 7,.sl false 2 [.agg [Bd,CZ]]]]]]],.sl false 4 [.agg [Bo,A8,i64 20,i64 0],.agg [Bd,A8,i64 40,i64 10]],.sl false 6 [.agg [Ge,A8,.prim (.bool false),i64 90,.prim (.bool false),.sl false 3 [.agg [A8,i64 6,.sl false 2 [.agg [Bo,CZ]]],.agg [A8,i64 3,.sl false 2 [.agg [Bd,CZ]]]]]],.sl false 3 [.agg [Km,A8,i64 50]],.mp [Bd] [.agg [i64 1,BC,i64 1,BC]],.sl false 1 [Bd]])
def Tq:D:=.pptr (.agg [i64 3,i64 11,.sl false 6 [.agg [Dx,E3,i64 0,i64 100,i64 50,.sl false 1 [.sl false 3 [.agg [A8,i64 14,.sl false 2 [.agg [Bo,CZ]]]]]],.agg [Dy,FJ,i64 4,i64 100,i64 60,.sl false 1 [BC,.sl false 3 [.agg [A8,i64 26,.sl false 2 [.agg [Bd,CZ]]]]]]],.sl false 4 [.agg [Bo,A8,i64 20,i64 0],.agg [Bd,A8,i64 40,i64 10]],.sl false 6 [.agg [Ge,A8,.prim (.bool false),i64 90,.prim (.bool false),.sl false 3 [.agg [A8,i64 6,.sl false 2 [.agg [Bo,CZ]]],.agg [A8,i64 4,.sl false 2 [.agg [Bd,CZ]]]]]],.sl false 3 [.agg [Km,A8,i64 50]],.mp [] [],.sl false 1 [Bd]])
theorem UH:Aa C0 51 [Tp,Su] (.tup [NE,i64 0]):=Dc (DN DS DL) 1000 40 (by kernel_rfl)
theorem UI:Aa C0 51 [NE,Sv] (.tup [NF,i64 0]):=Dc (DN DS DL) 1000 40 (by kernel_rfl)
theorem UJ:Aa C0 51 [NF,Sw] (.tup [NG,i64 0]):=Dc (DN DS DL) 1000 40 (by kernel_rfl)
theorem UK:Aa C0 51 [NG,Sx] (.tup [NH,i64 0]):=Dc (DN DS DL) 1000 40 (by kernel_rfl)
theorem UL:Aa C0 51 [NH,Sy] (.tup [NI,i64 0]):=Dc (DN DS DL) 1000 40 (by kernel_rfl)
theorem UM:Aa C0 51 [NI,Sz] (.tup [NJ,i64 0]):=Dc (DN DS DL) 1000 40 (by kernel_rfl)
theorem UN:Aa C0 51 [NJ,S0] (.tup [NK,i64 0]):=Dc (DN DS DL) 1000 40 (by kernel_rfl)
theorem bi:Aa C0 51 [Jl,Rd] (.tup [.prim (.pointer none),i64 28]):=Dc (DN DS DL) 1000 40 (by kernel_rfl)
end Go.Ide
