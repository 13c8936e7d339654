/- The layer of own lemmas and contracts, part 11. -/
import Derived.Test.YtmpdcldckjeklaaGreatDoorAC7
set_option linter.unusedVariables false
set_option linter.unusedSimpArgs false
namespace Go.Ide
open Go.Proofs Go.RowKit
set_option maxRecDepth 100000
def CS:D:=.prim (.string ⟨#[49]⟩)
def Kc:D:=.prim (.string ⟨#[97,110,110]⟩)
def Qd:D:=.prim (.string ⟨#[97,114,114,105,118,101]⟩)
def SR:D:=.prim (.string ⟨#[98,105,110]⟩)
def Bl:D:=.prim (.string ⟨#[98,108,117,101]⟩)
def cV:D:=.prim (.string ⟨#[100,114,121]⟩)
def Ds:D:=.prim (.string ⟨#[101,97,115,116]⟩)
def FF:D:=.prim (.string ⟨#[102,117,110,110,101,108]⟩)
def Q4:D:=.prim (.string ⟨#[105,115,115,117,101]⟩)
def OM:D:=.prim (.string ⟨#[108,111,97,100]⟩)
def Ew:D:=.prim (.string ⟨#[109,97,115,115]⟩)
def ap:D:=.prim (.string ⟨#[109,111,118,101]⟩)
def Gf:D:=.prim (.string ⟨#[111,115,108,111]⟩)
def BX:D:=.prim (.string ⟨#[114,101,100]⟩)
def aq:D:=.prim (.string ⟨#[115,104,105,112]⟩)
def Q5:D:=.prim (.string ⟨#[115,116,111,114,101]⟩)
def Dt:D:=.prim (.string ⟨#[119,101,115,116]⟩)
def A8:D:=.prim (.string ⟨#[119,104,101,97,116]⟩)
def SY:D:=.agg [i64 1,i64 3,SR,.sl true 1 [Ds,Ew],.sl true 1 [i64 1,i64 0,i64 100,i64 50]]
def SZ:D:=.agg [i64 2,i64 3,SR,.sl true 1 [Dt,FF],.sl true 1 [i64 2,i64 4,i64 100,i64 60]]
def Sa:D:=.agg [i64 3,i64 3,Qd,.sl true 1 [BX,A8],.sl true 1 [i64 40]]
def Sb:D:=.agg [i64 4,i64 3,Qd,.sl true 1 [Bl,A8],.sl true 1 [i64 20]]
def Sc:D:=.agg [i64 5,i64 3,Q5,.sl true 1 [BX,Ds],.sl true 1 [i64 0,i64 30]]
def Sd:D:=.agg [i64 6,i64 3,Q5,.sl true 1 [Bl,Ds],.sl true 1 [i64 0,i64 20]]
def Se:D:=.agg [i64 7,i64 3,ap,.sl true 1 [Ds,Dt],.sl true 1 [i64 0,i64 1,i64 36]]
def Sf:D:=.agg [i64 8,i64 3,aq,.sl true 1 [Gf,A8],.sl true 1 [i64 90]]
def Sg:D:=.agg [i64 9,i64 3,OM,.sl true 1 [Gf,Dt],.sl true 1 [i64 1,i64 9]]
def Rx:D:=.agg [i64 10,i64 3,Q4,.sl true 1 [Kc,A8],.sl true 1 [i64 50]]
def Ry:D:=.agg [i64 11,i64 3,cV,.sl true 1 [Dt,Ds],.sl true 1 [i64 1,i64 0,i64 20,i64 19]]
def RK:D:=.agg [i64 10,i64 3,Q4,.sl true 1 [Kc,A8],.sl true 1 [i64 52]]
def RL:D:=.agg [i64 11,i64 3,OM,.sl true 1 [Gf,Dt],.sl true 1 [i64 1,i64 2]]
def RM:D:=.agg [i64 11,i64 3,OM,.sl true 1 [Gf,Dt],.sl true 1 [i64 1,i64 1]]
def TS:D:=.pptr (.agg [i64 0,i64 0,BC,BC,BC,BC,.mp [] [],BC])
def M7:D:=.pptr (.agg [i64 3,i64 1,.sl false 6 [.agg [Ds,Ew,i64 0,i64 100,i64 50,.sl true 1 [BC]]],.sl false 4 [],.sl false 6 [],.sl false 3 [],.mp [] [],BC])
def M8:D:=.pptr (.agg [i64 3,i64 2,.sl false 6 [.agg [Ds,Ew,i64 0,i64 100,i64 50,.sl true 1 [BC]],.agg [Dt,FF,i64 4,i64 100,i64 60,.sl true 1 [BC,BC]]],.sl false 4 [],.sl false 6 [],.sl false 3 [],.mp [] [],BC])
def M9:D:=.pptr (.agg [i64 3,i64 3,.sl false 6 [.agg [Ds,Ew,i64 0,i64 100,i64 50,.sl true 1 [BC]],.agg [Dt,FF,i64 4,i64 100,i64 60,.sl true 1 [BC,BC]]],.sl false 4 [.agg [BX,A8,i64 40,i64 40]],.sl false 6 [],.sl false 3 [],.mp [] [],.sl true 1 [BX]])
def NA:D:=.pptr (.agg [i64 3,i64 4,.sl false 6 [.agg [Ds,Ew,i64 0,i64 100,i64 50,.sl true 1 [BC]],.agg [Dt,FF,i64 4,i64 100,i64 60,.sl true 1 [BC,BC]]],.sl false 4 [.agg [Bl,A8,i64 20,i64 20],.agg [BX,A8,i64 40,i64 40]],.sl false 6 [],.sl false 3 [],.mp [] [],.sl true 1 [Bl]])
def NB:D:=.pptr (.agg [i64 3,i64 5,.sl false 6 [.agg [Ds,Ew,i64 0,i64 100,i64 50,.sl false 1 [.sl false 3 [.agg [A8,i64 30,.sl false 2 [.agg [BX,CS]]]]]],.agg [Dt,FF,i64 4,i64 100,i64 60,.sl true 1 [BC,BC]]],.sl false 4 [.agg [Bl,A8,i64 20,i64 20],.agg [BX,A8,i64 40,i64 10]],.sl false 6 [],.sl false 3 [],.mp [] [],.sl true 1 [BX]])
def NC:D:=.pptr (.agg [i64 3,i64 6,.sl false 6 [.agg [Ds,Ew,i64 0,i64 100,i64 50,.sl false 1 [.sl false 3 [.agg [A8,i64 30,.sl false 2 [.agg [BX,CS]]],.agg [A8,i64 20,.sl false 2 [.agg [Bl,CS]]]]]],.agg [Dt,FF,i64 4,i64 100,i64 60,.sl true 1 [BC,BC]]],.sl false 4 [.agg [Bl,A8,i64 20,i64 0],.agg [BX,A8,i64 40,i64 10]],.sl false 6 [],.sl false 3 [],.mp [] [],.sl true 1 [Bl]])
def ND:D:=.pptr (.agg [i64 3,i64 7,.sl false 6 [.agg [Ds,Ew,i64 0,i64 100,i64 50,.sl false 1 [.sl false 3 [.agg [A8,i64 14,.sl false 2 [.agg [Bl,CS]]]]]],.agg [Dt,FF,i64 4,i64 100,i64 60,.sl false 1 [BC,.sl false 3 [.agg [A8,i64 30,.sl false 2 [.agg [BX,CS]]],.agg [A8,i64 6,.sl false 2 [.agg [Bl,CS]]]]]]],.sl false 4 [.agg [Bl,A8,i64 20,i64 0],.agg [BX,A8,i64 40,i64 10]],.sl false 6 [],.sl false 3 [],.mp [] [],.sl false 1 [BX,Bl]])
def NE:D:=.pptr (.agg [i64 3,i64 8,.sl false 6 [.agg [Ds,Ew,i64 0,i64 100,i64 50,.sl false 1 [.sl false 3 [.agg [A8,i64 14,.sl false 2 [.agg [Bl,CS]]]]]],.agg [Dt,FF,i64 4,i64 100,i64 60,.sl false 1 [BC,.sl false 3 [.agg [A8,i64 30,.sl false 2 [.agg [BX,CS]]],.agg [A8,i64 6,.sl false 2 [.agg [Bl,CS]]]]]]],.sl false 4 [.agg [Bl,A8,i64 20,i64 0],.agg [BX,A8,i64 40,i64 10]],.sl false 6 [.agg [Gf,A8,.prim (.bool false),i64 90,.prim (.bool false),BC]],.sl false 3 [],.mp [] [],BC])
def Jn:D:=.pptr (.agg [i64 3,i64 9,.sl false 6 [.agg [Ds,Ew,i64 0,i64 100,i64 50,.sl false 1 [.sl false 3 [.agg [A8,i64 14,.sl false 2 [.agg [Bl,CS]]]]]],.agg [Dt,FF,i64 4,i64 100,i64 60,.sl false 1 [BC,.sl false 3 [.agg [A8,i64 27,.sl false 2 [.agg [BX,CS]]]]]]],.sl false 4 [.agg [Bl,A8,i64 20,i64 0],.agg [BX,A8,i64 40,i64 10]],.sl false 6 [.agg [Gf,A8,.prim (.bool false),i64 90,.prim (.bool false),.sl false 3 [.agg [A8,i64 6,.sl false 2 [.agg [Bl,CS]]],.agg [A8,i64 3,.sl false 2 [.agg [BX,CS]]]]]],.sl false 3 [],.mp [] [],.sl false 1 [Bl,BX]])
def HX:D:=.pptr (.agg [i64 3,i64 10,.sl false 6 [.agg [Ds,Ew,i64 0,i64 100,i64 50,.sl false 1 [.sl false 3 [.agg [A8,i64 14,.sl false 2 [.agg [Bl,CS]]]]]],.agg [Dt,FF,i64 4,i64 100,i64 60,.sl false 1 [BC,.sl false 3 [.agg [A8,i64 27,.sl false 2 [.agg [BX,CS]]]]]]],.sl false 4 [.agg [Bl,A8,i64 20,i64 0],.agg [BX,A8,i64 40,i64 10]],.sl false 6 [.agg [Gf,A8,.prim (.bool false),i64 90,.prim (.bool false),.sl false 3 [.agg [A8,i64 6,.sl false 2 [.agg [Bl,CS]]],.agg [A8,i64 3,.sl false 2 [.agg [BX,CS]]]]]],.sl false 3 [.agg [Kc,A8,i64 50]],.mp [] [],BC])
def Sz:D:=.pptr (.agg [i64 3,i64 11,.sl false 6 [.agg [Ds,Ew,i64 0,i64 100,i64 50,.sl false 1 [.sl false 3 [.agg [A8,i64 14,.sl false 2 [.agg [Bl,CS]]],.agg [A8,i64 19,.sl false 2 [.agg [BX,CS]]]]]],.agg [Dt,FF,i64 4,i64 100,i64 60,.sl false 1 [BC,.sl false 3 [.agg [A8,i64 7,.sl false 2 [.agg [BX,CS]]]]]]],.sl false 4 [.agg [Bl,A8,i64 20,i64 0],.agg [BX,A8,i64 40,i64 10]],.sl false 6 [.agg [Gf,A8,.prim (.bool false),i64 90,.prim (.bool false),.sl false 3 [.agg [A8,i64 6,.sl false 2 [.agg [Bl,CS]]],.agg [A8,i64 3,.sl false 2 [.agg [BX,CS]]]]]],.sl false 3 [.agg [Kc,A8,i64 50]],.mp [BX] [.agg [i64 1,BC,i64 1,BC]],.sl false 1 [BX]])
def TT:D:=.pptr (.agg [i64 3,i64 11,.sl false 6 [.agg [Ds,Ew,i64 0,i64 100,i64 50,.sl false 1 [.sl false 3 [.agg [A8,i64 14,.sl false 2 [.agg [Bl,CS]]]]]],.agg [Dt,FF,i64 4,i64 100,i64 60,.sl false 1 [BC,.sl false 3 [.agg [A8,i64 26,.sl false 2 [.agg [BX,CS]]]]]]],.sl false 4 [.agg [Bl,A8,i64 20,i64 0],.agg [BX,A8,i64 40,i64 10]],.sl false 6 [.agg [Gf,A8,.prim (.bool false),i64 90,.prim (.bool false),.sl false 3 [.agg [A8,i64 6,.sl false 2 [.agg [Bl,CS]]],.agg [A8,i64 4,.sl false 2 [.agg [BX,CS]]]]]],.sl false 3 [.agg [Kc,A8,i64 50]],.mp [] [],.sl false 1 [BX]])
theorem Tu:Af C0 42 [TS,SY] (.tup [M7,i64 0]):=DW (DE DK DA) 1000 40 (by kernel_rfl)
theorem Tv:Af C0 42 [M7,SZ] (.tup [M8,i64 0]):=DW (DE DK DA) 1000 40 (by kernel_rfl)
theorem Tw:Af C0 42 [M8,Sa] (.tup [M9,i64 0]):=DW (DE DK DA) 1000 40 (by kernel_rfl)
theorem Tx:Af C0 42 [M9,Sb] (.tup [NA,i64 0]):=DW (DE DK DA) 1000 40 (by kernel_rfl)
theorem Ty:Af C0 42 [NA,Sc] (.tup [NB,i64 0]):=DW (DE DK DA) 1000 40 (by kernel_rfl)
theorem Tz:Af C0 42 [NB,Sd] (.tup [NC,i64 0]):=DW (DE DK DA) 1000 40 (by kernel_rfl)
theorem T1:Af C0 42 [NC,Se] (.tup [ND,i64 0]):=DW (DE DK DA) 1000 40 (by kernel_rfl)
theorem aV:Af C0 42 [Jn,RK] (.tup [.prim (.pointer none),i64 28]):=DW (DE DK DA) 1000 40 (by kernel_rfl)
end Go.Ide
