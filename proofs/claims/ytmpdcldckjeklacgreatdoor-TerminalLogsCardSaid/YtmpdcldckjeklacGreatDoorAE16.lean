/- The layer of own lemmas and contracts, part 16. -/
import Derived.Test.YtmpdcldckjeklacGreatDoorAE7
set_option linter.unusedVariables false
set_option linter.unusedSimpArgs false
namespace Go.Ide
open Go.Proofs Go.RowKit
set_option maxRecDepth 100000
def Ch:D:=.prim (.string ⟨#[49]⟩)
def K7:D:=.prim (.string ⟨#[97,110,110]⟩)
def RV:D:=.prim (.string ⟨#[97,114,114,105,118,101]⟩)
def Ta:D:=.prim (.string ⟨#[98,105,110]⟩)
def By:D:=.prim (.string ⟨#[98,108,117,101]⟩)
def fJ:D:=.prim (.string ⟨#[100,114,121]⟩)
def EB:D:=.prim (.string ⟨#[101,97,115,116]⟩)
def Fi:D:=.prim (.string ⟨#[102,117,110,110,101,108]⟩)
def R1:D:=.prim (.string ⟨#[105,115,115,117,101]⟩)
def O6:D:=.prim (.string ⟨#[108,111,97,100]⟩)
def FO:D:=.prim (.string ⟨#[109,97,115,115]⟩)
def dg:D:=.prim (.string ⟨#[109,111,118,101]⟩)
def G7:D:=.prim (.string ⟨#[111,115,108,111]⟩)
def Bm:D:=.prim (.string ⟨#[114,101,100]⟩)
def dh:D:=.prim (.string ⟨#[115,104,105,112]⟩)
def R2:D:=.prim (.string ⟨#[115,116,111,114,101]⟩)
def EC:D:=.prim (.string ⟨#[119,101,115,116]⟩)
def BE:D:=.prim (.string ⟨#[119,104,101,97,116]⟩)
def Ti:D:=.agg [i64 1,i64 3,Ta,.sl true 1 [EB,FO],.sl true 1 [i64 1,i64 0,i64 100,i64 50]]
def Tj:D:=.agg [i64 2,i64 3,Ta,.sl true 1 [EC,Fi],.sl true 1 [i64 2,i64 4,i64 100,i64 60]]
def Tk:D:=.agg [i64 3,i64 3,RV,.sl true 1 [Bm,BE],.sl true 1 [i64 40]]
def Tl:D:=.agg [i64 4,i64 3,RV,.sl true 1 [By,BE],.sl true 1 [i64 20]]
def Tm:D:=.agg [i64 5,i64 3,R2,.sl true 1 [Bm,EB],.sl true 1 [i64 0,i64 30]]
def Tn:D:=.agg [i64 6,i64 3,R2,.sl true 1 [By,EB],.sl true 1 [i64 0,i64 20]]
def To:D:=.agg [i64 7,i64 3,dg,.sl true 1 [EB,EC],.sl true 1 [i64 0,i64 1,i64 36]]
def Tp:D:=.agg [i64 8,i64 3,dh,.sl true 1 [G7,BE],.sl true 1 [i64 90]]
def Tq:D:=.agg [i64 9,i64 3,O6,.sl true 1 [G7,EC],.sl true 1 [i64 1,i64 9]]
def S6:D:=.agg [i64 10,i64 3,R1,.sl true 1 [K7,BE],.sl true 1 [i64 50]]
def S7:D:=.agg [i64 11,i64 3,fJ,.sl true 1 [EC,EB],.sl true 1 [i64 1,i64 0,i64 20,i64 19]]
def SN:D:=.agg [i64 10,i64 3,R1,.sl true 1 [K7,BE],.sl true 1 [i64 52]]
def SO:D:=.agg [i64 11,i64 3,O6,.sl true 1 [G7,EC],.sl true 1 [i64 1,i64 2]]
def SP:D:=.agg [i64 11,i64 3,O6,.sl true 1 [G7,EC],.sl true 1 [i64 1,i64 1]]
def UZ:D:=.pptr (.agg [i64 0,i64 0,BA,BA,BA,BA,.mp [] [],BA])
def Nh:D:=.pptr (.agg [i64 3,i64 1,.sl false 6 [.agg [EB,FO,i64 0,i64 100,i64 50,.sl true 1 [BA]]],.sl false 4 [],.sl false 6 [],.sl false 3 [],.mp [] [],BA])
def Ni:D:=.pptr (.agg [i64 3,i64 2,.sl false 6 [.agg [EB,FO,i64 0,i64 100,i64 50,.sl true 1 [BA]],.agg [EC,Fi,i64 4,i64 100,i64 60,.sl true 1 [BA,BA]]],.sl false 4 [],.sl false 6 [],.sl false 3 [],.mp [] [],BA])
def Nj:D:=.pptr (.agg [i64 3,i64 3,.sl false 6 [.agg [EB,FO,i64 0,i64 100,i64 50,.sl true 1 [BA]],.agg [EC,Fi,i64 4,i64 100,i64 60,.sl true 1 [BA,BA]]],.sl false 4 [.agg [Bm,BE,i64 40,i64 40]],.sl false 6 [],.sl false 3 [],.mp [] [],.sl true 1 [Bm]])
def Nk:D:=.pptr (.agg [i64 3,i64 4,.sl false 6 [.agg [EB,FO,i64 0,i64 100,i64 50,.sl true 1 [BA]],.agg [EC,Fi,i64 4,i64 100,i64 60,.sl true 1 [BA,BA]]],.sl false 4 [.agg [By,BE,i64 20,i64 20],.agg [Bm,BE,i64 40,i64 40]],.sl false 6 [],.sl false 3 [],.mp [] [],.sl true 1 [By]])
def Nl:D:=.pptr (.agg [i64 3,i64 5,.sl false 6 [.agg [EB,FO,i64 0,i64 100,i64 50,.sl false 1 [.sl false 3 [.agg [BE,i64 30,.sl false 2 [.agg [Bm,Ch]]]]]],.agg [EC,Fi,i64 4,i64 100,i64 60,.sl true 1 [BA,BA]]],.sl false 4 [.agg [By,BE,i64 20,i64 20],.agg [Bm,BE,i64 40,i64 10]],.sl false 6 [],.sl false 3 [],.mp [] [],.sl true 1 [Bm]])
def Nm:D:=.pptr (.agg [i64 3,i64 6,.sl false 6 [.agg [EB,FO,i64 0,i64 100,i64 50,.sl false 1 [.sl false 3 [.agg [BE,i64 30,.sl false 2 [.agg [Bm,Ch]]],.agg [BE,i64 20,.sl false 2 [.agg [By,Ch]]]]]],.agg [EC,Fi,i64 4,i64 100,i64 60,.sl true 1 [BA,BA]]],.sl false 4 [.agg [By,BE,i64 20,i64 0],.agg [Bm,BE,i64 40,i64 10]],.sl false 6 [],.sl false 3 [],.mp [] [],.sl true 1 [By]])
def Nn:D:=.pptr (.agg [i64 3,i64 7,.sl false 6 [.agg [EB,FO,i64 0,i64 100,i64 50,.sl false 1 [.sl false 3 [.agg [BE,i64 14,.sl false 2 [.agg [By,Ch]]]]]],.agg [EC,Fi,i64 4,i64 100,i64 60,.sl false 1 [BA,.sl false 3 [.agg [BE,i64 30,.sl false 2 [.agg [Bm,Ch]]],.agg [BE,i64 6,.sl false 2 [.agg [By,Ch]]]]]]],.sl false 4 [.agg [By,BE,i64 20,i64 0],.agg [Bm,BE,i64 40,i64 10]],.sl false 6 [],.sl false 3 [],.mp [] [],.sl false 1 [Bm,By]])
def No:D:=.pptr (.agg [i64 3,i64 8,.sl false 6 [.agg [EB,FO,i64 0,i64 100,i64 50,.sl false 1 [.sl false 3 [.agg [BE,i64 14,.sl false 2 [.agg [By,Ch]]]]]],.agg [EC,Fi,i64 4,i64 100,i64 60,.sl false 1 [BA,.sl false 3 [.agg [BE,i64 30,.sl false 2 [.agg [Bm,Ch]]],.agg [BE,i64 6,.sl false 2 [.agg [By,Ch]]]]]]],.sl false 4 [.agg [By,BE,i64 20,i64 0],.agg [Bm,BE,i64 40,i64 10]],.sl false 6 [.agg [G7,BE,.prim (.bool false),i64 90,.prim (.bool false),BA]],.sl false 3 [],.mp [] [],BA])
def KF:D:=.pptr (.agg [i64 3,i64 9,.sl false 6 [.agg [EB,FO,i64 0,i64 100,i64 50,.sl false 1 [.sl false 3 [.agg [BE,i64 14,.sl false 2 [.agg [By,Ch]]]]]],.agg [EC,Fi,i64 4,i64 100,i64 60,.sl false 1 [BA,.sl false 3 [.agg [BE,i64 27,.sl false 2 [.agg [Bm,Ch]]]]]]],.sl false 4 [.agg [By,BE,i64 20,i64 0],.agg [Bm,BE,i64 40,i64 10]],.sl false 6 [.agg [G7,BE,.prim (.bool false),i64 90,.prim (.bool false),.sl false 3 [.agg [BE,i64 6,.sl false 2 [.agg [By,Ch]]],.agg [BE,i64 3,.sl false 2 [.agg [Bm,Ch]]]]]],.sl false 3 [],.mp [] [],.sl false 1 [By,Bm]])
def Hv:D:=.pptr (.agg [i64 3,i64 10,.sl false 6 [.agg [EB,FO,i64 0,i64 100,i64 50,.sl false 1 [.sl false 3 [.agg [BE,i64 14,.sl false 2 [.agg [By,Ch]]]]]],.agg [EC,Fi,i64 4,i64 100,i64 60,.sl false 1 [BA,.sl false 3 [.agg [BE,i64 27,.sl false 2 [.agg [Bm,Ch]]]]]]],.sl false 4 [.agg [By,BE,i64 20,i64 0],.agg [Bm,BE,i64 40,i64 10]],.sl false 6 [.agg [G7,BE,.prim (.bool false),i64 90,.prim (.bool false),.sl false 3 [.agg [BE,i64 6,.sl false 2 [.agg [By,Ch]]],.agg [BE,i64 3,.sl false 2 [.agg [Bm,Ch]]]]]],.sl false 3 [.agg [K7,BE,i64 50]],.mp [] [],BA])
def T9:D:=.pptr (.agg [i64 3,i64 11,.sl false 6 [.agg [EB,FO,i64 0,i64 100,i64 50,.sl false 1 [.sl false 3 [.agg [BE,i64 14,.sl false 2 [.agg [By,Ch]]],.agg [BE,i64 19,.sl false 2 [.agg [Bm,Ch]]]]]],.agg [EC,Fi,i64 4,i64 100,i64 60,.sl false 1 [BA,.sl false 3 [.agg [BE,i64 7,.sl false 2 [.agg [Bm,Ch]]]]]]],.sl false 4 [.agg [By,BE,i64 20,i64 0],.agg [Bm,BE,i64 40,i64 10]],.sl false 6 [.agg [G7,BE,.prim (.bool false),i64 90,.prim (.bool false),.sl false 3 [.agg [BE,i64 6,.sl false 2 [.agg [By,Ch]]],.agg [BE,i64 3,.sl false 2 [.agg [Bm,Ch]]]]]],.sl false 3 [.agg [K7,BE,i64 50]],.mp [Bm] [.agg [i64 1,BA,i64 1,BA]],.sl false 1 [Bm]])
def Ua:D:=.pptr (.agg [i64 3,i64 11,.sl false 6 [.agg [EB,FO,i64 0,i64 100,i64 50,.sl false 1 [.sl false 3 [.agg [BE,i64 14,.sl false 2 [.agg [By,Ch]]]]]],.agg [EC,Fi,i64 4,i64 100,i64 60,.sl false 1 [BA,.sl false 3 [.agg [BE,i64 26,.sl false 2 [.agg [Bm,Ch]]]]]]],.sl false 4 [.agg [By,BE,i64 20,i64 0],.agg [Bm,BE,i64 40,i64 10]],.sl false 6 [.agg [G7,BE,.prim (.bool false),i64 90,.prim (.bool false),.sl false 3 [.agg [BE,i64 6,.sl false 2 [.agg [By,Ch]]],.agg [BE,i64 4,.sl false 2 [.agg [Bm,Ch]]]]]],.sl false 3 [.agg [K7,BE,i64 50]],.mp [] [],.sl false 1 [Bm]])
theorem U0:Aa C0 43 [UZ,Ti] (.tup [Nh,i64 0]):=Dq (Da Dg DY) 1000 40 (by kernel_rfl)
theorem U1:Aa C0 43 [Nh,Tj] (.tup [Ni,i64 0]):=Dq (Da Dg DY) 1000 40 (by kernel_rfl)
theorem U2:Aa C0 43 [Ni,Tk] (.tup [Nj,i64 0]):=Dq (Da Dg DY) 1000 40 (by kernel_rfl)
theorem U3:Aa C0 43 [Nj,Tl] (.tup [Nk,i64 0]):=Dq (Da Dg DY) 1000 40 (by kernel_rfl)
theorem U4:Aa C0 43 [Nk,Tm] (.tup [Nl,i64 0]):=Dq (Da Dg DY) 1000 40 (by kernel_rfl)
theorem U5:Aa C0 43 [Nl,Tn] (.tup [Nm,i64 0]):=Dq (Da Dg DY) 1000 40 (by kernel_rfl)
theorem U6:Aa C0 43 [Nm,To] (.tup [Nn,i64 0]):=Dq (Da Dg DY) 1000 40 (by kernel_rfl)
theorem dR:Aa C0 43 [KF,SN] (.tup [.prim (.pointer none),i64 28]):=Dq (Da Dg DY) 1000 40 (by kernel_rfl)
end Go.Ide
