import Derived.LaidLaws
import Derived.Lib.LaidTab
import Derived.ChangeArms
import Derived.DataReads
import Derived.OpenShut
import Derived.ChangeSame
import Derived.Test.YtafekjglclnegaaGreatDoorRows
import Derived.Test.YtafekjglclnegaaGreatDoorP31
set_option linter.all false
section
namespace Go.Ev
open Go Go.Proofs
set_option maxRecDepth 100000
def LH:List AV×AV:=([dA [48,48,48,48] 0 0 [48,50] []],iA 0)
theorem Xe:dn tab gk 10000 113 LH.1 LH.2=true:=by kernel_rfl
def K7:List AV×AV:=([.agg [.bool false,.bool false,.str [48,48,48,48],iA 0,iA 0]],.tuple [iA 0,iA 0])
theorem Wu:dn tab gk 10000 148 K7.1 K7.2=true:=by kernel_rfl
def LU:List AV×AV:=([iA 0,iA 2],.tuple [iA 31,iA 0])
theorem Uy:dn tab gk 10000 277 LU.1 LU.2=true:=by kernel_rfl
def NP:List AV×AV:=([dA [48,48,48,88] 0 0 [] []],.bool true)
theorem Vh:dn tab gk 10000 173 NP.1 NP.2=true:=by kernel_rfl
def MK:List AV×AV:=([dA [48,48,48,50] 0 3 [] []],.bool true)
theorem UC:dn tab gk 10000 173 MK.1 MK.2=true:=by kernel_rfl
def KD:List AV×AV:=([.agg [.bool false,.bool false,.str [48,48,48,50],iA 0,iA 3]],.tuple [iA 2,iA 0])
theorem Uj:dn tab gk 10000 148 KD.1 KD.2=true:=by kernel_rfl
def Nn:List AV×AV:=([iA 0,.int .u8 1],.tuple [rA 0 0 0 365,iA 0])
theorem XG:dn tab gk 10000 94 Nn.1 Nn.2=true:=by kernel_rfl
def KN:List AV×AV:=([iA 9,.int .u8 1],.tuple [rA 0 3288 0 3652,iA 0])
theorem Xc:dn tab gk 10000 94 KN.1 KN.2=true:=by kernel_rfl
def MP:List AV×AV:=([dA [48,48,48,48] 0 0 [] []],.bool true)
theorem W8:dn tab gk 10000 173 MP.1 MP.2=true:=by kernel_rfl
def NV:List AV×AV:=([dA [48,48,48,49] 0 0 [48,49] []],iA 0)
theorem Xp:dn tab gk 10000 113 NV.1 NV.2=true:=by kernel_rfl
def DF:List AV×AV:=([.agg [.bool false,.bool false,.str [48,48,48,49],iA 0,iA 0]],.tuple [iA 1,iA 0])
theorem R9:dn tab gk 10000 148 DF.1 DF.2=true:=by kernel_rfl
def E1:List AV×AV:=([iA 1,iA 1],.tuple [iA 396,iA 0])
theorem Si:dn tab gk 10000 278 E1.1 E1.2=true:=by kernel_rfl
def FE:List AV×AV:=([dA [48,48,48,48] 0 0 [] [],.agg [iA 0,iA 0,iA 0]],.tuple [rA 0 0 0 365,iA 0])
theorem P3:dn tab gk 10000 155 FE.1 FE.2=true:=by kernel_rfl
def GA:List AV×AV:=([dA [48,48,48,48] 0 0 [48,49] []],iA 0)
theorem OA:dn tab gk 10000 113 GA.1 GA.2=true:=by kernel_rfl
def GW:List AV×AV:=([dA [48,48,48,48] 0 0 [48,51] []],iA 0)
theorem QQ:dn tab gk 10000 113 GW.1 GW.2=true:=by kernel_rfl
def GC:List AV×AV:=([dA [48,48,48,48] 0 0 [48,52] []],iA 0)
theorem SY:dn tab gk 10000 113 GC.1 GC.2=true:=by kernel_rfl
def Ey:List AV×AV:=([iA 0,iA 3],.tuple [iA 60,iA 0])
theorem PP:dn tab gk 10000 277 Ey.1 Ey.2=true:=by kernel_rfl
def Fe:List AV×AV:=([iA 0,iA 4],.tuple [iA 91,iA 0])
theorem Sl:dn tab gk 10000 277 Fe.1 Fe.2=true:=by kernel_rfl
def Dg:List AV×AV:=([iA 0,iA 1],.tuple [iA 30,iA 0])
theorem PU:dn tab gk 10000 278 Dg.1 Dg.2=true:=by kernel_rfl
def GY:List AV×AV:=([dA [48,48,48,48] 0 0 [48,50] [48,49]],iA 0)
theorem OB:dn tab gk 10000 113 GY.1 GY.2=true:=by kernel_rfl
def DY:List AV×AV:=([dA [48,48,48,48] 0 0 [48,50] [48,57]],iA 0)
theorem QL:dn tab gk 10000 113 DY.1 DY.2=true:=by kernel_rfl
def Gw:List AV×AV:=([rA 0 0 0 30,rA 0 31 0 39],.bool true)
theorem Sf:dn tab gk 10000 112 Gw.1 Gw.2=true:=by kernel_rfl
def Do:List AV×AV:=([rA 0 0 0 39,rA 0 60 0 90],.bool false)
theorem Pt:dn tab gk 10000 112 Do.1 Do.2=true:=by kernel_rfl
def EP:List AV×AV:=([iA 0],.tuple [iA 0,iA 0])
theorem Sv:dn tab gk 10000 214 EP.1 EP.2=true:=by kernel_rfl
def D9:List AV×AV:=([iA 31],.tuple [iA 0,iA 0])
theorem QE:dn tab gk 10000 214 D9.1 D9.2=true:=by kernel_rfl
noncomputable def Kk:rf:=(.node none (.node none (.node none .nil (.node none .nil (.node none .nil (.node none (.node none (.node (some [FE]) .nil .nil) .nil) .nil)))) (.node none (.node none (.node none .nil (.node none .nil (.node (some [LH,NV,GA,GW,GC,GY,DY]) .nil .nil))) .nil) (.node none (.node none .nil (.node none (.node none (.node none (.node (some [LU,Ey,Fe]) .nil .nil) .nil) .nil) .nil)) (.node none (.node none .nil (.node none (.node (some [NP,MK,MP]) .nil .nil) .nil)) .nil)))) (.node none (.node none (.node none (.node none .nil (.node none .nil (.node (some [Gw,Do]) .nil .nil))) .nil) (.node none (.node none .nil (.node none (.node none (.node (some [K7,KD,DF]) .nil .nil) .nil) .nil)) .nil)) (.node none .nil (.node none (.node none .nil (.node none (.node none (.node none (.node (some [E1,Dg]) .nil .nil) .nil) (.node (some [EP,D9]) .nil .nil)) .nil)) (.node none .nil (.node none (.node (some [Nn,KN]) .nil .nil) .nil))))))
noncomputable def ib:cx:=q8 gk Kk
theorem D4(g:fV Tryz.prog tab gk):i6 (λf l=>∀e∈l,ey Tryz.prog gk f e.1 e.2) (λi=>i) Kk:=⟨ai,⟨ai,⟨ai,trivial,⟨ai,trivial,⟨ai,trivial,⟨ai,⟨ai,⟨(a_ (ao (g.fact 10000 P3) bh)),trivial,trivial⟩,trivial⟩,trivial⟩⟩⟩⟩,⟨ai,⟨ai,⟨ai,trivial,⟨ai,trivial,⟨(a_ (ao (g.fact 10000 Xe) (ao (g.fact 10000 Xp) (ao (g.fact 10000 OA) (ao (g.fact 10000 QQ) (ao (g.fact 10000 SY) (ao (g.fact 10000 OB) (ao (g.fact 10000 QL) bh)))))))),trivial,trivial⟩⟩⟩,trivial⟩,⟨ai,⟨ai,trivial,⟨ai,⟨ai,⟨ai,⟨(a_ (ao (g.fact 10000 Uy) (ao (g.fact 10000 PP) (ao (g.fact 10000 Sl) bh)))),trivial,trivial⟩,trivial⟩,trivial⟩,trivial⟩⟩,⟨ai,⟨ai,trivial,⟨ai,⟨(a_ (ao (g.fact 10000 Vh) (ao (g.fact 10000 UC) (ao (g.fact 10000 W8) bh)))),trivial,trivial⟩,trivial⟩⟩,trivial⟩⟩⟩⟩,⟨ai,⟨ai,⟨ai,⟨ai,trivial,⟨ai,trivial,⟨(a_ (ao (g.fact 10000 Sf) (ao (g.fact 10000 Pt) bh))),trivial,trivial⟩⟩⟩,trivial⟩,⟨ai,⟨ai,trivial,⟨ai,⟨ai,⟨(a_ (ao (g.fact 10000 Wu) (ao (g.fact 10000 Uj) (ao (g.fact 10000 R9) bh)))),trivial,trivial⟩,trivial⟩,trivial⟩⟩,trivial⟩⟩,⟨ai,trivial,⟨ai,⟨ai,trivial,⟨ai,⟨ai,⟨ai,⟨(a_ (ao (g.fact 10000 Si) (ao (g.fact 10000 PU) bh))),trivial,trivial⟩,trivial⟩,⟨(a_ (ao (g.fact 10000 Sv) (ao (g.fact 10000 QE) bh))),trivial,trivial⟩⟩,trivial⟩⟩,⟨ai,trivial,⟨ai,⟨(a_ (ao (g.fact 10000 XG) (ao (g.fact 10000 Xc) bh))),trivial,trivial⟩,trivial⟩⟩⟩⟩⟩⟩
theorem RH(g:fV Tryz.prog tab gk):fV Tryz.prog tab ib:=g.memo λf l h=>(D4 g).get f l h
def Le:List AV×AV:=([.agg [.bool false,.bool false,.str [48,48,48,48],iA 0,iA 0]],.tuple [iA 0,iA 0])
theorem Wx:dn tab ib 10000 154 Le.1 Le.2=true:=by kernel_rfl
def LS:List AV×AV:=([iA 1],.tuple [iA 31,iA 59,iA 0])
theorem VF:dn tab ib 10000 218 LS.1 LS.2=true:=by kernel_rfl
def Ml:List AV×AV:=([dA [48,48,48,88] 0 0 [] []],iA 0)
theorem VO:dn tab ib 10000 113 Ml.1 Ml.2=true:=by kernel_rfl
def NG:List AV×AV:=([dA [48,48,48,50] 0 3 [] []],iA 0)
theorem XJ:dn tab ib 10000 113 NG.1 NG.2=true:=by kernel_rfl
def KX:List AV×AV:=([.agg [.bool false,.bool false,.str [48,48,48,50],iA 0,iA 3]],.tuple [iA 0,iA 9,iA 0])
theorem VG:dn tab ib 10000 93 KX.1 KX.2=true:=by kernel_rfl
def KA:List AV×AV:=([dA [48,48,48,48] 0 0 [] []],iA 0)
theorem Uc:dn tab ib 10000 113 KA.1 KA.2=true:=by kernel_rfl
def MW:List AV×AV:=([.agg [.bool false,.bool false,.str [48,48,48,49],iA 0,iA 0]],.tuple [iA 1,iA 0])
theorem UU:dn tab ib 10000 154 MW.1 MW.2=true:=by kernel_rfl
def NZ:List AV×AV:=([iA 12],.tuple [iA 366,iA 396,iA 0])
theorem Ul:dn tab ib 10000 218 NZ.1 NZ.2=true:=by kernel_rfl
def Lz:List AV×AV:=([.agg [.int .u8 1,.bool false,.bool false,.str [48,48,48,48],iA 0,iA 0,.str [48,50],.str [],.int .u8 0,.int .u8 0,.int .u8 0],.agg [.int .u8 3,.bool false,.bool false,.str [],iA 0,iA 0,.str [],.str [],.int .u8 0,.int .u8 0,.int .u8 0]],iA 0)
theorem Xz:dn tab ib 10000 141 Lz.1 Lz.2=true:=by kernel_rfl
def LD:List AV×AV:=([dA [48,48,48,48] 0 0 [48,51] []],.bool true)
theorem VZ:dn tab ib 10000 248 LD.1 LD.2=true:=by kernel_rfl
def FU:List AV×AV:=([dA [48,48,48,48] 0 0 [48,52] []],.bool true)
theorem Rt:dn tab ib 10000 248 FU.1 FU.2=true:=by kernel_rfl
def FM:List AV×AV:=([iA 0],.tuple [iA 0,iA 30,iA 0])
theorem OS:dn tab ib 10000 218 FM.1 FM.2=true:=by kernel_rfl
def Dw:List AV×AV:=([dA [48,48,48,48] 0 0 [48,51] []],.tuple [.int .u8 2,iA 0])
theorem Pz:dn tab ib 10000 47 Dw.1 Dw.2=true:=by kernel_rfl
def Gb:List AV×AV:=([iA 2],.tuple [iA 60,iA 90,iA 0])
theorem Sw:dn tab ib 10000 218 Gb.1 Gb.2=true:=by kernel_rfl
def DO:List AV×AV:=([iA 3],.tuple [iA 91,iA 120,iA 0])
theorem Q_:dn tab ib 10000 218 DO.1 DO.2=true:=by kernel_rfl
def G0:List AV×AV:=([.agg [.bool false,.bool false,.str [48,48,48,48],iA 0,iA 0,.str [48,49],.str [],.int .u8 0,.int .u8 0,.int .u8 0,.bool false,.bool false,.bool false,.str [],iA 0,iA 0,.str [],.str [],.int .u8 0,.int .u8 0,.int .u8 0],.int .u8 4],iA 0)
theorem SE:dn tab ib 10000 199 G0.1 G0.2=true:=by kernel_rfl
def Fv:List AV×AV:=([.agg [.bool false,.bool false,.str [48,48,48,48],iA 0,iA 0,.str [48,51],.str [],.int .u8 0,.int .u8 0,.int .u8 0,.bool false,.bool false,.bool false,.str [],iA 0,iA 0,.str [],.str [],.int .u8 0,.int .u8 0,.int .u8 0],.int .u8 4],iA 0)
theorem R0:dn tab ib 10000 199 Fv.1 Fv.2=true:=by kernel_rfl
def Dx:List AV×AV:=([.agg [iA 0,iA 2,iA 1]],.tuple [iA 31,iA 0])
theorem Se:dn tab ib 10000 309 Dx.1 Dx.2=true:=by kernel_rfl
def EI:List AV×AV:=([.agg [iA 0,iA 2,iA 9]],.tuple [iA 39,iA 0])
theorem OX:dn tab ib 10000 309 EI.1 EI.2=true:=by kernel_rfl
def FB:List AV×AV:=([iA 0],.tuple [iA 0,iA 1,iA 0])
theorem SS:dn tab ib 10000 217 FB.1 FB.2=true:=by kernel_rfl
def E_:List AV×AV:=([iA 31],.tuple [iA 0,iA 2,iA 0])
theorem RK:dn tab ib 10000 217 E_.1 E_.2=true:=by kernel_rfl
noncomputable def Kb:rf:=(.node none (.node none (.node none (.node none (.node none .nil (.node (some [Dw]) .nil .nil)) (.node none (.node none (.node none .nil (.node (some [G0,Fv]) .nil .nil)) .nil) .nil)) .nil) (.node none (.node none (.node none .nil (.node none .nil (.node (some [Ml,NG,KA]) .nil .nil))) (.node none .nil (.node none (.node none .nil (.node (some [FB,E_]) .nil .nil)) .nil))) (.node none (.node none .nil (.node none .nil (.node none (.node none (.node (some [Dx,EI]) .nil .nil) .nil) .nil))) (.node none (.node none (.node none (.node (some [Lz]) .nil .nil) .nil) .nil) (.node none (.node (some [KX]) .nil .nil) .nil))))) (.node none (.node none (.node none .nil (.node none .nil (.node none .nil (.node none .nil (.node (some [LD,FU]) .nil .nil))))) .nil) (.node none (.node none .nil (.node none .nil (.node none (.node none (.node (some [Le,MW]) .nil .nil) (.node (some [LS,NZ,FM,Gb,DO]) .nil .nil)) .nil))) .nil)))
noncomputable def jQ:cx:=q8 ib Kb
theorem Gn(g:fV Tryz.prog tab ib):i6 (λf l=>∀e∈l,ey Tryz.prog ib f e.1 e.2) (λi=>i) Kb:=⟨ai,⟨ai,⟨ai,⟨ai,⟨ai,trivial,⟨(a_ (ao (g.fact 10000 Pz) bh)),trivial,trivial⟩⟩,⟨ai,⟨ai,⟨ai,trivial,⟨(a_ (ao (g.fact 10000 SE) (ao (g.fact 10000 R0) bh))),trivial,trivial⟩⟩,trivial⟩,trivial⟩⟩,trivial⟩,⟨ai,⟨ai,⟨ai,trivial,⟨ai,trivial,⟨(a_ (ao (g.fact 10000 VO) (ao (g.fact 10000 XJ) (ao (g.fact 10000 Uc) bh)))),trivial,trivial⟩⟩⟩,⟨ai,trivial,⟨ai,⟨ai,trivial,⟨(a_ (ao (g.fact 10000 SS) (ao (g.fact 10000 RK) bh))),trivial,trivial⟩⟩,trivial⟩⟩⟩,⟨ai,⟨ai,trivial,⟨ai,trivial,⟨ai,⟨ai,⟨(a_ (ao (g.fact 10000 Se) (ao (g.fact 10000 OX) bh))),trivial,trivial⟩,trivial⟩,trivial⟩⟩⟩,⟨ai,⟨ai,⟨ai,⟨(a_ (ao (g.fact 10000 Xz) bh)),trivial,trivial⟩,trivial⟩,trivial⟩,⟨ai,⟨(a_ (ao (g.fact 10000 VG) bh)),trivial,trivial⟩,trivial⟩⟩⟩⟩⟩,⟨ai,⟨ai,⟨ai,trivial,⟨ai,trivial,⟨ai,trivial,⟨ai,trivial,⟨(a_ (ao (g.fact 10000 VZ) (ao (g.fact 10000 Rt) bh))),trivial,trivial⟩⟩⟩⟩⟩,trivial⟩,⟨ai,⟨ai,trivial,⟨ai,trivial,⟨ai,⟨ai,⟨(a_ (ao (g.fact 10000 Wx) (ao (g.fact 10000 UU) bh))),trivial,trivial⟩,⟨(a_ (ao (g.fact 10000 VF) (ao (g.fact 10000 Ul) (ao (g.fact 10000 OS) (ao (g.fact 10000 Sw) (ao (g.fact 10000 Q_) bh)))))),trivial,trivial⟩⟩,trivial⟩⟩⟩,trivial⟩⟩⟩
theorem R_(g:fV Tryz.prog tab ib):fV Tryz.prog tab jQ:=g.memo λf l h=>(Gn g).get f l h
def LB:List AV×AV:=([dA [48,48,48,48] 0 0 [48,50] []],.tuple [rA 0 31 0 59,iA 0])
theorem Xo:dn tab jQ 10000 95 LB.1 LB.2=true:=by kernel_rfl
def OU:List AV×AV:=([dA [48,48,48,48] 0 0 [] []],.tuple [rA 0 0 0 365,iA 0])
theorem We:dn tab jQ 10000 197 OU.1 OU.2=true:=by kernel_rfl
def Pl:List AV×AV:=([dA [48,48,48,49] 0 0 [48,49] []],.tuple [rA 0 366 0 396,iA 0])
theorem Xn:dn tab jQ 10000 197 Pl.1 Pl.2=true:=by kernel_rfl
def HJ:List AV×AV:=([dA [48,48,48,48] 0 0 [] []],.tuple [rA 0 0 0 365,iA 0])
theorem Xs:dn tab jQ 10000 95 HJ.1 HJ.2=true:=by kernel_rfl
def Jd:List AV×AV:=([dA [48,48,48,49] 0 0 [48,49] []],.tuple [rA 0 366 0 396,iA 0])
theorem Vc:dn tab jQ 10000 95 Jd.1 Jd.2=true:=by kernel_rfl
def MR:List AV×AV:=([.agg [.int .u8 2,.bool false,.bool false,.str [],iA 0,iA 0,.str [],.str [],.int .u8 0,.int .u8 0,.int .u8 0],.agg [.int .u8 1,.bool false,.bool false,.str [48,48,48,48],iA 0,iA 0,.str [],.str [],.int .u8 0,.int .u8 0,.int .u8 0]],iA 0)
theorem VX:dn tab jQ 10000 141 MR.1 MR.2=true:=by kernel_rfl
def SQ:List AV×AV:=([dA [48,48,48,48] 0 0 [48,51] []],.tuple [rA 0 60 0 90,iA 0])
theorem Wp:dn tab jQ 10000 197 SQ.1 SQ.2=true:=by kernel_rfl
def PM:List AV×AV:=([dA [48,48,48,48] 0 0 [48,52] []],.tuple [rA 0 91 0 120,iA 0])
theorem Vi:dn tab jQ 10000 197 PM.1 PM.2=true:=by kernel_rfl
def KZ:List AV×AV:=([dA [48,48,48,48] 0 0 [48,49] []],.tuple [rA 0 0 0 30,iA 0])
theorem Wz:dn tab jQ 10000 95 KZ.1 KZ.2=true:=by kernel_rfl
def Hu:List AV×AV:=([dA [48,48,48,48] 0 0 [48,51] []],.tuple [rA 0 60 0 90,iA 0])
theorem Ub:dn tab jQ 10000 95 Hu.1 Hu.2=true:=by kernel_rfl
def Bs:List AV×AV:=([dA [48,48,48,48] 0 0 [48,52] []],.tuple [rA 0 91 0 120,iA 0])
theorem Ri:dn tab jQ 10000 95 Bs.1 Bs.2=true:=by kernel_rfl
def C9:List AV×AV:=([.agg [.bool false,.bool false,.str [48,48,48,48],iA 0,iA 0,.str [],.str [],.int .u8 0,.int .u8 0,.int .u8 0,.bool false,.bool false,.bool false,.str [],iA 0,iA 0,.str [],.str [],.int .u8 0,.int .u8 0,.int .u8 0]],.bool true)
theorem PO:dn tab jQ 10000 202 C9.1 C9.2=true:=by kernel_rfl
def Gq:List AV×AV:=([dA [48,48,48,48] 0 0 [48,50] [48,49]],iA 0)
theorem PI:dn tab jQ 10000 59 Gq.1 Gq.2=true:=by kernel_rfl
def EX:List AV×AV:=([dA [48,48,48,48] 0 0 [48,50] [48,57]],iA 0)
theorem SA:dn tab jQ 10000 59 EX.1 EX.2=true:=by kernel_rfl
def EJ:List AV×AV:=([rA 0 0 0 31,.int .u8 2],.bool false)
theorem RB:dn tab jQ 10000 61 EJ.1 EJ.2=true:=by kernel_rfl
noncomputable def Kn:rf:=(.node none (.node none (.node none (.node none (.node none (.node none .nil (.node (some [LB,HJ,Jd,KZ,Hu,Bs]) .nil .nil)) .nil) .nil) (.node none .nil (.node none .nil (.node (some [Gq,EX]) .nil .nil)))) (.node none .nil (.node none (.node none (.node none (.node none .nil (.node (some [HJ,Jd,Hu,Bs]) .nil .nil)) .nil) .nil) (.node none (.node none (.node none (.node (some [MR]) .nil .nil) .nil) .nil) (.node (some [EJ]) .nil .nil))))) (.node none .nil (.node none (.node none .nil (.node none (.node none (.node none .nil (.node (some [C9]) .nil .nil)) .nil) .nil)) .nil)))
noncomputable def rW:cx:=q8 jQ Kn
theorem GS(g:fV Tryz.prog tab jQ):i6 (λf l=>∀e∈l,ey Tryz.prog jQ f e.1 e.2) (λi=>i) Kn:=⟨ai,⟨ai,⟨ai,⟨ai,⟨ai,⟨ai,trivial,⟨(a_ (ao (g.fact 10000 Xo) (ao (g.fact 10000 Xs) (ao (g.fact 10000 Vc) (ao (g.fact 10000 Wz) (ao (g.fact 10000 Ub) (ao (g.fact 10000 Ri) bh))))))),trivial,trivial⟩⟩,trivial⟩,trivial⟩,⟨ai,trivial,⟨ai,trivial,⟨(a_ (ao (g.fact 10000 PI) (ao (g.fact 10000 SA) bh))),trivial,trivial⟩⟩⟩⟩,⟨ai,trivial,⟨ai,⟨ai,⟨ai,⟨ai,trivial,⟨(a_ (ao (g.fact 10000 We) (ao (g.fact 10000 Xn) (ao (g.fact 10000 Wp) (ao (g.fact 10000 Vi) bh))))),trivial,trivial⟩⟩,trivial⟩,trivial⟩,⟨ai,⟨ai,⟨ai,⟨(a_ (ao (g.fact 10000 VX) bh)),trivial,trivial⟩,trivial⟩,trivial⟩,⟨(a_ (ao (g.fact 10000 RB) bh)),trivial,trivial⟩⟩⟩⟩⟩,⟨ai,trivial,⟨ai,⟨ai,trivial,⟨ai,⟨ai,⟨ai,trivial,⟨(a_ (ao (g.fact 10000 PO) bh)),trivial,trivial⟩⟩,trivial⟩,trivial⟩⟩,trivial⟩⟩⟩
theorem S_(g:fV Tryz.prog tab jQ):fV Tryz.prog tab rW:=g.memo λf l h=>(GS g).get f l h
def Mu:List AV×AV:=([.agg [.int .u8 1,.bool false,.bool false,.str [48,48,48,48],iA 0,iA 0,.str [],.str [],.int .u8 0,.int .u8 0,.int .u8 0],.agg [.int .u8 1,.bool false,.bool false,.str [48,48,48,49],iA 0,iA 0,.str [48,49],.str [],.int .u8 0,.int .u8 0,.int .u8 0]],iA 0)
theorem Wv:dn tab rW 10000 141 Mu.1 Mu.2=true:=by kernel_rfl
def MN:List AV×AV:=([dA [48,48,48,48] 0 0 [48,51] [],dA [48,48,48,48] 0 0 [48,52] []],.bool true)
theorem Vw:dn tab rW 10000 245 MN.1 MN.2=true:=by kernel_rfl
def P_:List AV×AV:=([dA [48,48,48,48] 0 0 [48,50] [48,49]],.tuple [rA 0 31 0 31,iA 0])
theorem UV:dn tab rW 10000 197 P_.1 P_.2=true:=by kernel_rfl
def Tq:List AV×AV:=([dA [48,48,48,48] 0 0 [48,50] [48,57]],.tuple [rA 0 39 0 39,iA 0])
theorem UI:dn tab rW 10000 197 Tq.1 Tq.2=true:=by kernel_rfl
def Jj:List AV×AV:=([dA [48,48,48,48] 0 0 [48,50] [48,49]],.tuple [rA 0 31 0 31,iA 0])
theorem U9:dn tab rW 10000 95 Jj.1 Jj.2=true:=by kernel_rfl
def H4:List AV×AV:=([dA [48,48,48,48] 0 0 [48,50] [48,57]],.tuple [rA 0 39 0 39,iA 0])
theorem Wc:dn tab rW 10000 95 H4.1 H4.2=true:=by kernel_rfl
noncomputable def Ks:rf:=(.node none (.node none (.node none (.node none (.node none (.node none .nil (.node (some [Jj,H4]) .nil .nil)) .nil) .nil) .nil) (.node none .nil (.node none (.node none (.node none (.node none .nil (.node (some [Jj,H4]) .nil .nil)) .nil) (.node none .nil (.node none .nil (.node (some [MN]) .nil .nil)))) (.node none (.node none (.node none (.node (some [Mu]) .nil .nil) .nil) .nil) .nil)))) .nil)
noncomputable def Am:cx:=q8 rW Ks
theorem ED(g:fV Tryz.prog tab rW):i6 (λf l=>∀e∈l,ey Tryz.prog rW f e.1 e.2) (λi=>i) Ks:=⟨ai,⟨ai,⟨ai,⟨ai,⟨ai,⟨ai,trivial,⟨(a_ (ao (g.fact 10000 U9) (ao (g.fact 10000 Wc) bh))),trivial,trivial⟩⟩,trivial⟩,trivial⟩,trivial⟩,⟨ai,trivial,⟨ai,⟨ai,⟨ai,⟨ai,trivial,⟨(a_ (ao (g.fact 10000 UV) (ao (g.fact 10000 UI) bh))),trivial,trivial⟩⟩,trivial⟩,⟨ai,trivial,⟨ai,trivial,⟨(a_ (ao (g.fact 10000 Vw) bh)),trivial,trivial⟩⟩⟩⟩,⟨ai,⟨ai,⟨ai,⟨(a_ (ao (g.fact 10000 Wv) bh)),trivial,trivial⟩,trivial⟩,trivial⟩,trivial⟩⟩⟩⟩,trivial⟩
theorem Qv(g:fV Tryz.prog tab rW):fV Tryz.prog tab Am:=g.memo λf l h=>(ED g).get f l h
def N7:List AV×AV:=([.agg [.bool false,.bool false,.str [48,48,48,48],iA 0,iA 0,.str [48,51],.str [],.int .u8 0,.int .u8 0,.int .u8 0,.bool true,.bool false,.bool false,.str [48,48,48,48],iA 0,iA 0,.str [48,52],.str [],.int .u8 0,.int .u8 0,.int .u8 0],.int .u8 3],iA 0)
theorem US:dn tab Am 10000 199 N7.1 N7.2=true:=by kernel_rfl
def Ns:List AV×AV:=([dA [48,48,48,48] 0 0 [48,50] [48,49],dA [48,48,48,48] 0 0 [48,50] [48,57]],.bool true)
theorem Xg:dn tab Am 10000 245 Ns.1 Ns.2=true:=by kernel_rfl
noncomputable def JT:rf:=(.node none (.node none (.node none (.node none .nil (.node none (.node none (.node none .nil (.node (some [N7]) .nil .nil)) .nil) .nil)) .nil) (.node none .nil (.node none (.node none .nil (.node none .nil (.node none .nil (.node (some [Ns]) .nil .nil)))) .nil))) .nil)
noncomputable def B7:cx:=q8 Am JT
theorem G1(g:fV Tryz.prog tab Am):i6 (λf l=>∀e∈l,ey Tryz.prog Am f e.1 e.2) (λi=>i) JT:=⟨ai,⟨ai,⟨ai,⟨ai,trivial,⟨ai,⟨ai,⟨ai,trivial,⟨(a_ (ao (g.fact 10000 US) bh)),trivial,trivial⟩⟩,trivial⟩,trivial⟩⟩,trivial⟩,⟨ai,trivial,⟨ai,⟨ai,trivial,⟨ai,trivial,⟨ai,trivial,⟨(a_ (ao (g.fact 10000 Xg) bh)),trivial,trivial⟩⟩⟩⟩,trivial⟩⟩⟩,trivial⟩
theorem Rp(g:fV Tryz.prog tab Am):fV Tryz.prog tab B7:=g.memo λf l h=>(G1 g).get f l h
def Lk:List AV×AV:=([.agg [.bool false,.bool false,.str [48,48,48,48],iA 0,iA 0,.str [48,50],.str [48,49],.int .u8 0,.int .u8 0,.int .u8 0,.bool true,.bool false,.bool false,.str [48,48,48,48],iA 0,iA 0,.str [48,50],.str [48,57],.int .u8 0,.int .u8 0,.int .u8 0],.int .u8 4],iA 0)
theorem XK:dn tab B7 10000 199 Lk.1 Lk.2=true:=by kernel_rfl
noncomputable def Kr:rf:=(.node none (.node none (.node none (.node none .nil (.node none (.node none (.node none .nil (.node (some [Lk]) .nil .nil)) .nil) .nil)) .nil) .nil) .nil)
noncomputable def KL:cx:=q8 B7 Kr
theorem Ff(g:fV Tryz.prog tab B7):i6 (λf l=>∀e∈l,ey Tryz.prog B7 f e.1 e.2) (λi=>i) Kr:=⟨ai,⟨ai,⟨ai,⟨ai,trivial,⟨ai,⟨ai,⟨ai,trivial,⟨(a_ (ao (g.fact 10000 XK) bh)),trivial,trivial⟩⟩,trivial⟩,trivial⟩⟩,trivial⟩,trivial⟩,trivial⟩
theorem Sg(g:fV Tryz.prog tab B7):fV Tryz.prog tab KL:=g.memo λf l h=>(Ff g).get f l h
def Pj:List AV×AV:=([],.bool true)
theorem Wl:dn tab KL 10000 22 Pj.1 Pj.2=true:=by kernel_rfl
end Go.Ev
end
section
set_option maxRecDepth 100000
set_option maxHeartbeats 400000
namespace Go.Ev
open Go Go.Proofs
theorem Hf{cfg':cx}{f:FuncId}{args:List AV}{v:AV}(hG:cfg.G=cfg'.G)(hr:cfg.root=cfg'.root)(h:ey Tryz.prog cfg' f args v):ey Tryz.prog cfg f args v:=λC D m o w hi hok=>
 (h C D m o w (dQ.to (cfg:=cfg) (cfg':=cfg') hG.symm hr.symm hi) hok).mono λV w' ⟨h1,h2,h3,h4⟩=>⟨h1,h2,dk.to (cfg:=cfg') (cfg':=cfg) hG hr h3,h4⟩
theorem LC:ey Tryz.prog cfg 22 [] (.bool true):=Hf (cfg':=KL) rfl rfl ((Sg (Rp (Qv (S_ (R_ (RH (Te d4))))))).fact 10000 Wl)
theorem XW:bR Tryz.prog cfg 22 [] [] (.bool true) []:=λD m w hi hok=>(LC (Cw cfg []) D m ⟨0,[],[]⟩ w hi hok).mono λV w' ⟨h1,h2,h3,_⟩=>⟨D,m,h1,h2,h3⟩
theorem Rs{S:bq}(hS:az Tryz.prog cfg S):az Tryz.prog cfg (bw S 22 Vr):=aA hS λargs t v he hv=>by
 unfold Vr at he
 split at he
 · cases he
   cases hv
   exact XW
 · cases he
end Go.Ev
end
section
namespace Go.Ev
open Go Go.Proofs
section
variable{H:Type}{enc:TypeId×Value->H}{P:Program}{w:World}{base:Nat}{sp:Nat->Bool}{held:Bool}
theorem oD{fuel:Nat}{e t0 t1:TypeId}{f0 f1:Field}{cs:List Value}{k:IntKind}{d:DataW H}{p:List MemPlace}(he:P.underlying e=some (.struct #[f0,f1]))(e0:f0.type=t0)(e1:f1.type=t1)(h0:P.underlying t0=some (.int k))(h1:P.underlying t1=some (.int k))
 (o0:f0.offset=0) (o1:f1.offset=1) (c0:P.cellsOf t0=1) (c1:P.cellsOf t1=1) (hc:P.cellsOf e=2) (h:DataW.trod enc P w base sp held fuel e cs=some (d,p)) :
 ∃a b,cs=[.int k a,.int k b]/\d=.agg [.lit (.int k a),.lit (.int k b)]:=by
 cases fuel with
 | zero=>simp[DataW.trod]at h
 | succ fuel=>
   unfold DataW.trod at h
   simp only[he,hc]at h
   split at h
   · rename_i hl
     match cs,hl with
     | [x,y],_=>
       simp only[List.mapM_cons,List.mapM_nil,o0,o1,e0,e1,c0,c1,List.drop_zero,List.drop_succ_cons,List.take_succ_cons,List.take_zero,Option.map_eq_some_iff,Option.bind_eq_bind,Option.bind_eq_some_iff,Option.pure_def,Option.some.injEq]at h
       obtain⟨xs,⟨r0,hr0,ys,⟨r1,hr1,zs,rfl,rfl⟩,rfl⟩,hx⟩:=h
       obtain⟨n0,q0,rfl,_⟩:=DataW.trod_int h0 hr0
       obtain⟨n1,q1,rfl,_⟩:=DataW.trod_int h1 hr1
       simp only[List.cons.injEq,and_true]at q0 q1
       subst q0 q1
       refine⟨n0,n1,rfl,?_⟩
       have:=congrArg Prod.fst hx
       simpa using this.symm
   · cases h
theorem yO{fuel n:Nat}{t e t0 t1:TypeId}{f0 f1:Field}{cs:List Value}{k:IntKind}{ds:List (DataW H)}{p:List MemPlace}(ht:P.underlying t=some (.array n e))(he:P.underlying e=some (.struct #[f0,f1]))(e0:f0.type=t0)(e1:f1.type=t1)(h0:P.underlying t0=some (.int k))(h1:P.underlying t1=some (.int k))
 (o0:f0.offset=0) (o1:f1.offset=1) (c0:P.cellsOf t0=1) (c1:P.cellsOf t1=1) (hc:P.cellsOf e=2) (h:DataW.trod enc P w base sp held fuel t cs=some (.agg ds,p)) :
 ∀i d,ds[i]? = some d->∃a b,d=.agg [.lit (.int k a),.lit (.int k b)]/\cs[2*i]? = some (.int k a)/\cs[2*i+1]? = some (.int k b):=by
 cases fuel with
 | zero=>simp[DataW.trod]at h
 | succ fuel=>
   unfold DataW.trod at h
   simp only[ht,hc]at h
   split at h
   · rename_i hl
     obtain⟨xs,hm,hx⟩:=Option.map_eq_some_iff.1 h
     have hxs:xs.map (·.1)=ds:=by
      have:=congrArg Prod.fst hx
      simpa using this
     intro i d hd
     have hxl:xs.length=n:=by simpa using Lib.mapM_length hm
     have hi:i<n:=by
      have:=(List.getElem?_eq_some_iff.1 hd).1
      rw[<-hxs]at this
      simp at this;omega
     obtain⟨b,hb,hf⟩:=Lib.mapM_at hm i i (by simp[hi])
     obtain⟨x,y,hc1,hc2⟩:=oD (d:=b.1) (p:=b.2) he e0 e1 h0 h1 o0 o1 c0 c1 hc (by rw[hf])
     refine⟨x,y,?_,?_,?_⟩
     · rw[<-hxs]at hd
       simp only[List.getElem?_map,hb,Option.map_some,Option.some.injEq]at hd
       rw[<-hd,hc2]
     · have:=congrArg (·[0]?) hc1
       simp only[List.getElem?_take,List.getElem?_drop,List.getElem?_cons_zero]at this
       rw[show 2*i=i*2+0 by omega]
       simpa using this
     · have:=congrArg (·[1]?) hc1
       simp only[List.getElem?_take,List.getElem?_drop]at this
       rw[show 2*i+1=i*2+1 by omega]
       simpa using this
   · cases h
theorem tj{fuel:Nat}{t e t0 t1:TypeId}{f0 f1:Field}{cs:List Value}{k:IntKind}{ds:List (DataW H)}{p:List MemPlace}(ht:P.underlying t=some (.slice e))(he:P.underlying e=some (.struct #[f0,f1]))(e0:f0.type=t0)(e1:f1.type=t1)(h0:P.underlying t0=some (.int k))(h1:P.underlying t1=some (.int k))
 (o0:f0.offset=0) (o1:f1.offset=1) (c0:P.cellsOf t0=1) (c1:P.cellsOf t1=1) (hc:P.cellsOf e=2) (hne:0<ds.length) (h:DataW.trod enc P w base (λ_=>true) held fuel t cs=some (.slice ds [],p)) :
 ∃b o,cs=[.slice (some ⟨b,o,none⟩) ds.length ds.length]/\∀i d,ds[i]? = some d->∃x y,d=.agg [.lit (.int k x),.lit (.int k y)]/\w.cell? ⟨b,o+2*i,none⟩=some (.int k x)/\w.cell? ⟨b,o+(2*i+1),none⟩=some (.int k y):=by
 rcases DataW.trod_slice ht h with⟨_,hx⟩|⟨a,len,cap,elems,rest,n,rfl,rfl,hx,hb,hle,hmax,hel,hat,hrest,_⟩
 · cases hx
 · simp only[Prod.mk.injEq,DataW.slice.injEq]at hx
   obtain⟨⟨hds,hrs⟩,_⟩:=hx
   have hr0:rest.length=0:=by
    have:=congrArg List.length hrs
    simpa using this.symm
   have hcap:cap=len:=by
    have:=(hrest rfl).1
    omega
   have hlen:ds.length=len:=by rw[hds];simpa using hel
   subst hcap
   have main:∀i d,ds[i]? = some d->∃x y,d=.agg [.lit (.int k x),.lit (.int k y)]/\w.cell? (a.add (i*2))=some (.int k x)/\w.cell? ((a.add (i*2)).add 1)=some (.int k y):=by
    intro i d hd
    have hi:i<cap:=by
     have:=(List.getElem?_eq_some_iff.1 hd).1
     omega
    have h3:=hat i hi
    rw[hds,List.getElem?_map]at hd
    obtain⟨b,hb',rfl⟩:=Option.map_eq_some_iff.1 hd
    rw[hb',hc]at h3
    obtain⟨cs',hcs,htr⟩:=Option.bind_eq_some_iff.1 h3
    obtain⟨x,y,rfl,hd2⟩:=oD (d:=b.1) (p:=b.2) he e0 e1 h0 h1 o0 o1 c0 c1 hc htr
    obtain⟨_,_,hcell⟩:=World.cells?_some hcs
    refine⟨x,y,hd2,?_,?_⟩
    · have:=hcell 0 (by omega)
      simpa [Addr.add]using this
    · exact hcell 1 (by omega)
   obtain⟨b,o,sp⟩:=a
   have hsp:sp=none:=by
    obtain⟨x,y,_,hx0,_⟩:=main 0 (ds[0]'hne) (by simp[hne])
    simp only[Nat.zero_mul,Addr.add,if_true]at hx0
    unfold World.cell? at hx0
    cases sp with
    | none=>rfl
    | some v=>split at hx0<;>simp at hx0
   subst hsp
   refine⟨b,o,by rw[hlen],λi d hd=>?_⟩
   obtain⟨x,y,h4,h5,h6⟩:=main i d hd
   refine⟨x,y,h4,?_,?_⟩
   · by_cases e:i=0
     · subst e;simpa [Addr.add]using h5
     · rw[show o+2*i=o+i*2 by omega]
       have e2:¬i*2=0:=by omega
       rw[Addr.add,if_neg e2]at h5
       exact h5
   · by_cases e:i=0
     · subst e;simpa [Addr.add]using h6
     · rw[show o+(2*i+1)=o+i*2+1 by omega]
       have e2:¬i*2=0:=by omega
       rw[Addr.add,if_neg (by omega),Addr.add,if_neg e2]at h6
       exact h6
end
end Go.Ev
end
section
set_option maxRecDepth 100000
set_option maxHeartbeats 1000000
namespace Go.Ev
open Go Go.Proofs
section
variable{P:Program}{w:World}{r:Reach}{b0:Nat}{t:TypeId}{v:Value}
theorem Cx(ht:P.underlying t=some .bool)(h:Cell.okWide P w r b0 t v):∃b,v=.bool b:=by
 unfold Cell.okWide Cell.ok at h
 rw[ht]at h
 cases v<;>first|exact⟨_,rfl⟩|exact h.elim
theorem dS{k:IntKind}(ht:P.underlying t=some (.int k))(h:Cell.okWide P w r b0 t v):∃n,v=.int k n/\k.min<=n/\n<=k.max:=by
 unfold Cell.okWide Cell.ok at h
 rw[ht]at h
 cases v<;>first|exact h.elim|skip
 obtain⟨rfl,h1⟩:=h
 exact⟨_,rfl,h1⟩
theorem nk{e:TypeId}(ht:P.underlying t=some (.slice e))(h:Cell.okWide P w r b0 t v):v=.slice none 0 0\/∃b o len cap c el fz,v=.slice (some ⟨b,o,none⟩) len cap/\w.heap[b]? = some (.cells c el fz):=by
 unfold Cell.okWide Cell.ok at h
 rw[ht]at h
 cases v<;>first|exact h.elim|skip
 rename_i a len cap
 cases a with
 | none=>
   left
   cases len<;>cases cap<;>first|rfl|exact h.elim
 | some a=>
   right
   obtain⟨_,_,_,h4,row,cells,h5,_⟩:=h
   obtain⟨b,o,sp⟩:=a
   simp only at h4 h5
   subst h4
   unfold World.shape? at h5
   split at h5
   · rename_i c el fz hh
     exact⟨b,o,len,cap,c,el,fz,rfl,hh⟩
   · cases h5
end
end Go.Ev
end
section
set_option maxRecDepth 100000
set_option maxHeartbeats 1000000
namespace Go.Ev
open Go Go.Proofs Go.ChangeShapes
theorem AY{α:Type}{d:α}{Q:Nat->α->Prop}:∀{n:Nat},(∀i,i<n->∃a,Q i a)->∃l:List α,l.length=n/\∀i,i<n->Q i (l.getD i d)
 | 0,_=>⟨[],rfl,λi hi=>absurd hi (Nat.not_lt_zero _)⟩
 | n+1,h=>by
   obtain⟨l,hl,hq⟩:=AY (n:=n) (d:=d) λi hi=>h i (by omega)
   obtain⟨a,ha⟩:=h n (by omega)
   refine⟨l++[a],by simp[hl],λi hi=>?_⟩
   by_cases e:i<n
   · have:=hq i e
     rw[List.getD_eq_getElem?_getD]at this ⊢
     rwa [List.getElem?_append_left (by omega)]
   · obtain rfl:i=n:=by omega
     rw[List.getD_eq_getElem?_getD,List.getElem?_append_right (by omega),hl,Nat.sub_self]
     exact ha
theorem GB{b o i:Nat}:(⟨b,o,none⟩:Addr).add i=⟨b,o+i,none⟩:=by
 unfold Addr.add
 split
 · rename_i h;subst h;rfl
 · rfl
section
variable{H:Type}{enc:TypeId×Value->H}{w:World}{sp:Nat->Bool}{held:Bool}
theorem Gt{k:IntKind}{n:Int}(h:(Lit.int k n).wf=true):k.min<=n/\n<=k.max:=by
 unfold Lit.wf at h
 simpa using h
end
end Go.Ev
end
section
namespace Go.Ev
open Go Go.Proofs Go.Proofs.YtafekjglclnegaaGreatDoor
set_option maxRecDepth 100000
theorem gF{P:Program}{w:World}:∀{l:List (String×DataW Unit)} {ps:List MemPlace},DataW.LaidVars P w l ps->∀(i:Nat) (n:String) (d:DataW Unit),l[i]? = some (n,d)->
 ∃g t cs fuel p,P.globalNamed n=some g/\(P.globals[g]?).map (·.type)=some t/\w.var? P n=some cs/\DataW.trod (λ_=>()) P w 0 (λ_=>true) false fuel t cs.toList=some (d,p)/\∀x∈MemPlace.row ⟨g,0,none⟩ cs.size,x∈ps
 | [],ps,_,i,n,d,hd=>by simp at hd
 | (n0,d0)::r,ps,h,i,n,d,hd=>by
   obtain⟨g,t,cs,fuel,p,q,h1,h2,h3,h4,h5,rfl⟩:=h
   cases i with
   | zero=>
     simp only[List.getElem?_cons_zero,Option.some.injEq,Prod.mk.injEq]at hd
     obtain⟨rfl,rfl⟩:=hd
     exact⟨g,t,cs,fuel,p,h1,h2,h3,h4,λx hx=>by simp[hx]⟩
   | succ i=>
     obtain⟨g',t',cs',fuel',p',k1,k2,k3,k4,k5⟩:=gF h5 i n d (by simpa using hd)
     exact⟨g',t',cs',fuel',p',k1,k2,k3,k4,λx hx=>by simp[k5 x hx]⟩
def Be(x y:Int):DataW Unit:=.agg [.lit (.int .i64 x),.lit (.int .i64 y)]
def n7:List Int->List (DataW Unit)
 | x::y::r=>Be x y::n7 r
 | _=>[]
theorem vS{x y a b:Int}(h:Be x y=.agg [.lit (.int .i64 a),.lit (.int .i64 b)]):x=a/\y=b:=by
 simpa [Be]using h
theorem kX:∀{l:List Int},l.length%2=0->∀(i:Nat) (v:Int),l[i]? = some v->∃x y,(n7 l)[i/2]? = some (Be x y)/\(i%2=0->v=x)/\(i%2=1->v=y)
 | [],_,i,v,h=>by simp at h
 | [x],h,i,v,_=>by simp at h
 | x::y::r,h,0,v,hv=>⟨x,y,rfl,λ_=>by simpa using hv.symm,λh=>by simp at h⟩
 | x::y::r,h,1,v,hv=>⟨x,y,rfl,λh=>by simp at h,λ_=>by simpa using hv.symm⟩
 | x::y::r,h,i+2,v,hv=>by
   obtain⟨a,b,h1,h2,h3⟩:=kX (l:=r) (by simp at h;omega) i v (by simpa using hv)
   refine⟨a,b,?_,λe=>h2 (by omega),λe=>h3 (by omega)⟩
   rw[show(i+2)/2=i/2+1 by omega,n7,List.getElem?_cons_succ]
   exact h1
noncomputable def mM:List (String×DataW Unit):=Rows.extentsKnownRow.laid
theorem laid_met{w:World}(h:laidMetH Tryz.prog mM w):laidMet Tryz.prog mM w:=by
 unfold laidMetH at h
 have e:(mM.filter λx=>x.2.handleName?.isSome)=[]:=by kernel_rfl
 rw[e]at h
 exact h
theorem Ju{w:World}(h:laidMet Tryz.prog mM w):∀i v,TN[i]? = some v->w.cell? ⟨1,i,none⟩=some (.int .i64 v):=by
 obtain⟨ps,hv,_,_⟩:=h
 obtain⟨g,t,cs,fuel,p,h1,h2,h3,h4,_⟩:=gF hv 7 "circa/months.lengths" Rows.laid_circa_months_lengths rfl
 obtain rfl:1=g:=Option.some.inj ((show Tryz.prog.globalNamed "circa/months.lengths" = some 1 by kernel_rfl).symm.trans h1)
 obtain rfl:340=t:=Option.some.inj ((show(Tryz.prog.globals[1]?).map (·.type)=some 340 by kernel_rfl).symm.trans h2)
 have hc:=Lib.cells_of_tab (zs:=TN) (k:=.i64) Tryz.underlying340 Tryz.underlying3 (by kernel_rfl) (by kernel_rfl) h4
 intro i v hi
 rw[World.var?_cell (by kernel_rfl:Tryz.prog.globalNamed "circa/months.lengths" = some 1) h3 i,<-Array.getElem?_toList,hc,List.getElem?_map,hi]
 rfl
theorem Gr{w:World}(h:laidMet Tryz.prog mM w):∀i v,TM[i]? = some v->w.cell? ⟨2,i,none⟩=some (.int .i64 v):=by
 obtain⟨ps,hv,_,_⟩:=h
 obtain⟨g,t,cs,fuel,p,h1,h2,h3,h4,_⟩:=gF hv 8 "circa/seasons.spans" Rows.laid_circa_seasons_spans rfl
 obtain rfl:2=g:=Option.some.inj ((show Tryz.prog.globalNamed "circa/seasons.spans" = some 2 by kernel_rfl).symm.trans h1)
 obtain rfl:343=t:=Option.some.inj ((show(Tryz.prog.globals[2]?).map (·.type)=some 343 by kernel_rfl).symm.trans h2)
 have h4:DataW.trod (λ_=>()) Tryz.prog w 0 (λ_=>true) false fuel 343 cs.toList=some (.agg (n7 TM),p):=h4
 have hc:=yO Tryz.underlying343 Tryz.underlying342 rfl rfl Tryz.underlying3 Tryz.underlying3 rfl rfl (by kernel_rfl) (by kernel_rfl) (by kernel_rfl) h4
 intro i v hi
 rw[World.var?_cell (by kernel_rfl:Tryz.prog.globalNamed "circa/seasons.spans" = some 2) h3 i,<-Array.getElem?_toList]
 obtain⟨x,y,hd,hx,hy⟩:=kX rfl i v hi
 obtain⟨a,b,he,ha,hb⟩:=hc _ _ hd
 obtain⟨rfl,rfl⟩:=vS he
 rcases Nat.mod_two_eq_zero_or_one i with h2|h2
 · rw[hx h2,<-ha,show 2*(i/2)=i by omega]
 · rw[hy h2,<-hb,show 2*(i/2)+1=i by omega]
theorem DG{w:World}(h:laidMet Tryz.prog mM w):∃b o,w.cell? ⟨5,0,none⟩=some (.slice (some ⟨b,o,none⟩) 3 3)/\∀i v,TO[i]? = some v->w.cell? ⟨b,o+i,none⟩=some (.int .i64 v):=by
 obtain⟨ps,hv,_,_⟩:=h
 obtain⟨g,t,cs,fuel,p,h1,h2,h3,h4,_⟩:=gF hv 6 "circa/years.steps" Rows.laid_circa_years_steps rfl
 obtain rfl:5=g:=Option.some.inj ((show Tryz.prog.globalNamed "circa/years.steps" = some 5 by kernel_rfl).symm.trans h1)
 obtain rfl:358=t:=Option.some.inj ((show(Tryz.prog.globals[5]?).map (·.type)=some 358 by kernel_rfl).symm.trans h2)
 have h4:DataW.trod (λ_=>()) Tryz.prog w 0 (λ_=>true) false fuel 358 cs.toList=some (.slice (n7 TO) [],p):=h4
 obtain⟨b,o,hcs,hc⟩:=tj Tryz.underlying358 Tryz.underlying359 rfl rfl Tryz.underlying2 Tryz.underlying2 rfl rfl (by kernel_rfl) (by kernel_rfl) (by kernel_rfl) (by decide) h4
 refine⟨b,o,?_,λi v hi=>?_⟩
 · rw[World.var?_cell (by kernel_rfl:Tryz.prog.globalNamed "circa/years.steps" = some 5) h3 0,<-Array.getElem?_toList,hcs];rfl
 · obtain⟨x,y,hd,hx,hy⟩:=kX rfl i v hi
   obtain⟨a,b',he,ha,hb⟩:=hc _ _ hd
   obtain⟨rfl,rfl⟩:=vS he
   rcases Nat.mod_two_eq_zero_or_one i with h2|h2
   · rw[hx h2,<-ha,show 2*(i/2)=i by omega]
   · rw[hy h2,<-hb,show 2*(i/2)+1=i by omega]
theorem E0{w:World}(h:laidMet Tryz.prog mM w){i g:Nat}{n:String}{text:List UInt8}(hi:mM[i]? = some (n,.iface "*errors.errorString" (.ptr (.agg [.lit (.string text)]))))(hg:Tryz.prog.globalNamed n=some g)(ht:(Tryz.prog.globals[g]?).map (·.type)=some 251) :
 (∃b o,w.cell? ⟨g,0,none⟩=some (.iface 367 (.pointer (some ⟨b,o,none⟩))))/\∀c e fz,w.heap[g]? = some (.cells c e fz)->c.size=1:=by
 obtain⟨ps,hv,_,hps⟩:=h
 obtain⟨g',t,cs,fuel,p,h1,h2,h3,h4,h5⟩:=gF hv i n _ hi
 obtain rfl:g=g':=Option.some.inj (hg.symm.trans h1)
 obtain rfl:251=t:=Option.some.inj (ht.symm.trans h2)
 obtain⟨a,s,hcs,hcell,_⟩:=errorString_of_trod Tryz.underlying251 (λu hu=>typeName_ptr_named (nm := "errors.errorString") (by kernel_rfl) (by kernel_rfl) (by decide) u hu) Tryz.underlying367 Tryz.underlying369 rfl rfl Tryz.underlying9 (by kernel_rfl) (by kernel_rfl) h4 (λu v e=>by
  have hc0:w.cell? ⟨g,0,none⟩=some (.iface u v):=by
   rw[World.var?_cell hg h3 0,<-Array.getElem?_toList,e];rfl
  have hsz:cs.size=1:=by
   have:=congrArg List.length e
   simpa using this
  exact(hps g 0 (h5 _ (by rw[hsz];simp[MemPlace.row]))).2 u v hc0)
 obtain⟨b,o,sp⟩:=a
 have hsp:sp=none:=by
  unfold World.cell? at hcell
  cases sp with
  | none=>rfl
  | some v=>split at hcell<;>simp at hcell
 subst hsp
 refine⟨⟨b,o,by rw[World.var?_cell hg h3 0,<-Array.getElem?_toList,hcs];rfl⟩,λc e fz hb=>?_⟩
 have h3':=h3
 unfold World.var? at h3'
 rw[hg]at h3'
 simp only[Option.bind_some,hb,Option.some.injEq]at h3'
 have:=congrArg List.length hcs
 rw[h3']
 simpa using this
theorem Gz{w:World}(h:laidMetH Tryz.prog mM w):Ku w:=by
 have h:=laid_met h
 have hS:=E0 h (i:=5) (g:=3) (n := "strconv.ErrSyntax") rfl (by kernel_rfl) (by kernel_rfl)
 have hR:=E0 h (i:=4) (g:=4) (n := "strconv.ErrRange") rfl (by kernel_rfl) (by kernel_rfl)
 exact⟨DG h,Ju h,Gr h,hS.1,hR.1,hS.2,hR.2⟩
end Go.Ev
end
section
set_option maxRecDepth 100000
set_option maxHeartbeats 1000000
namespace Go.Ev
open Go Go.Proofs
theorem EZ{ws:List aw}{i:Nat}(h:i<14+ws.length):(dP (Cw cfg ws) ⟨0,[],[]⟩ i).isSome=true->False:=by
 intro hs
 unfold dP at hs
 have:(Cw cfg ws).lo=14+ws.length:=rfl
 rw[im (by omega),cond_false]at hs
 cases hs
theorem nF{f:FuncId}{fn:Func}{av:List AV}{ws:List aw}{m:Nat->bo}{w:World}(hfn:Tryz.prog.funcs[f]? = some fn)(h4:(fn.name == "runtime.NumGoroutine")=false)(h5:fn.body.isNone=false)(hf:bR Tryz.prog cfg f av ws (.bool true) [])(hi:dQ cfg (λid=>id<14+ws.length) m (Cw cfg ws) ⟨0,[],[]⟩ w)(ho:eI (λid=>id<14+ws.length) m av) :
 Calls Tryz.prog f (ar m av).toArray w λe w'=>e=.returned (.bool true)/\RowKit.Below w.heap.size w w':=by
 rcases hf _ m w hi ho with⟨_,h⟩|⟨v,w',hv,_⟩
 · refine h.mono ?_
   rintro e w' ⟨v,rfl,D',m',rfl,_,he⟩
   exact⟨rfl,he.os,he.tape,he.output,he.size,λk hk=>he.frame k hk λi hi ho=>(EZ hi ho).elim⟩
 · exfalso
   have h6:¬fn.name = "runtime.NumGoroutine" := by simpa using h4
   have h7:¬fn.body=none:=λe=>by rw[e]at h5;cases h5
   simp[callFunc,hfn,h6,h7]at hv
end Go.Ev
end
