import Derived.LaidLaws
import Derived.Lib.LaidTab
import Derived.ChangeArms
import Derived.DataReads
import Derived.Test.YtafekjglclnegaaGreatDoorP36
set_option linter.all false
section
namespace Go.Ev
open Go Go.Proofs
set_option maxRecDepth 100000
abbrev iA (n:Int):AV:=.int .i64 n
abbrev dA (s:List UInt8) (e g:Int) (mo da:List UInt8):AV:=.agg [.bool false,.bool false,.str s,iA e,iA g,.str mo,.str da,.int .u8 0,.int .u8 0,.int .u8 0]
abbrev rA (a b c d:Int):AV:=.agg [.int .i8 a,iA b,.int .i8 c,iA d]
def e1_0:List AV×AV:=([dA [48,48,48,48] 0 0 [48,50] []],.tuple [iA 0,.bool false])
theorem k1_0:chk tab cfg 10000 172 e1_0.1 e1_0.2=true:=by kernel_rfl
def e1_1:List AV×AV:=([.str [48,48,48,48],.str [88,48,49,50,51,52,53,54,55,56,57]],.bool true)
theorem k1_1:chk tab cfg 10000 205 e1_1.1 e1_1.2=true:=by kernel_rfl
def e1_2:List AV×AV:=([iA 0,iA 1],.tuple [iA 0,iA 0])
theorem k1_2:chk tab cfg 10000 213 e1_2.1 e1_2.2=true:=by kernel_rfl
def e1_3:List AV×AV:=([iA 0],iA 0)
theorem k1_3:chk tab cfg 10000 321 e1_3.1 e1_3.2=true:=by kernel_rfl
def e1_4:List AV×AV:=([iA 1],iA 1)
theorem k1_4:chk tab cfg 10000 321 e1_4.1 e1_4.2=true:=by kernel_rfl
def e1_5:List AV×AV:=([.str [48,48,48,88],.str [88,48,49,50,51,52,53,54,55,56,57]],.bool true)
theorem k1_5:chk tab cfg 10000 205 e1_5.1 e1_5.2=true:=by kernel_rfl
def e1_6:List AV×AV:=([.str [48,48,48,50],.str [88,48,49,50,51,52,53,54,55,56,57]],.bool true)
theorem k1_6:chk tab cfg 10000 205 e1_6.1 e1_6.2=true:=by kernel_rfl
def e1_7:List AV×AV:=([iA 2,iA 1],.tuple [iA 2,iA 0])
theorem k1_7:chk tab cfg 10000 213 e1_7.1 e1_7.2=true:=by kernel_rfl
def e1_8:List AV×AV:=([iA 9],iA 3)
theorem k1_8:chk tab cfg 10000 321 e1_8.1 e1_8.2=true:=by kernel_rfl
def e1_9:List AV×AV:=([iA 10],iA 3)
theorem k1_9:chk tab cfg 10000 321 e1_9.1 e1_9.2=true:=by kernel_rfl
def e1_10:List AV×AV:=([dA [48,48,48,49] 0 0 [48,49] []],.tuple [iA 0,.bool false])
theorem k1_10:chk tab cfg 10000 172 e1_10.1 e1_10.2=true:=by kernel_rfl
def e1_11:List AV×AV:=([.str [48,48,48,49],.str [88,48,49,50,51,52,53,54,55,56,57]],.bool true)
theorem k1_11:chk tab cfg 10000 205 e1_11.1 e1_11.2=true:=by kernel_rfl
def e1_12:List AV×AV:=([dA [48,48,48,48] 0 0 [] []],.int .u8 1)
theorem k1_12:chk tab cfg 10000 242 e1_12.1 e1_12.2=true:=by kernel_rfl
def e1_13:List AV×AV:=([iA 1,iA 1],.tuple [iA 1,iA 0])
theorem k1_13:chk tab cfg 10000 213 e1_13.1 e1_13.2=true:=by kernel_rfl
def e1_14:List AV×AV:=([iA 2],iA 1)
theorem k1_14:chk tab cfg 10000 321 e1_14.1 e1_14.2=true:=by kernel_rfl
def e1_15:List AV×AV:=([dA [48,48,48,48] 0 0 [48,49] []],.tuple [iA 0,.bool false])
theorem k1_15:chk tab cfg 10000 172 e1_15.1 e1_15.2=true:=by kernel_rfl
def e1_16:List AV×AV:=([dA [48,48,48,48] 0 0 [48,51] []],.tuple [iA 0,.bool false])
theorem k1_16:chk tab cfg 10000 172 e1_16.1 e1_16.2=true:=by kernel_rfl
def e1_17:List AV×AV:=([.str [48,51],iA 12],.bool true)
theorem k1_17:chk tab cfg 10000 174 e1_17.1 e1_17.2=true:=by kernel_rfl
def e1_18:List AV×AV:=([dA [48,48,48,48] 0 0 [48,52] []],.tuple [iA 0,.bool false])
theorem k1_18:chk tab cfg 10000 172 e1_18.1 e1_18.2=true:=by kernel_rfl
def e1_19:List AV×AV:=([.str [48,52],iA 12],.bool true)
theorem k1_19:chk tab cfg 10000 174 e1_19.1 e1_19.2=true:=by kernel_rfl
def e1_20:List AV×AV:=([dA [48,48,48,48] 0 0 [48,50] [48,49]],.tuple [iA 0,.bool false])
theorem k1_20:chk tab cfg 10000 172 e1_20.1 e1_20.2=true:=by kernel_rfl
def e1_21:List AV×AV:=([dA [48,48,48,48] 0 0 [48,50] [48,57]],.tuple [iA 0,.bool false])
theorem k1_21:chk tab cfg 10000 172 e1_21.1 e1_21.2=true:=by kernel_rfl
def e1_22:List AV×AV:=([.str [48,57],iA 31],.bool true)
theorem k1_22:chk tab cfg 10000 174 e1_22.1 e1_22.2=true:=by kernel_rfl
def e1_23:List AV×AV:=([rA 0 0 0 30],iA 0)
theorem k1_23:chk tab cfg 10000 57 e1_23.1 e1_23.2=true:=by kernel_rfl
def e1_24:List AV×AV:=([rA 0 60 0 90],iA 0)
theorem k1_24:chk tab cfg 10000 57 e1_24.1 e1_24.2=true:=by kernel_rfl
def e1_25:List AV×AV:=([rA 0 31 0 39],iA 0)
theorem k1_25:chk tab cfg 10000 57 e1_25.1 e1_25.2=true:=by kernel_rfl
def e1_26:List AV×AV:=([rA 0 60 0 90,rA 0 0 0 30],iA 1)
theorem k1_26:chk tab cfg 10000 105 e1_26.1 e1_26.2=true:=by kernel_rfl
def e1_27:List AV×AV:=([rA 0 31 0 39,rA 0 60 0 90],iA (-1))
theorem k1_27:chk tab cfg 10000 105 e1_27.1 e1_27.2=true:=by kernel_rfl
def e1_28:List AV×AV:=([rA 0 31 0 39,rA 0 0 0 30],iA 1)
theorem k1_28:chk tab cfg 10000 105 e1_28.1 e1_28.2=true:=by kernel_rfl
def e1_29:List AV×AV:=([.agg [.int .i8 0,iA 0],.agg [.int .i8 0,iA 31]],.agg [.int .i8 0,iA 0])
theorem k1_29:chk tab cfg 10000 82 e1_29.1 e1_29.2=true:=by kernel_rfl
def e1_30:List AV×AV:=([.agg [.int .i8 0,iA 30],.agg [.int .i8 0,iA 39]],.agg [.int .i8 0,iA 39])
theorem k1_30:chk tab cfg 10000 83 e1_30.1 e1_30.2=true:=by kernel_rfl
def e1_31:List AV×AV:=([rA 0 0 0 39],iA 0)
theorem k1_31:chk tab cfg 10000 57 e1_31.1 e1_31.2=true:=by kernel_rfl
def e1_32:List AV×AV:=([rA 0 0 0 31],iA 0)
theorem k1_32:chk tab cfg 10000 57 e1_32.1 e1_32.2=true:=by kernel_rfl
def e1_33:List AV×AV:=([iA 201],iA 49)
theorem k1_33:chk tab cfg 10000 321 e1_33.1 e1_33.2=true:=by kernel_rfl
def e1_34:List AV×AV:=([iA 101],iA 25)
theorem k1_34:chk tab cfg 10000 321 e1_34.1 e1_34.2=true:=by kernel_rfl
def e1_35:List AV×AV:=([iA 51],iA 13)
theorem k1_35:chk tab cfg 10000 321 e1_35.1 e1_35.2=true:=by kernel_rfl
def e1_36:List AV×AV:=([iA 26],iA 7)
theorem k1_36:chk tab cfg 10000 321 e1_36.1 e1_36.2=true:=by kernel_rfl
def e1_37:List AV×AV:=([iA 13],iA 4)
theorem k1_37:chk tab cfg 10000 321 e1_37.1 e1_37.2=true:=by kernel_rfl
def e1_38:List AV×AV:=([iA 7],iA 2)
theorem k1_38:chk tab cfg 10000 321 e1_38.1 e1_38.2=true:=by kernel_rfl
def e1_39:List AV×AV:=([iA 4],iA 1)
theorem k1_39:chk tab cfg 10000 321 e1_39.1 e1_39.2=true:=by kernel_rfl
def e1_40:List AV×AV:=([rA 0 0 0 0],iA 0)
theorem k1_40:chk tab cfg 10000 57 e1_40.1 e1_40.2=true:=by kernel_rfl
noncomputable def memo1:Memo:=(.node none (.node none (.node none .nil (.node none (.node none .nil (.node none (.node (some [e1_30]) .nil .nil) .nil)) .nil)) (.node none (.node none (.node none (.node none (.node none .nil (.node none (.node (some [e1_3,e1_4,e1_8,e1_9,e1_14,e1_33,e1_34,e1_35,e1_36,e1_37,e1_38,e1_39]) .nil .nil) .nil)) .nil) .nil) (.node none (.node none .nil (.node (some [e1_26,e1_27,e1_28]) .nil .nil)) (.node (some [e1_23,e1_24,e1_25,e1_31,e1_32,e1_40]) .nil .nil))) (.node none (.node none .nil (.node none (.node none .nil (.node (some [e1_2,e1_7,e1_13]) .nil .nil)) .nil)) (.node none (.node none (.node none .nil (.node (some [e1_1,e1_5,e1_6,e1_11]) .nil .nil)) .nil) .nil)))) (.node none (.node none .nil (.node none .nil (.node none (.node none .nil (.node none (.node (some [e1_0,e1_10,e1_15,e1_16,e1_18,e1_20,e1_21]) .nil .nil) .nil)) .nil))) (.node none (.node none (.node none .nil (.node none (.node (some [e1_29]) .nil .nil) (.node none .nil (.node (some [e1_12]) .nil .nil)))) .nil) (.node none .nil (.node none (.node none .nil (.node none (.node (some [e1_17,e1_19,e1_22]) .nil .nil) .nil)) .nil)))))
noncomputable def cfg1:Cfg:=cfgM cfg memo1
theorem memo1_ok (g:Good Tryz.prog tab cfg):TbAll (fun f l=>∀e∈l,Fact Tryz.prog cfg f e.1 e.2) (fun i=>i) memo1:=⟨none_all,⟨none_all,⟨none_all,trivial,⟨none_all,⟨none_all,trivial,⟨none_all,⟨(some_all (fact_cons (g.fact 10000 k1_30) fact_nil)),trivial,trivial⟩,trivial⟩⟩,trivial⟩⟩,⟨none_all,⟨none_all,⟨none_all,⟨none_all,⟨none_all,trivial,⟨none_all,⟨(some_all (fact_cons (g.fact 10000 k1_3) (fact_cons (g.fact 10000 k1_4) (fact_cons (g.fact 10000 k1_8) (fact_cons (g.fact 10000 k1_9) (fact_cons (g.fact 10000 k1_14) (fact_cons (g.fact 10000 k1_33) (fact_cons (g.fact 10000 k1_34) (fact_cons (g.fact 10000 k1_35) (fact_cons (g.fact 10000 k1_36) (fact_cons (g.fact 10000 k1_37) (fact_cons (g.fact 10000 k1_38) (fact_cons (g.fact 10000 k1_39) fact_nil))))))))))))),trivial,trivial⟩,trivial⟩⟩,trivial⟩,trivial⟩,⟨none_all,⟨none_all,trivial,⟨(some_all (fact_cons (g.fact 10000 k1_26) (fact_cons (g.fact 10000 k1_27) (fact_cons (g.fact 10000 k1_28) fact_nil)))),trivial,trivial⟩⟩,⟨(some_all (fact_cons (g.fact 10000 k1_23) (fact_cons (g.fact 10000 k1_24) (fact_cons (g.fact 10000 k1_25) (fact_cons (g.fact 10000 k1_31) (fact_cons (g.fact 10000 k1_32) (fact_cons (g.fact 10000 k1_40) fact_nil))))))),trivial,trivial⟩⟩⟩,⟨none_all,⟨none_all,trivial,⟨none_all,⟨none_all,trivial,⟨(some_all (fact_cons (g.fact 10000 k1_2) (fact_cons (g.fact 10000 k1_7) (fact_cons (g.fact 10000 k1_13) fact_nil)))),trivial,trivial⟩⟩,trivial⟩⟩,⟨none_all,⟨none_all,⟨none_all,trivial,⟨(some_all (fact_cons (g.fact 10000 k1_1) (fact_cons (g.fact 10000 k1_5) (fact_cons (g.fact 10000 k1_6) (fact_cons (g.fact 10000 k1_11) fact_nil))))),trivial,trivial⟩⟩,trivial⟩,trivial⟩⟩⟩⟩,⟨none_all,⟨none_all,trivial,⟨none_all,trivial,⟨none_all,⟨none_all,trivial,⟨none_all,⟨(some_all (fact_cons (g.fact 10000 k1_0) (fact_cons (g.fact 10000 k1_10) (fact_cons (g.fact 10000 k1_15) (fact_cons (g.fact 10000 k1_16) (fact_cons (g.fact 10000 k1_18) (fact_cons (g.fact 10000 k1_20) (fact_cons (g.fact 10000 k1_21) fact_nil)))))))),trivial,trivial⟩,trivial⟩⟩,trivial⟩⟩⟩,⟨none_all,⟨none_all,⟨none_all,trivial,⟨none_all,⟨(some_all (fact_cons (g.fact 10000 k1_29) fact_nil)),trivial,trivial⟩,⟨none_all,trivial,⟨(some_all (fact_cons (g.fact 10000 k1_12) fact_nil)),trivial,trivial⟩⟩⟩⟩,trivial⟩,⟨none_all,trivial,⟨none_all,⟨none_all,trivial,⟨none_all,⟨(some_all (fact_cons (g.fact 10000 k1_17) (fact_cons (g.fact 10000 k1_19) (fact_cons (g.fact 10000 k1_22) fact_nil)))),trivial,trivial⟩,trivial⟩⟩,trivial⟩⟩⟩⟩⟩
theorem good1 (g:Good Tryz.prog tab cfg):Good Tryz.prog tab cfg1:=g.memo fun f l h=>(memo1_ok g).get f l h
def e2_0:List AV×AV:=([dA [48,48,48,48] 0 0 [48,50] []],iA 0)
theorem k2_0:chk tab cfg1 10000 113 e2_0.1 e2_0.2=true:=by kernel_rfl
def e2_1:List AV×AV:=([.agg [.bool false,.bool false,.str [48,48,48,48],iA 0,iA 0]],.tuple [iA 0,iA 0])
theorem k2_1:chk tab cfg1 10000 148 e2_1.1 e2_1.2=true:=by kernel_rfl
def e2_2:List AV×AV:=([iA 0,iA 2],.tuple [iA 31,iA 0])
theorem k2_2:chk tab cfg1 10000 277 e2_2.1 e2_2.2=true:=by kernel_rfl
def e2_3:List AV×AV:=([dA [48,48,48,88] 0 0 [] []],.bool true)
theorem k2_3:chk tab cfg1 10000 173 e2_3.1 e2_3.2=true:=by kernel_rfl
def e2_4:List AV×AV:=([dA [48,48,48,50] 0 3 [] []],.bool true)
theorem k2_4:chk tab cfg1 10000 173 e2_4.1 e2_4.2=true:=by kernel_rfl
def e2_5:List AV×AV:=([.agg [.bool false,.bool false,.str [48,48,48,50],iA 0,iA 3]],.tuple [iA 2,iA 0])
theorem k2_5:chk tab cfg1 10000 148 e2_5.1 e2_5.2=true:=by kernel_rfl
def e2_6:List AV×AV:=([iA 0,.int .u8 1],.tuple [rA 0 0 0 365,iA 0])
theorem k2_6:chk tab cfg1 10000 94 e2_6.1 e2_6.2=true:=by kernel_rfl
def e2_7:List AV×AV:=([iA 9,.int .u8 1],.tuple [rA 0 3288 0 3652,iA 0])
theorem k2_7:chk tab cfg1 10000 94 e2_7.1 e2_7.2=true:=by kernel_rfl
def e2_8:List AV×AV:=([dA [48,48,48,48] 0 0 [] []],.bool true)
theorem k2_8:chk tab cfg1 10000 173 e2_8.1 e2_8.2=true:=by kernel_rfl
def e2_9:List AV×AV:=([dA [48,48,48,49] 0 0 [48,49] []],iA 0)
theorem k2_9:chk tab cfg1 10000 113 e2_9.1 e2_9.2=true:=by kernel_rfl
def e2_10:List AV×AV:=([.agg [.bool false,.bool false,.str [48,48,48,49],iA 0,iA 0]],.tuple [iA 1,iA 0])
theorem k2_10:chk tab cfg1 10000 148 e2_10.1 e2_10.2=true:=by kernel_rfl
def e2_11:List AV×AV:=([iA 1,iA 1],.tuple [iA 396,iA 0])
theorem k2_11:chk tab cfg1 10000 278 e2_11.1 e2_11.2=true:=by kernel_rfl
def e2_12:List AV×AV:=([dA [48,48,48,48] 0 0 [] [],.agg [iA 0,iA 0,iA 0]],.tuple [rA 0 0 0 365,iA 0])
theorem k2_12:chk tab cfg1 10000 155 e2_12.1 e2_12.2=true:=by kernel_rfl
def e2_13:List AV×AV:=([dA [48,48,48,48] 0 0 [48,49] []],iA 0)
theorem k2_13:chk tab cfg1 10000 113 e2_13.1 e2_13.2=true:=by kernel_rfl
def e2_14:List AV×AV:=([dA [48,48,48,48] 0 0 [48,51] []],iA 0)
theorem k2_14:chk tab cfg1 10000 113 e2_14.1 e2_14.2=true:=by kernel_rfl
def e2_15:List AV×AV:=([dA [48,48,48,48] 0 0 [48,52] []],iA 0)
theorem k2_15:chk tab cfg1 10000 113 e2_15.1 e2_15.2=true:=by kernel_rfl
def e2_16:List AV×AV:=([iA 0,iA 3],.tuple [iA 60,iA 0])
theorem k2_16:chk tab cfg1 10000 277 e2_16.1 e2_16.2=true:=by kernel_rfl
def e2_17:List AV×AV:=([iA 0,iA 4],.tuple [iA 91,iA 0])
theorem k2_17:chk tab cfg1 10000 277 e2_17.1 e2_17.2=true:=by kernel_rfl
def e2_18:List AV×AV:=([iA 0,iA 1],.tuple [iA 30,iA 0])
theorem k2_18:chk tab cfg1 10000 278 e2_18.1 e2_18.2=true:=by kernel_rfl
def e2_19:List AV×AV:=([dA [48,48,48,48] 0 0 [48,50] [48,49]],iA 0)
theorem k2_19:chk tab cfg1 10000 113 e2_19.1 e2_19.2=true:=by kernel_rfl
def e2_20:List AV×AV:=([dA [48,48,48,48] 0 0 [48,50] [48,57]],iA 0)
theorem k2_20:chk tab cfg1 10000 113 e2_20.1 e2_20.2=true:=by kernel_rfl
def e2_21:List AV×AV:=([rA 0 0 0 30,rA 0 31 0 39],.bool true)
theorem k2_21:chk tab cfg1 10000 112 e2_21.1 e2_21.2=true:=by kernel_rfl
def e2_22:List AV×AV:=([rA 0 0 0 39,rA 0 60 0 90],.bool false)
theorem k2_22:chk tab cfg1 10000 112 e2_22.1 e2_22.2=true:=by kernel_rfl
def e2_23:List AV×AV:=([iA 0],.tuple [iA 0,iA 0])
theorem k2_23:chk tab cfg1 10000 214 e2_23.1 e2_23.2=true:=by kernel_rfl
def e2_24:List AV×AV:=([iA 31],.tuple [iA 0,iA 0])
theorem k2_24:chk tab cfg1 10000 214 e2_24.1 e2_24.2=true:=by kernel_rfl
noncomputable def memo2:Memo:=(.node none (.node none (.node none .nil (.node none .nil (.node none .nil (.node none (.node none (.node (some [e2_12]) .nil .nil) .nil) .nil)))) (.node none (.node none (.node none .nil (.node none .nil (.node (some [e2_0,e2_9,e2_13,e2_14,e2_15,e2_19,e2_20]) .nil .nil))) .nil) (.node none (.node none .nil (.node none (.node none (.node none (.node (some [e2_2,e2_16,e2_17]) .nil .nil) .nil) .nil) .nil)) (.node none (.node none .nil (.node none (.node (some [e2_3,e2_4,e2_8]) .nil .nil) .nil)) .nil)))) (.node none (.node none (.node none (.node none .nil (.node none .nil (.node (some [e2_21,e2_22]) .nil .nil))) .nil) (.node none (.node none .nil (.node none (.node none (.node (some [e2_1,e2_5,e2_10]) .nil .nil) .nil) .nil)) .nil)) (.node none .nil (.node none (.node none .nil (.node none (.node none (.node none (.node (some [e2_11,e2_18]) .nil .nil) .nil) (.node (some [e2_23,e2_24]) .nil .nil)) .nil)) (.node none .nil (.node none (.node (some [e2_6,e2_7]) .nil .nil) .nil))))))
noncomputable def cfg2:Cfg:=cfgM cfg1 memo2
theorem memo2_ok (g:Good Tryz.prog tab cfg1):TbAll (fun f l=>∀e∈l,Fact Tryz.prog cfg1 f e.1 e.2) (fun i=>i) memo2:=⟨none_all,⟨none_all,⟨none_all,trivial,⟨none_all,trivial,⟨none_all,trivial,⟨none_all,⟨none_all,⟨(some_all (fact_cons (g.fact 10000 k2_12) fact_nil)),trivial,trivial⟩,trivial⟩,trivial⟩⟩⟩⟩,⟨none_all,⟨none_all,⟨none_all,trivial,⟨none_all,trivial,⟨(some_all (fact_cons (g.fact 10000 k2_0) (fact_cons (g.fact 10000 k2_9) (fact_cons (g.fact 10000 k2_13) (fact_cons (g.fact 10000 k2_14) (fact_cons (g.fact 10000 k2_15) (fact_cons (g.fact 10000 k2_19) (fact_cons (g.fact 10000 k2_20) fact_nil)))))))),trivial,trivial⟩⟩⟩,trivial⟩,⟨none_all,⟨none_all,trivial,⟨none_all,⟨none_all,⟨none_all,⟨(some_all (fact_cons (g.fact 10000 k2_2) (fact_cons (g.fact 10000 k2_16) (fact_cons (g.fact 10000 k2_17) fact_nil)))),trivial,trivial⟩,trivial⟩,trivial⟩,trivial⟩⟩,⟨none_all,⟨none_all,trivial,⟨none_all,⟨(some_all (fact_cons (g.fact 10000 k2_3) (fact_cons (g.fact 10000 k2_4) (fact_cons (g.fact 10000 k2_8) fact_nil)))),trivial,trivial⟩,trivial⟩⟩,trivial⟩⟩⟩⟩,⟨none_all,⟨none_all,⟨none_all,⟨none_all,trivial,⟨none_all,trivial,⟨(some_all (fact_cons (g.fact 10000 k2_21) (fact_cons (g.fact 10000 k2_22) fact_nil))),trivial,trivial⟩⟩⟩,trivial⟩,⟨none_all,⟨none_all,trivial,⟨none_all,⟨none_all,⟨(some_all (fact_cons (g.fact 10000 k2_1) (fact_cons (g.fact 10000 k2_5) (fact_cons (g.fact 10000 k2_10) fact_nil)))),trivial,trivial⟩,trivial⟩,trivial⟩⟩,trivial⟩⟩,⟨none_all,trivial,⟨none_all,⟨none_all,trivial,⟨none_all,⟨none_all,⟨none_all,⟨(some_all (fact_cons (g.fact 10000 k2_11) (fact_cons (g.fact 10000 k2_18) fact_nil))),trivial,trivial⟩,trivial⟩,⟨(some_all (fact_cons (g.fact 10000 k2_23) (fact_cons (g.fact 10000 k2_24) fact_nil))),trivial,trivial⟩⟩,trivial⟩⟩,⟨none_all,trivial,⟨none_all,⟨(some_all (fact_cons (g.fact 10000 k2_6) (fact_cons (g.fact 10000 k2_7) fact_nil))),trivial,trivial⟩,trivial⟩⟩⟩⟩⟩⟩
theorem good2 (g:Good Tryz.prog tab cfg1):Good Tryz.prog tab cfg2:=g.memo fun f l h=>(memo2_ok g).get f l h
def e3_0:List AV×AV:=([.agg [.bool false,.bool false,.str [48,48,48,48],iA 0,iA 0]],.tuple [iA 0,iA 0])
theorem k3_0:chk tab cfg2 10000 154 e3_0.1 e3_0.2=true:=by kernel_rfl
def e3_1:List AV×AV:=([iA 1],.tuple [iA 31,iA 59,iA 0])
theorem k3_1:chk tab cfg2 10000 218 e3_1.1 e3_1.2=true:=by kernel_rfl
def e3_2:List AV×AV:=([dA [48,48,48,88] 0 0 [] []],iA 0)
theorem k3_2:chk tab cfg2 10000 113 e3_2.1 e3_2.2=true:=by kernel_rfl
def e3_3:List AV×AV:=([dA [48,48,48,50] 0 3 [] []],iA 0)
theorem k3_3:chk tab cfg2 10000 113 e3_3.1 e3_3.2=true:=by kernel_rfl
def e3_4:List AV×AV:=([.agg [.bool false,.bool false,.str [48,48,48,50],iA 0,iA 3]],.tuple [iA 0,iA 9,iA 0])
theorem k3_4:chk tab cfg2 10000 93 e3_4.1 e3_4.2=true:=by kernel_rfl
def e3_5:List AV×AV:=([dA [48,48,48,48] 0 0 [] []],iA 0)
theorem k3_5:chk tab cfg2 10000 113 e3_5.1 e3_5.2=true:=by kernel_rfl
def e3_6:List AV×AV:=([.agg [.bool false,.bool false,.str [48,48,48,49],iA 0,iA 0]],.tuple [iA 1,iA 0])
theorem k3_6:chk tab cfg2 10000 154 e3_6.1 e3_6.2=true:=by kernel_rfl
def e3_7:List AV×AV:=([iA 12],.tuple [iA 366,iA 396,iA 0])
theorem k3_7:chk tab cfg2 10000 218 e3_7.1 e3_7.2=true:=by kernel_rfl
def e3_8:List AV×AV:=([.agg [.int .u8 1,.bool false,.bool false,.str [48,48,48,48],iA 0,iA 0,.str [48,50],.str [],.int .u8 0,.int .u8 0,.int .u8 0],.agg [.int .u8 3,.bool false,.bool false,.str [],iA 0,iA 0,.str [],.str [],.int .u8 0,.int .u8 0,.int .u8 0]],iA 0)
theorem k3_8:chk tab cfg2 10000 141 e3_8.1 e3_8.2=true:=by kernel_rfl
def e3_9:List AV×AV:=([dA [48,48,48,48] 0 0 [48,51] []],.bool true)
theorem k3_9:chk tab cfg2 10000 248 e3_9.1 e3_9.2=true:=by kernel_rfl
def e3_10:List AV×AV:=([dA [48,48,48,48] 0 0 [48,52] []],.bool true)
theorem k3_10:chk tab cfg2 10000 248 e3_10.1 e3_10.2=true:=by kernel_rfl
def e3_11:List AV×AV:=([iA 0],.tuple [iA 0,iA 30,iA 0])
theorem k3_11:chk tab cfg2 10000 218 e3_11.1 e3_11.2=true:=by kernel_rfl
def e3_12:List AV×AV:=([dA [48,48,48,48] 0 0 [48,51] []],.tuple [.int .u8 2,iA 0])
theorem k3_12:chk tab cfg2 10000 47 e3_12.1 e3_12.2=true:=by kernel_rfl
def e3_13:List AV×AV:=([iA 2],.tuple [iA 60,iA 90,iA 0])
theorem k3_13:chk tab cfg2 10000 218 e3_13.1 e3_13.2=true:=by kernel_rfl
def e3_14:List AV×AV:=([iA 3],.tuple [iA 91,iA 120,iA 0])
theorem k3_14:chk tab cfg2 10000 218 e3_14.1 e3_14.2=true:=by kernel_rfl
def e3_15:List AV×AV:=([.agg [.bool false,.bool false,.str [48,48,48,48],iA 0,iA 0,.str [48,49],.str [],.int .u8 0,.int .u8 0,.int .u8 0,.bool false,.bool false,.bool false,.str [],iA 0,iA 0,.str [],.str [],.int .u8 0,.int .u8 0,.int .u8 0],.int .u8 4],iA 0)
theorem k3_15:chk tab cfg2 10000 199 e3_15.1 e3_15.2=true:=by kernel_rfl
def e3_16:List AV×AV:=([.agg [.bool false,.bool false,.str [48,48,48,48],iA 0,iA 0,.str [48,51],.str [],.int .u8 0,.int .u8 0,.int .u8 0,.bool false,.bool false,.bool false,.str [],iA 0,iA 0,.str [],.str [],.int .u8 0,.int .u8 0,.int .u8 0],.int .u8 4],iA 0)
theorem k3_16:chk tab cfg2 10000 199 e3_16.1 e3_16.2=true:=by kernel_rfl
def e3_17:List AV×AV:=([.agg [iA 0,iA 2,iA 1]],.tuple [iA 31,iA 0])
theorem k3_17:chk tab cfg2 10000 309 e3_17.1 e3_17.2=true:=by kernel_rfl
def e3_18:List AV×AV:=([.agg [iA 0,iA 2,iA 9]],.tuple [iA 39,iA 0])
theorem k3_18:chk tab cfg2 10000 309 e3_18.1 e3_18.2=true:=by kernel_rfl
def e3_19:List AV×AV:=([iA 0],.tuple [iA 0,iA 1,iA 0])
theorem k3_19:chk tab cfg2 10000 217 e3_19.1 e3_19.2=true:=by kernel_rfl
def e3_20:List AV×AV:=([iA 31],.tuple [iA 0,iA 2,iA 0])
theorem k3_20:chk tab cfg2 10000 217 e3_20.1 e3_20.2=true:=by kernel_rfl
noncomputable def memo3:Memo:=(.node none (.node none (.node none (.node none (.node none .nil (.node (some [e3_12]) .nil .nil)) (.node none (.node none (.node none .nil (.node (some [e3_15,e3_16]) .nil .nil)) .nil) .nil)) .nil) (.node none (.node none (.node none .nil (.node none .nil (.node (some [e3_2,e3_3,e3_5]) .nil .nil))) (.node none .nil (.node none (.node none .nil (.node (some [e3_19,e3_20]) .nil .nil)) .nil))) (.node none (.node none .nil (.node none .nil (.node none (.node none (.node (some [e3_17,e3_18]) .nil .nil) .nil) .nil))) (.node none (.node none (.node none (.node (some [e3_8]) .nil .nil) .nil) .nil) (.node none (.node (some [e3_4]) .nil .nil) .nil))))) (.node none (.node none (.node none .nil (.node none .nil (.node none .nil (.node none .nil (.node (some [e3_9,e3_10]) .nil .nil))))) .nil) (.node none (.node none .nil (.node none .nil (.node none (.node none (.node (some [e3_0,e3_6]) .nil .nil) (.node (some [e3_1,e3_7,e3_11,e3_13,e3_14]) .nil .nil)) .nil))) .nil)))
noncomputable def cfg3:Cfg:=cfgM cfg2 memo3
theorem memo3_ok (g:Good Tryz.prog tab cfg2):TbAll (fun f l=>∀e∈l,Fact Tryz.prog cfg2 f e.1 e.2) (fun i=>i) memo3:=⟨none_all,⟨none_all,⟨none_all,⟨none_all,⟨none_all,trivial,⟨(some_all (fact_cons (g.fact 10000 k3_12) fact_nil)),trivial,trivial⟩⟩,⟨none_all,⟨none_all,⟨none_all,trivial,⟨(some_all (fact_cons (g.fact 10000 k3_15) (fact_cons (g.fact 10000 k3_16) fact_nil))),trivial,trivial⟩⟩,trivial⟩,trivial⟩⟩,trivial⟩,⟨none_all,⟨none_all,⟨none_all,trivial,⟨none_all,trivial,⟨(some_all (fact_cons (g.fact 10000 k3_2) (fact_cons (g.fact 10000 k3_3) (fact_cons (g.fact 10000 k3_5) fact_nil)))),trivial,trivial⟩⟩⟩,⟨none_all,trivial,⟨none_all,⟨none_all,trivial,⟨(some_all (fact_cons (g.fact 10000 k3_19) (fact_cons (g.fact 10000 k3_20) fact_nil))),trivial,trivial⟩⟩,trivial⟩⟩⟩,⟨none_all,⟨none_all,trivial,⟨none_all,trivial,⟨none_all,⟨none_all,⟨(some_all (fact_cons (g.fact 10000 k3_17) (fact_cons (g.fact 10000 k3_18) fact_nil))),trivial,trivial⟩,trivial⟩,trivial⟩⟩⟩,⟨none_all,⟨none_all,⟨none_all,⟨(some_all (fact_cons (g.fact 10000 k3_8) fact_nil)),trivial,trivial⟩,trivial⟩,trivial⟩,⟨none_all,⟨(some_all (fact_cons (g.fact 10000 k3_4) fact_nil)),trivial,trivial⟩,trivial⟩⟩⟩⟩⟩,⟨none_all,⟨none_all,⟨none_all,trivial,⟨none_all,trivial,⟨none_all,trivial,⟨none_all,trivial,⟨(some_all (fact_cons (g.fact 10000 k3_9) (fact_cons (g.fact 10000 k3_10) fact_nil))),trivial,trivial⟩⟩⟩⟩⟩,trivial⟩,⟨none_all,⟨none_all,trivial,⟨none_all,trivial,⟨none_all,⟨none_all,⟨(some_all (fact_cons (g.fact 10000 k3_0) (fact_cons (g.fact 10000 k3_6) fact_nil))),trivial,trivial⟩,⟨(some_all (fact_cons (g.fact 10000 k3_1) (fact_cons (g.fact 10000 k3_7) (fact_cons (g.fact 10000 k3_11) (fact_cons (g.fact 10000 k3_13) (fact_cons (g.fact 10000 k3_14) fact_nil)))))),trivial,trivial⟩⟩,trivial⟩⟩⟩,trivial⟩⟩⟩
theorem good3 (g:Good Tryz.prog tab cfg2):Good Tryz.prog tab cfg3:=g.memo fun f l h=>(memo3_ok g).get f l h
def e4_0:List AV×AV:=([dA [48,48,48,48] 0 0 [48,50] []],.tuple [rA 0 31 0 59,iA 0])
theorem k4_0:chk tab cfg3 10000 95 e4_0.1 e4_0.2=true:=by kernel_rfl
def e4_1:List AV×AV:=([dA [48,48,48,48] 0 0 [] []],.tuple [rA 0 0 0 365,iA 0])
theorem k4_1:chk tab cfg3 10000 197 e4_1.1 e4_1.2=true:=by kernel_rfl
def e4_2:List AV×AV:=([dA [48,48,48,49] 0 0 [48,49] []],.tuple [rA 0 366 0 396,iA 0])
theorem k4_2:chk tab cfg3 10000 197 e4_2.1 e4_2.2=true:=by kernel_rfl
def e4_3:List AV×AV:=([dA [48,48,48,48] 0 0 [] []],.tuple [rA 0 0 0 365,iA 0])
theorem k4_3:chk tab cfg3 10000 95 e4_3.1 e4_3.2=true:=by kernel_rfl
def e4_4:List AV×AV:=([dA [48,48,48,49] 0 0 [48,49] []],.tuple [rA 0 366 0 396,iA 0])
theorem k4_4:chk tab cfg3 10000 95 e4_4.1 e4_4.2=true:=by kernel_rfl
def e4_5:List AV×AV:=([.agg [.int .u8 2,.bool false,.bool false,.str [],iA 0,iA 0,.str [],.str [],.int .u8 0,.int .u8 0,.int .u8 0],.agg [.int .u8 1,.bool false,.bool false,.str [48,48,48,48],iA 0,iA 0,.str [],.str [],.int .u8 0,.int .u8 0,.int .u8 0]],iA 0)
theorem k4_5:chk tab cfg3 10000 141 e4_5.1 e4_5.2=true:=by kernel_rfl
def e4_6:List AV×AV:=([dA [48,48,48,48] 0 0 [48,51] []],.tuple [rA 0 60 0 90,iA 0])
theorem k4_6:chk tab cfg3 10000 197 e4_6.1 e4_6.2=true:=by kernel_rfl
def e4_7:List AV×AV:=([dA [48,48,48,48] 0 0 [48,52] []],.tuple [rA 0 91 0 120,iA 0])
theorem k4_7:chk tab cfg3 10000 197 e4_7.1 e4_7.2=true:=by kernel_rfl
def e4_8:List AV×AV:=([dA [48,48,48,48] 0 0 [48,49] []],.tuple [rA 0 0 0 30,iA 0])
theorem k4_8:chk tab cfg3 10000 95 e4_8.1 e4_8.2=true:=by kernel_rfl
def e4_9:List AV×AV:=([dA [48,48,48,48] 0 0 [48,51] []],.tuple [rA 0 60 0 90,iA 0])
theorem k4_9:chk tab cfg3 10000 95 e4_9.1 e4_9.2=true:=by kernel_rfl
def e4_10:List AV×AV:=([dA [48,48,48,48] 0 0 [48,52] []],.tuple [rA 0 91 0 120,iA 0])
theorem k4_10:chk tab cfg3 10000 95 e4_10.1 e4_10.2=true:=by kernel_rfl
def e4_11:List AV×AV:=([.agg [.bool false,.bool false,.str [48,48,48,48],iA 0,iA 0,.str [],.str [],.int .u8 0,.int .u8 0,.int .u8 0,.bool false,.bool false,.bool false,.str [],iA 0,iA 0,.str [],.str [],.int .u8 0,.int .u8 0,.int .u8 0]],.bool true)
theorem k4_11:chk tab cfg3 10000 202 e4_11.1 e4_11.2=true:=by kernel_rfl
def e4_12:List AV×AV:=([dA [48,48,48,48] 0 0 [48,50] [48,49]],iA 0)
theorem k4_12:chk tab cfg3 10000 59 e4_12.1 e4_12.2=true:=by kernel_rfl
def e4_13:List AV×AV:=([dA [48,48,48,48] 0 0 [48,50] [48,57]],iA 0)
theorem k4_13:chk tab cfg3 10000 59 e4_13.1 e4_13.2=true:=by kernel_rfl
def e4_14:List AV×AV:=([rA 0 0 0 31,.int .u8 2],.bool false)
theorem k4_14:chk tab cfg3 10000 61 e4_14.1 e4_14.2=true:=by kernel_rfl
noncomputable def memo4:Memo:=(.node none (.node none (.node none (.node none (.node none (.node none .nil (.node (some [e4_0,e4_3,e4_4,e4_8,e4_9,e4_10]) .nil .nil)) .nil) .nil) (.node none .nil (.node none .nil (.node (some [e4_12,e4_13]) .nil .nil)))) (.node none .nil (.node none (.node none (.node none (.node none .nil (.node (some [e4_3,e4_4,e4_9,e4_10]) .nil .nil)) .nil) .nil) (.node none (.node none (.node none (.node (some [e4_5]) .nil .nil) .nil) .nil) (.node (some [e4_14]) .nil .nil))))) (.node none .nil (.node none (.node none .nil (.node none (.node none (.node none .nil (.node (some [e4_11]) .nil .nil)) .nil) .nil)) .nil)))
noncomputable def cfg4:Cfg:=cfgM cfg3 memo4
theorem memo4_ok (g:Good Tryz.prog tab cfg3):TbAll (fun f l=>∀e∈l,Fact Tryz.prog cfg3 f e.1 e.2) (fun i=>i) memo4:=⟨none_all,⟨none_all,⟨none_all,⟨none_all,⟨none_all,⟨none_all,trivial,⟨(some_all (fact_cons (g.fact 10000 k4_0) (fact_cons (g.fact 10000 k4_3) (fact_cons (g.fact 10000 k4_4) (fact_cons (g.fact 10000 k4_8) (fact_cons (g.fact 10000 k4_9) (fact_cons (g.fact 10000 k4_10) fact_nil))))))),trivial,trivial⟩⟩,trivial⟩,trivial⟩,⟨none_all,trivial,⟨none_all,trivial,⟨(some_all (fact_cons (g.fact 10000 k4_12) (fact_cons (g.fact 10000 k4_13) fact_nil))),trivial,trivial⟩⟩⟩⟩,⟨none_all,trivial,⟨none_all,⟨none_all,⟨none_all,⟨none_all,trivial,⟨(some_all (fact_cons (g.fact 10000 k4_1) (fact_cons (g.fact 10000 k4_2) (fact_cons (g.fact 10000 k4_6) (fact_cons (g.fact 10000 k4_7) fact_nil))))),trivial,trivial⟩⟩,trivial⟩,trivial⟩,⟨none_all,⟨none_all,⟨none_all,⟨(some_all (fact_cons (g.fact 10000 k4_5) fact_nil)),trivial,trivial⟩,trivial⟩,trivial⟩,⟨(some_all (fact_cons (g.fact 10000 k4_14) fact_nil)),trivial,trivial⟩⟩⟩⟩⟩,⟨none_all,trivial,⟨none_all,⟨none_all,trivial,⟨none_all,⟨none_all,⟨none_all,trivial,⟨(some_all (fact_cons (g.fact 10000 k4_11) fact_nil)),trivial,trivial⟩⟩,trivial⟩,trivial⟩⟩,trivial⟩⟩⟩
theorem good4 (g:Good Tryz.prog tab cfg3):Good Tryz.prog tab cfg4:=g.memo fun f l h=>(memo4_ok g).get f l h
def e5_0:List AV×AV:=([.agg [.int .u8 1,.bool false,.bool false,.str [48,48,48,48],iA 0,iA 0,.str [],.str [],.int .u8 0,.int .u8 0,.int .u8 0],.agg [.int .u8 1,.bool false,.bool false,.str [48,48,48,49],iA 0,iA 0,.str [48,49],.str [],.int .u8 0,.int .u8 0,.int .u8 0]],iA 0)
theorem k5_0:chk tab cfg4 10000 141 e5_0.1 e5_0.2=true:=by kernel_rfl
def e5_1:List AV×AV:=([dA [48,48,48,48] 0 0 [48,51] [],dA [48,48,48,48] 0 0 [48,52] []],.bool true)
theorem k5_1:chk tab cfg4 10000 245 e5_1.1 e5_1.2=true:=by kernel_rfl
def e5_2:List AV×AV:=([dA [48,48,48,48] 0 0 [48,50] [48,49]],.tuple [rA 0 31 0 31,iA 0])
theorem k5_2:chk tab cfg4 10000 197 e5_2.1 e5_2.2=true:=by kernel_rfl
def e5_3:List AV×AV:=([dA [48,48,48,48] 0 0 [48,50] [48,57]],.tuple [rA 0 39 0 39,iA 0])
theorem k5_3:chk tab cfg4 10000 197 e5_3.1 e5_3.2=true:=by kernel_rfl
def e5_4:List AV×AV:=([dA [48,48,48,48] 0 0 [48,50] [48,49]],.tuple [rA 0 31 0 31,iA 0])
theorem k5_4:chk tab cfg4 10000 95 e5_4.1 e5_4.2=true:=by kernel_rfl
def e5_5:List AV×AV:=([dA [48,48,48,48] 0 0 [48,50] [48,57]],.tuple [rA 0 39 0 39,iA 0])
theorem k5_5:chk tab cfg4 10000 95 e5_5.1 e5_5.2=true:=by kernel_rfl
noncomputable def memo5:Memo:=(.node none (.node none (.node none (.node none (.node none (.node none .nil (.node (some [e5_4,e5_5]) .nil .nil)) .nil) .nil) .nil) (.node none .nil (.node none (.node none (.node none (.node none .nil (.node (some [e5_4,e5_5]) .nil .nil)) .nil) (.node none .nil (.node none .nil (.node (some [e5_1]) .nil .nil)))) (.node none (.node none (.node none (.node (some [e5_0]) .nil .nil) .nil) .nil) .nil)))) .nil)
noncomputable def cfg5:Cfg:=cfgM cfg4 memo5
theorem memo5_ok (g:Good Tryz.prog tab cfg4):TbAll (fun f l=>∀e∈l,Fact Tryz.prog cfg4 f e.1 e.2) (fun i=>i) memo5:=⟨none_all,⟨none_all,⟨none_all,⟨none_all,⟨none_all,⟨none_all,trivial,⟨(some_all (fact_cons (g.fact 10000 k5_4) (fact_cons (g.fact 10000 k5_5) fact_nil))),trivial,trivial⟩⟩,trivial⟩,trivial⟩,trivial⟩,⟨none_all,trivial,⟨none_all,⟨none_all,⟨none_all,⟨none_all,trivial,⟨(some_all (fact_cons (g.fact 10000 k5_2) (fact_cons (g.fact 10000 k5_3) fact_nil))),trivial,trivial⟩⟩,trivial⟩,⟨none_all,trivial,⟨none_all,trivial,⟨(some_all (fact_cons (g.fact 10000 k5_1) fact_nil)),trivial,trivial⟩⟩⟩⟩,⟨none_all,⟨none_all,⟨none_all,⟨(some_all (fact_cons (g.fact 10000 k5_0) fact_nil)),trivial,trivial⟩,trivial⟩,trivial⟩,trivial⟩⟩⟩⟩,trivial⟩
theorem good5 (g:Good Tryz.prog tab cfg4):Good Tryz.prog tab cfg5:=g.memo fun f l h=>(memo5_ok g).get f l h
def e6_0:List AV×AV:=([.agg [.bool false,.bool false,.str [48,48,48,48],iA 0,iA 0,.str [48,51],.str [],.int .u8 0,.int .u8 0,.int .u8 0,.bool true,.bool false,.bool false,.str [48,48,48,48],iA 0,iA 0,.str [48,52],.str [],.int .u8 0,.int .u8 0,.int .u8 0],.int .u8 3],iA 0)
theorem k6_0:chk tab cfg5 10000 199 e6_0.1 e6_0.2=true:=by kernel_rfl
def e6_1:List AV×AV:=([dA [48,48,48,48] 0 0 [48,50] [48,49],dA [48,48,48,48] 0 0 [48,50] [48,57]],.bool true)
theorem k6_1:chk tab cfg5 10000 245 e6_1.1 e6_1.2=true:=by kernel_rfl
noncomputable def memo6:Memo:=(.node none (.node none (.node none (.node none .nil (.node none (.node none (.node none .nil (.node (some [e6_0]) .nil .nil)) .nil) .nil)) .nil) (.node none .nil (.node none (.node none .nil (.node none .nil (.node none .nil (.node (some [e6_1]) .nil .nil)))) .nil))) .nil)
noncomputable def cfg6:Cfg:=cfgM cfg5 memo6
theorem memo6_ok (g:Good Tryz.prog tab cfg5):TbAll (fun f l=>∀e∈l,Fact Tryz.prog cfg5 f e.1 e.2) (fun i=>i) memo6:=⟨none_all,⟨none_all,⟨none_all,⟨none_all,trivial,⟨none_all,⟨none_all,⟨none_all,trivial,⟨(some_all (fact_cons (g.fact 10000 k6_0) fact_nil)),trivial,trivial⟩⟩,trivial⟩,trivial⟩⟩,trivial⟩,⟨none_all,trivial,⟨none_all,⟨none_all,trivial,⟨none_all,trivial,⟨none_all,trivial,⟨(some_all (fact_cons (g.fact 10000 k6_1) fact_nil)),trivial,trivial⟩⟩⟩⟩,trivial⟩⟩⟩,trivial⟩
theorem good6 (g:Good Tryz.prog tab cfg5):Good Tryz.prog tab cfg6:=g.memo fun f l h=>(memo6_ok g).get f l h
def e7_0:List AV×AV:=([.agg [.bool false,.bool false,.str [48,48,48,48],iA 0,iA 0,.str [48,50],.str [48,49],.int .u8 0,.int .u8 0,.int .u8 0,.bool true,.bool false,.bool false,.str [48,48,48,48],iA 0,iA 0,.str [48,50],.str [48,57],.int .u8 0,.int .u8 0,.int .u8 0],.int .u8 4],iA 0)
theorem k7_0:chk tab cfg6 10000 199 e7_0.1 e7_0.2=true:=by kernel_rfl
noncomputable def memo7:Memo:=(.node none (.node none (.node none (.node none .nil (.node none (.node none (.node none .nil (.node (some [e7_0]) .nil .nil)) .nil) .nil)) .nil) .nil) .nil)
noncomputable def cfg7:Cfg:=cfgM cfg6 memo7
theorem memo7_ok (g:Good Tryz.prog tab cfg6):TbAll (fun f l=>∀e∈l,Fact Tryz.prog cfg6 f e.1 e.2) (fun i=>i) memo7:=⟨none_all,⟨none_all,⟨none_all,⟨none_all,trivial,⟨none_all,⟨none_all,⟨none_all,trivial,⟨(some_all (fact_cons (g.fact 10000 k7_0) fact_nil)),trivial,trivial⟩⟩,trivial⟩,trivial⟩⟩,trivial⟩,trivial⟩,trivial⟩
theorem good7 (g:Good Tryz.prog tab cfg6):Good Tryz.prog tab cfg7:=g.memo fun f l h=>(memo7_ok g).get f l h
def e8_0:List AV×AV:=([],.bool true)
theorem k8_0:chk tab cfg7 10000 22 e8_0.1 e8_0.2=true:=by kernel_rfl
end Go.Ev
end
section
set_option maxRecDepth 100000
set_option maxHeartbeats 400000
namespace Go.Ev
open Go Go.Proofs
theorem fact_to {cfg':Cfg} {f:FuncId} {args:List AV} {v:AV} (hG:cfg.G=cfg'.G) (hr:cfg.root=cfg'.root) (h:Fact Tryz.prog cfg' f args v):Fact Tryz.prog cfg f args v:=fun C D m o w hi hok=>
 (h C D m o w (Inv.to (cfg:=cfg) (cfg':=cfg') hG.symm hr.symm hi) hok).mono fun V w' ⟨h1,h2,h3,h4⟩=>⟨h1,h2,Ext.to (cfg:=cfg') (cfg':=cfg) hG hr h3,h4⟩
theorem fact22:Fact Tryz.prog cfg 22 [] (.bool true):=fact_to (cfg':=cfg7) rfl rfl ((good7 (good6 (good5 (good4 (good3 (good2 (good1 good0))))))).fact 10000 k8_0)
theorem f22:FactW Tryz.prog cfg 22 [] [] (.bool true) []:=fun D m w hi hok=>(fact22 (Cw cfg []) D m ⟨0,[],[]⟩ w hi hok).mono fun V w' ⟨h1,h2,h3,_⟩=>⟨D,m,h1,h2,h3⟩
theorem add22 {S:Sums} (hS:SumsOK Tryz.prog cfg S):SumsOK Tryz.prog cfg (addP S 22 s22):=sums_addP hS fun args t v he hv=>by
 unfold s22 at he
 split at he
 · cases he
   cases hv
   exact f22
 · cases he
end Go.Ev
end
section
namespace Go.Ev
open Go Go.Proofs
section
variable {H:Type} {enc:TypeId×Value->H} {P:Program} {w:World} {base:Nat} {sp:Nat->Bool} {held:Bool}
theorem pair_of_trod {fuel:Nat} {e t0 t1:TypeId} {f0 f1:Field} {cs:List Value} {k:IntKind} {d:DataW H} {p:List MemPlace} (he:P.underlying e=some (.struct #[f0,f1])) (e0:f0.type=t0) (e1:f1.type=t1) (h0:P.underlying t0=some (.int k)) (h1:P.underlying t1=some (.int k))
 (o0:f0.offset=0) (o1:f1.offset=1) (c0:P.cellsOf t0=1) (c1:P.cellsOf t1=1) (hc:P.cellsOf e=2) (h:DataW.trod enc P w base sp held fuel e cs=some (d,p)) :
 ∃a b,cs=[.int k a,.int k b]/\d=.agg [.lit (.int k a),.lit (.int k b)]:=by
 cases fuel with
 | zero=>simp [DataW.trod] at h
 | succ fuel=>
   unfold DataW.trod at h
   simp only [he,hc] at h
   split at h
   · rename_i hl
     match cs,hl with
     | [x,y],_=>
       simp only [List.mapM_cons,List.mapM_nil,o0,o1,e0,e1,c0,c1,List.drop_zero,List.drop_succ_cons,List.take_succ_cons,List.take_zero,Option.map_eq_some_iff,Option.bind_eq_bind,Option.bind_eq_some_iff,Option.pure_def,Option.some.injEq] at h
       obtain ⟨xs,⟨r0,hr0,ys,⟨r1,hr1,zs,rfl,rfl⟩,rfl⟩,hx⟩:=h
       obtain ⟨n0,q0,rfl,_⟩:=DataW.trod_int h0 hr0
       obtain ⟨n1,q1,rfl,_⟩:=DataW.trod_int h1 hr1
       simp only [List.cons.injEq,and_true] at q0 q1
       subst q0 q1
       refine ⟨n0,n1,rfl,?_⟩
       have:=congrArg Prod.fst hx
       simpa using this.symm
   · cases h
theorem arr_of_trod {fuel n:Nat} {t e t0 t1:TypeId} {f0 f1:Field} {cs:List Value} {k:IntKind} {ds:List (DataW H)} {p:List MemPlace} (ht:P.underlying t=some (.array n e)) (he:P.underlying e=some (.struct #[f0,f1])) (e0:f0.type=t0) (e1:f1.type=t1) (h0:P.underlying t0=some (.int k)) (h1:P.underlying t1=some (.int k))
 (o0:f0.offset=0) (o1:f1.offset=1) (c0:P.cellsOf t0=1) (c1:P.cellsOf t1=1) (hc:P.cellsOf e=2) (h:DataW.trod enc P w base sp held fuel t cs=some (.agg ds,p)) :
 ∀i d,ds[i]? = some d->∃a b,d=.agg [.lit (.int k a),.lit (.int k b)]/\cs[2*i]? = some (.int k a)/\cs[2*i+1]? = some (.int k b):=by
 cases fuel with
 | zero=>simp [DataW.trod] at h
 | succ fuel=>
   unfold DataW.trod at h
   simp only [ht,hc] at h
   split at h
   · rename_i hl
     obtain ⟨xs,hm,hx⟩:=Option.map_eq_some_iff.1 h
     have hxs:xs.map (·.1)=ds:=by
      have:=congrArg Prod.fst hx
      simpa using this
     intro i d hd
     have hxl:xs.length=n:=by simpa using Lib.mapM_length hm
     have hi:i<n:=by
      have:=(List.getElem?_eq_some_iff.1 hd).1
      rw [←hxs] at this
      simp at this;omega
     obtain ⟨b,hb,hf⟩:=Lib.mapM_at hm i i (by simp [hi])
     obtain ⟨x,y,hc1,hc2⟩:=pair_of_trod (d:=b.1) (p:=b.2) he e0 e1 h0 h1 o0 o1 c0 c1 hc (by rw [hf])
     refine ⟨x,y,?_,?_,?_⟩
     · rw [←hxs] at hd
       simp only [List.getElem?_map,hb,Option.map_some,Option.some.injEq] at hd
       rw [←hd,hc2]
     · have:=congrArg (·[0]?) hc1
       simp only [List.getElem?_take,List.getElem?_drop,List.getElem?_cons_zero] at this
       rw [show 2*i=i*2+0 by omega]
       simpa using this
     · have:=congrArg (·[1]?) hc1
       simp only [List.getElem?_take,List.getElem?_drop] at this
       rw [show 2*i+1=i*2+1 by omega]
       simpa using this
   · cases h
theorem slice_of_trod {fuel:Nat} {t e t0 t1:TypeId} {f0 f1:Field} {cs:List Value} {k:IntKind} {ds:List (DataW H)} {p:List MemPlace} (ht:P.underlying t=some (.slice e)) (he:P.underlying e=some (.struct #[f0,f1])) (e0:f0.type=t0) (e1:f1.type=t1) (h0:P.underlying t0=some (.int k)) (h1:P.underlying t1=some (.int k))
 (o0:f0.offset=0) (o1:f1.offset=1) (c0:P.cellsOf t0=1) (c1:P.cellsOf t1=1) (hc:P.cellsOf e=2) (hne:0<ds.length) (h:DataW.trod enc P w base (fun _=>true) held fuel t cs=some (.slice ds [],p)) :
 ∃b o,cs=[.slice (some ⟨b,o,none⟩) ds.length ds.length]/\∀i d,ds[i]? = some d->∃x y,d=.agg [.lit (.int k x),.lit (.int k y)]/\w.cell? ⟨b,o+2*i,none⟩=some (.int k x)/\w.cell? ⟨b,o+(2*i+1),none⟩=some (.int k y):=by
 rcases DataW.trod_slice ht h with ⟨_,hx⟩|⟨a,len,cap,elems,rest,n,rfl,rfl,hx,hb,hle,hmax,hel,hat,hrest,_⟩
 · cases hx
 · simp only [Prod.mk.injEq,DataW.slice.injEq] at hx
   obtain ⟨⟨hds,hrs⟩,_⟩:=hx
   have hr0:rest.length=0:=by
    have:=congrArg List.length hrs
    simpa using this.symm
   have hcap:cap=len:=by
    have:=(hrest rfl).1
    omega
   have hlen:ds.length=len:=by rw [hds];simpa using hel
   subst hcap
   have main:∀i d,ds[i]? = some d->∃x y,d=.agg [.lit (.int k x),.lit (.int k y)]/\w.cell? (a.add (i*2))=some (.int k x)/\w.cell? ((a.add (i*2)).add 1)=some (.int k y):=by
    intro i d hd
    have hi:i<cap:=by
     have:=(List.getElem?_eq_some_iff.1 hd).1
     omega
    have h3:=hat i hi
    rw [hds,List.getElem?_map] at hd
    obtain ⟨b,hb',rfl⟩:=Option.map_eq_some_iff.1 hd
    rw [hb',hc] at h3
    obtain ⟨cs',hcs,htr⟩:=Option.bind_eq_some_iff.1 h3
    obtain ⟨x,y,rfl,hd2⟩:=pair_of_trod (d:=b.1) (p:=b.2) he e0 e1 h0 h1 o0 o1 c0 c1 hc htr
    obtain ⟨_,_,hcell⟩:=World.cells?_some hcs
    refine ⟨x,y,hd2,?_,?_⟩
    · have:=hcell 0 (by omega)
      simpa [Addr.add] using this
    · exact hcell 1 (by omega)
   obtain ⟨b,o,sp⟩:=a
   have hsp:sp=none:=by
    obtain ⟨x,y,_,hx0,_⟩:=main 0 (ds[0]'hne) (by simp [hne])
    simp only [Nat.zero_mul,Addr.add,if_true] at hx0
    unfold World.cell? at hx0
    cases sp with
    | none=>rfl
    | some v=>split at hx0<;>simp at hx0
   subst hsp
   refine ⟨b,o,by rw [hlen],fun i d hd=>?_⟩
   obtain ⟨x,y,h4,h5,h6⟩:=main i d hd
   refine ⟨x,y,h4,?_,?_⟩
   · by_cases e:i=0
     · subst e;simpa [Addr.add] using h5
     · rw [show o+2*i=o+i*2 by omega]
       have e2:¬i*2=0:=by omega
       rw [Addr.add,if_neg e2] at h5
       exact h5
   · by_cases e:i=0
     · subst e;simpa [Addr.add] using h6
     · rw [show o+(2*i+1)=o+i*2+1 by omega]
       have e2:¬i*2=0:=by omega
       rw [Addr.add,if_neg (by omega),Addr.add,if_neg e2] at h6
       exact h6
end
end Go.Ev
end
