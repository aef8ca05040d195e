import Derived.Test.YtafekjglclnegaaGreatDoorP37
set_option linter.all false
set_option maxRecDepth 100000
set_option maxHeartbeats 1000000
namespace Go.Ev
open Go Go.Proofs
def P21:Sums:=addG (addP (addP (addP (addS nilS 64 s57) 24 s24) 63 s63) 65 s65) 62 (winS 14 [4] w62)
theorem b21_1s (ng lg:Bool) (s:List UInt8) (e g:Int) (mo da:List UInt8) (x y z p a b c d:Int) (w:List AV) (n:Nat) (K:Cap) {Q:AV→Prop}:askA Q (pW P21 noL [.cells w false none] 21 [.agg [.int .u8 1,.slice 14 0 n K,.bool ng,.bool lg,.str s,.int .i64 e,.int .i64 g,.str mo,.str da,.int .u8 x,.int .u8 y,.int .u8 z,.int .u8 p,.int .i8 a,.int .i64 b,.int .i8 c,.int .i64 d]]) (dtN 10062300081023581111244401400014302552202430252202455666)=((fun (u0 u1 u2 u4:Bool) (u5:List AV) (u3:Prop)=>(fun (u9 ua:Bool) (u6 u7 ub uc:Prop)=>(u6→u6∧u6∧u6∧u6∧u0=false∧(u7→u7∧u7∧u7∧u7∧u1=false∧(u2=true→u3)∧(u2=false→(u4=true→Q (AV.int .i64 17))∧(u4=false→(u9=true→(isRs u5=true→(ua=true→Nat.ble n 1000=true∧Q (AV.int .i64 (refS (unR u5))))∧(ua=false→False))∧(isRs u5=false→False))∧(u9=false→False))))∧(ub→ub∧ub∧ub∧ub∧u1=true∧u3))∧(uc→uc∧uc∧uc∧uc∧u0=true∧u3)) (and true (and (Nat.ble (HAdd.hAdd 0 (HMul.hMul n 4)) (List.length w)) (belowL 14 u5))) (Nat.beq (List.length (unR u5)) n) (not u0=true) (not u1=true) (not u1=false) (not u0=false)) (not (and (and (boolEq ng false) (and (boolEq lg false) (and (bytesEq s []) (and (intEq e 0) (and (intEq g 0) true))))) (and (bytesEq mo []) (and (bytesEq da []) (and (and (intEq x 0) (and (intEq y 0) (and (intEq z 0) true))) true))))) (not (intEq p 0)) (not (and (and (intEq a 0) (and (intEq b 0) true)) (and (and (intEq c 0) (and (intEq d 0) true)) true))) (intEq (Int.ofNat n) 0) (winOf w 0 (HMul.hMul n 4)) (Q (AV.int .i64 5))):=by kernel_rfl
theorem b21_1n (ng lg:Bool) (s:List UInt8) (e g:Int) (mo da:List UInt8) (x y z p a b c d:Int) {Q:AV→Prop}:askA Q (pW P21 noL [] 21 [.agg [.int .u8 1,.nilslice,.bool ng,.bool lg,.str s,.int .i64 e,.int .i64 g,.str mo,.str da,.int .u8 x,.int .u8 y,.int .u8 z,.int .u8 p,.int .i8 a,.int .i64 b,.int .i8 c,.int .i64 d]]) (dtN 10062300081023581514302552202430252202455666)=((fun (u0 u1 u2:Bool) (u3:Prop)=>(fun (u4 u5 u6 u7:Prop)=>(u4→u4∧u4∧u4∧u4∧u0=false∧(u5→u5∧u5∧u5∧u5∧u1=false∧(u2=true→u3)∧(u2=false→Q (AV.int .i64 17)))∧(u6→u6∧u6∧u6∧u6∧u1=true∧u3))∧(u7→u7∧u7∧u7∧u7∧u0=true∧u3)) (not u0=true) (not u1=true) (not u1=false) (not u0=false)) (not (and (and (boolEq ng false) (and (boolEq lg false) (and (bytesEq s []) (and (intEq e 0) (and (intEq g 0) true))))) (and (bytesEq mo []) (and (bytesEq da []) (and (and (intEq x 0) (and (intEq y 0) (and (intEq z 0) true))) true))))) (not (intEq p 0)) (not (and (and (intEq a 0) (and (intEq b 0) true)) (and (and (intEq c 0) (and (intEq d 0) true)) true))) (Q (AV.int .i64 5))):=by kernel_rfl
theorem b21_2s (ng lg:Bool) (s:List UInt8) (e g:Int) (mo da:List UInt8) (x y z p a b c d:Int) (w:List AV) (n:Nat) (K:Cap) {Q:AV→Prop}:askA Q (pW P21 noL [.cells w false none] 21 [.agg [.int .u8 2,.slice 14 0 n K,.bool ng,.bool lg,.str s,.int .i64 e,.int .i64 g,.str mo,.str da,.int .u8 x,.int .u8 y,.int .u8 z,.int .u8 p,.int .i8 a,.int .i64 b,.int .i8 c,.int .i64 d]]) (dtN 100662358102358100052810238114322000224327020624012200642200561430255220240006302522024056)=((fun (u0 u1 u2 u7 u9 ua:Bool) (u6:Int) (u3 u4 u5 ub:Prop)=>(fun (ue:Bool) (uc ud uf ug uh ui uj uk:Prop)=>(uc→uc∧uc∧uc∧uc∧u0=false∧(ud→ud∧ud∧ud∧ud∧u1=false∧(u2=true→u3)∧(u2=false→u4∧u5∧(ue=true→u4∧u5∧Q (AV.int .i64 u6))∧(ue=false→(uf→uf∧uf∧u4∧Nat.ble (List.length mo) 1000=true∧Nat.ble (List.length da) 1000=true∧uf∧u7=false∧(ug→ug∧ug∧ug∧ug∧u9=false∧(ua=true→ub)∧(ua=false→Q (AV.int .i64 0)))∧(uh→uh∧uh∧uh∧uh∧u9=true∧ub))∧(ui→ui∧ui∧ui∧u7=true∧ub))))∧(uj→uj∧uj∧uj∧uj∧u1=true∧u3))∧(uk→uk∧uk∧uk∧uk∧u0=true∧u3)) (not (intLe u6 0)) (not u0=true) (not u1=true) (not u7=true) (not u9=true) (not u9=false) (not u7=false) (not u1=false) (not u0=false)) (not (intLe (Int.ofNat n) 0)) (not (intEq p 0)) (not (and (and (intEq a 0) (and (intEq b 0) true)) (and (and (intEq c 0) (and (intEq d 0) true)) true))) (not (intLe g 0)) (intEq (cond (hasXB (HAppend.hAppend (HAppend.hAppend s mo) da)) 1 0) 0) (not (and (intEq x 0) (and (intEq y 0) (and (intEq z 0) true)))) (errF ng lg s e g mo da x y z) (Q (AV.int .i64 5)) (Nat.ble (List.length s) 1000=true) (inR .i64 e=true) (Q (AV.int .i64 1))):=by kernel_rfl
theorem b21_2n (ng lg:Bool) (s:List UInt8) (e g:Int) (mo da:List UInt8) (x y z p a b c d:Int) {Q:AV→Prop}:askA Q (pW P21 noL [] 21 [.agg [.int .u8 2,.nilslice,.bool ng,.bool lg,.str s,.int .i64 e,.int .i64 g,.str mo,.str da,.int .u8 x,.int .u8 y,.int .u8 z,.int .u8 p,.int .i8 a,.int .i64 b,.int .i8 c,.int .i64 d]]) (dtN 10235810005281023811432200022432702062401220064220056143025522024006666)=((fun (u0 u1 u6 u7 u9:Bool) (u5:Int) (u2 u3 u4 ua:Prop)=>(fun (uc:Bool) (ub ud ue uf ug uh:Prop)=>(ub→ub∧ub∧ub∧ub∧u0=false∧(u1=true→u2)∧(u1=false→u3∧u4∧(uc=true→u3∧u4∧Q (AV.int .i64 u5))∧(uc=false→(ud→ud∧ud∧u3∧Nat.ble (List.length mo) 1000=true∧Nat.ble (List.length da) 1000=true∧ud∧u6=false∧(ue→ue∧ue∧ue∧ue∧u7=false∧(u9=true→ua)∧(u9=false→Q (AV.int .i64 0)))∧(uf→uf∧uf∧uf∧uf∧u7=true∧ua))∧(ug→ug∧ug∧ug∧u6=true∧ua))))∧(uh→uh∧uh∧uh∧uh∧u0=true∧u2)) (not (intLe u5 0)) (not u0=true) (not u6=true) (not u7=true) (not u7=false) (not u6=false) (not u0=false)) (not (intEq p 0)) (not (and (and (intEq a 0) (and (intEq b 0) true)) (and (and (intEq c 0) (and (intEq d 0) true)) true))) (not (intLe g 0)) (intEq (cond (hasXB (HAppend.hAppend (HAppend.hAppend s mo) da)) 1 0) 0) (not (and (intEq x 0) (and (intEq y 0) (and (intEq z 0) true)))) (errF ng lg s e g mo da x y z) (Q (AV.int .i64 5)) (Nat.ble (List.length s) 1000=true) (inR .i64 e=true) (Q (AV.int .i64 1))):=by kernel_rfl
theorem b21_3s (ng lg:Bool) (s:List UInt8) (e g:Int) (mo da:List UInt8) (x y z p a b c d:Int) (w:List AV) (n:Nat) (K:Cap) {Q:AV→Prop}:askA Q (pW P21 noL [.cells w false none] 21 [.agg [.int .u8 3,.slice 14 0 n K,.bool ng,.bool lg,.str s,.int .i64 e,.int .i64 g,.str mo,.str da,.int .u8 x,.int .u8 y,.int .u8 z,.int .u8 p,.int .i8 a,.int .i64 b,.int .i8 c,.int .i64 d]]) (dtN 1006623581006230008100203310202570010335331020252240010335331142025522400422020014202557004220200081020257001142025570042202000335800102025700114202557004220200033580042202001422024000140614030202405663020002202430205622024056)=((fun (u0 u1 u2 u3 u5 u7 u9 ug uk:Bool) (u4 u6 ua ub uc ud ue uf uh ui uj ul:Prop)=>(fun (um un uo up uq ur us ut uu uv uw ux:Prop)=>(fun (uy uz uA:Prop)=>(fun (uB:Prop)=>(um→um∧um∧um∧um∧u0=false∧(un→un∧un∧un∧un∧u1=false∧(uo→uo∧uo∧u2=false∧(u3=true→u4)∧(u3=false→(u5=true→u6)∧(u5=false→(up→up∧up∧up∧(not u9=true→u6)∧(not u9=false→ua∧ub∧uc∧(ud→uB)∧(uj→uB)))∧(us→us∧us∧us∧ua∧ub∧uc∧(ud→ut∧ut∧ut∧ut∧ut∧(uk=true→u6)∧(uk=false→ua∧ue∧uc∧(uf→(ur→uy)∧uA)∧(ui→(ur→uz)∧uA)))∧(uj→ut∧ut∧ut∧ut∧ut∧u6)))))∧(uv→uv∧uv∧u2=true∧u4))∧(uw→uw∧uw∧uw∧uw∧u1=true∧ul))∧(ux→ux∧ux∧ux∧ux∧u0=true∧ul)) (uq∧uq∧uq∧uq∧uq∧ua∧ue∧uc∧(uf→ur∧uy)∧(ui→ur∧uz))) (ur∧ur∧ur∧ur∧(ug=true→u6)∧(ug=false→uh)) (ur∧ur∧ur∧ur∧u6) (uu→uu∧uu∧uu∧uu∧uh)) (not u0=true) (not u1=true) (not u2=true) (not u7=true) (u7=false) (u9=true) (not u7=false) (u7=true) (u9=false) (not u2=false) (not u1=false) (not u0=false)) (not (intLe (Int.ofNat n) 0)) (not (and (and (boolEq ng false) (and (boolEq lg false) (and (bytesEq s []) (and (intEq e 0) (and (intEq g 0) true))))) (and (bytesEq mo []) (and (bytesEq da []) (and (and (intEq x 0) (and (intEq y 0) (and (intEq z 0) true))) true))))) (not (intLe 1 p)) (not (intLe p 3)) (not (intLe (rChk a b c d) 0)) (intEq a 0) (intEq c 0) (not (and (intEq 0 c) (and (intEq (hiH d p) d) true))) (not (and (intEq 0 a) (and (intEq (loH b p) b) true))) (Q (AV.int .i64 18)) (Q (AV.int .i64 1)) (inR .i64 p=true) (inR .i64 b=true) (and (intLe 1 p) (intLe p 3)=true) (okH b p=true) (inR .i64 d=true) (okH d p=true) (Q (AV.int .i64 0)) (okH d p=false) (okH b p=false) (Q (AV.int .i64 5))):=by kernel_rfl
theorem b21_3n (ng lg:Bool) (s:List UInt8) (e g:Int) (mo da:List UInt8) (x y z p a b c d:Int) {Q:AV→Prop}:askA Q (pW P21 noL [] 21 [.agg [.int .u8 3,.nilslice,.bool ng,.bool lg,.str s,.int .i64 e,.int .i64 g,.str mo,.str da,.int .u8 x,.int .u8 y,.int .u8 z,.int .u8 p,.int .i8 a,.int .i64 b,.int .i8 c,.int .i64 d]]) (dtN 100623000810020331020257001033533102025224001033533114202552240042202001420255700422020008102025700114202557004220200033580010202570011420255700422020003358004220200142202400014061403020240566302000220246666)=((fun (u0 u1 u2 u4 u6 u7 uf uj:Bool) (u3 u5 u9 ua ub uc ud ue ug uh ui:Prop)=>(fun (uk ul um un uo up uq ur us ut:Prop)=>(fun (uu uv uw:Prop)=>(fun (ux:Prop)=>(uk→uk∧uk∧uk∧uk∧u0=false∧(ul→ul∧ul∧u1=false∧(u2=true→u3)∧(u2=false→(u4=true→u5)∧(u4=false→(um→um∧um∧um∧(not u7=true→u5)∧(not u7=false→u9∧ua∧ub∧(uc→ux)∧(ui→ux)))∧(up→up∧up∧up∧u9∧ua∧ub∧(uc→uq∧uq∧uq∧uq∧uq∧(uj=true→u5)∧(uj=false→u9∧ud∧ub∧(ue→(uo→uu)∧uw)∧(uh→(uo→uv)∧uw)))∧(ui→uq∧uq∧uq∧uq∧uq∧u5)))))∧(us→us∧us∧u1=true∧u3))∧(ut→ut∧ut∧ut∧ut∧u0=true∧Q (AV.int .i64 5))) (un∧un∧un∧un∧un∧u9∧ud∧ub∧(ue→uo∧uu)∧(uh→uo∧uv))) (uo∧uo∧uo∧uo∧(uf=true→u5)∧(uf=false→ug)) (uo∧uo∧uo∧uo∧u5) (ur→ur∧ur∧ur∧ur∧ug)) (not u0=true) (not u1=true) (not u6=true) (u6=false) (u7=true) (not u6=false) (u6=true) (u7=false) (not u1=false) (not u0=false)) (not (and (and (boolEq ng false) (and (boolEq lg false) (and (bytesEq s []) (and (intEq e 0) (and (intEq g 0) true))))) (and (bytesEq mo []) (and (bytesEq da []) (and (and (intEq x 0) (and (intEq y 0) (and (intEq z 0) true))) true))))) (not (intLe 1 p)) (not (intLe p 3)) (not (intLe (rChk a b c d) 0)) (intEq a 0) (intEq c 0) (not (and (intEq 0 c) (and (intEq (hiH d p) d) true))) (not (and (intEq 0 a) (and (intEq (loH b p) b) true))) (Q (AV.int .i64 18)) (Q (AV.int .i64 1)) (inR .i64 p=true) (inR .i64 b=true) (and (intLe 1 p) (intLe p 3)=true) (okH b p=true) (inR .i64 d=true) (okH d p=true) (Q (AV.int .i64 0)) (okH d p=false) (okH b p=false)):=by kernel_rfl
theorem b21_4s (ng lg:Bool) (s:List UInt8) (e g:Int) (mo da:List UInt8) (x y z p a b c d:Int) (w:List AV) (n:Nat) (K:Cap) {Q:AV→Prop}:askA Q (pW P21 noL [.cells w false none] 21 [.agg [.int .u8 4,.slice 14 0 n K,.bool ng,.bool lg,.str s,.int .i64 e,.int .i64 g,.str mo,.str da,.int .u8 x,.int .u8 y,.int .u8 z,.int .u8 p,.int .i8 a,.int .i64 b,.int .i8 c,.int .i64 d]]) (dtN 10066235810062300081023581000562033102355810302552202403020245514556630252202430252202430205622024056)=((fun (u0 u1 u2 u3 u5 u6:Bool) (u4 u7:Prop)=>(fun (u9 ua ub uc ud ue uf ug uh ui:Prop)=>(u9→u9∧u9∧u9∧u9∧u0=false∧(ua→ua∧ua∧ua∧ua∧u1=false∧(ub→ub∧ub∧ub∧ub∧u2=false∧(u3=true→u4)∧(u3=false→(uc→uc∧uc∧u5=false∧(ud→ud∧ud∧ud∧ud∧u6=false∧Q (AV.int .i64 0))∧(ue→ue∧ue∧ue∧ue∧u6=true∧u4))∧(uf→uf∧uf∧u5=true∧u4)))∧(ug→ug∧ug∧ug∧ug∧u2=true∧u7))∧(uh→uh∧uh∧uh∧uh∧u1=true∧u7))∧(ui→ui∧ui∧ui∧ui∧u0=true∧u7)) (not u0=true) (not u1=true) (not u2=true) (not u5=true) (not u6=true) (not u6=false) (not u5=false) (not u2=false) (not u1=false) (not u0=false)) (not (intLe (Int.ofNat n) 0)) (not (and (and (boolEq ng false) (and (boolEq lg false) (and (bytesEq s []) (and (intEq e 0) (and (intEq g 0) true))))) (and (bytesEq mo []) (and (bytesEq da []) (and (and (intEq x 0) (and (intEq y 0) (and (intEq z 0) true))) true))))) (not (intEq p 0)) (not (intLe (rChk a b c d) 0)) (intEq a 0) (not (intEq c 0)) (Q (AV.int .i64 1)) (Q (AV.int .i64 5))):=by kernel_rfl
theorem b21_4n (ng lg:Bool) (s:List UInt8) (e g:Int) (mo da:List UInt8) (x y z p a b c d:Int) {Q:AV→Prop}:askA Q (pW P21 noL [] 21 [.agg [.int .u8 4,.nilslice,.bool ng,.bool lg,.str s,.int .i64 e,.int .i64 g,.str mo,.str da,.int .u8 x,.int .u8 y,.int .u8 z,.int .u8 p,.int .i8 a,.int .i64 b,.int .i8 c,.int .i64 d]]) (dtN 1006230008102358100056203310235581030255220240302024551455663025220243025220246666)=((fun (u0 u1 u2 u4 u5:Bool) (u3 u6:Prop)=>(fun (u7 u9 ua ub uc ud ue uf:Prop)=>(u7→u7∧u7∧u7∧u7∧u0=false∧(u9→u9∧u9∧u9∧u9∧u1=false∧(u2=true→u3)∧(u2=false→(ua→ua∧ua∧u4=false∧(ub→ub∧ub∧ub∧ub∧u5=false∧Q (AV.int .i64 0))∧(uc→uc∧uc∧uc∧uc∧u5=true∧u3))∧(ud→ud∧ud∧u4=true∧u3)))∧(ue→ue∧ue∧ue∧ue∧u1=true∧u6))∧(uf→uf∧uf∧uf∧uf∧u0=true∧u6)) (not u0=true) (not u1=true) (not u4=true) (not u5=true) (not u5=false) (not u4=false) (not u1=false) (not u0=false)) (not (and (and (boolEq ng false) (and (boolEq lg false) (and (bytesEq s []) (and (intEq e 0) (and (intEq g 0) true))))) (and (bytesEq mo []) (and (bytesEq da []) (and (and (intEq x 0) (and (intEq y 0) (and (intEq z 0) true))) true))))) (not (intEq p 0)) (not (intLe (rChk a b c d) 0)) (intEq a 0) (not (intEq c 0)) (Q (AV.int .i64 1)) (Q (AV.int .i64 5))):=by kernel_rfl
theorem b21_5s (ng lg:Bool) (s:List UInt8) (e g:Int) (mo da:List UInt8) (x y z p a b c d:Int) (w:List AV) (n:Nat) (K:Cap) {Q:AV→Prop}:askA Q (pW P21 noL [.cells w false none] 21 [.agg [.int .u8 5,.slice 14 0 n K,.bool ng,.bool lg,.str s,.int .i64 e,.int .i64 g,.str mo,.str da,.int .u8 x,.int .u8 y,.int .u8 z,.int .u8 p,.int .i8 a,.int .i64 b,.int .i8 c,.int .i64 d]]) (dtN 100662358100623000810235815203311400030202456614556630252202430252202430205622024056)=((fun (u0 u1 u2 u3 u5:Bool) (u4 u6:Prop)=>(fun (u7 u9 ua ub uc ud ue uf:Prop)=>(u7→u7∧u7∧u7∧u7∧u0=false∧(u9→u9∧u9∧u9∧u9∧u1=false∧(ua→ua∧ua∧ua∧ua∧u2=false∧(u3=true→u4)∧(u3=false→(ub→ub∧ub∧u5=false∧(intEq c 0=true→u4)∧(intEq c 0=false→Q (AV.int .i64 0)))∧(uc→uc∧uc∧u5=true∧u4)))∧(ud→ud∧ud∧ud∧ud∧u2=true∧u6))∧(ue→ue∧ue∧ue∧ue∧u1=true∧u6))∧(uf→uf∧uf∧uf∧uf∧u0=true∧u6)) (not u0=true) (not u1=true) (not u2=true) (not u5=true) (not u5=false) (not u2=false) (not u1=false) (not u0=false)) (not (intLe (Int.ofNat n) 0)) (not (and (and (boolEq ng false) (and (boolEq lg false) (and (bytesEq s []) (and (intEq e 0) (and (intEq g 0) true))))) (and (bytesEq mo []) (and (bytesEq da []) (and (and (intEq x 0) (and (intEq y 0) (and (intEq z 0) true))) true))))) (not (intEq p 0)) (not (intLe (rChk a b c d) 0)) (not (intEq a 0)) (Q (AV.int .i64 1)) (Q (AV.int .i64 5))):=by kernel_rfl
theorem b21_5n (ng lg:Bool) (s:List UInt8) (e g:Int) (mo da:List UInt8) (x y z p a b c d:Int) {Q:AV→Prop}:askA Q (pW P21 noL [] 21 [.agg [.int .u8 5,.nilslice,.bool ng,.bool lg,.str s,.int .i64 e,.int .i64 g,.str mo,.str da,.int .u8 x,.int .u8 y,.int .u8 z,.int .u8 p,.int .i8 a,.int .i64 b,.int .i8 c,.int .i64 d]]) (dtN 10062300081023581520331140003020245661455663025220243025220246666)=((fun (u0 u1 u2 u4:Bool) (u3 u5:Prop)=>(fun (u6 u7 u9 ua ub uc:Prop)=>(u6→u6∧u6∧u6∧u6∧u0=false∧(u7→u7∧u7∧u7∧u7∧u1=false∧(u2=true→u3)∧(u2=false→(u9→u9∧u9∧u4=false∧(intEq c 0=true→u3)∧(intEq c 0=false→Q (AV.int .i64 0)))∧(ua→ua∧ua∧u4=true∧u3)))∧(ub→ub∧ub∧ub∧ub∧u1=true∧u5))∧(uc→uc∧uc∧uc∧uc∧u0=true∧u5)) (not u0=true) (not u1=true) (not u4=true) (not u4=false) (not u1=false) (not u0=false)) (not (and (and (boolEq ng false) (and (boolEq lg false) (and (bytesEq s []) (and (intEq e 0) (and (intEq g 0) true))))) (and (bytesEq mo []) (and (bytesEq da []) (and (and (intEq x 0) (and (intEq y 0) (and (intEq z 0) true))) true))))) (not (intEq p 0)) (not (intLe (rChk a b c d) 0)) (not (intEq a 0)) (Q (AV.int .i64 1)) (Q (AV.int .i64 5))):=by kernel_rfl
theorem b21_0s (ng lg:Bool) (s:List UInt8) (e g:Int) (mo da:List UInt8) (x y z p a b c d:Int) (w:List AV) (n:Nat) (K:Cap) (kd:Int) {Q:AV→Prop}:askA Q (pW P21 noL [.cells w false none] 21 [.agg [.int .u8 kd,.slice 14 0 n K,.bool ng,.bool lg,.str s,.int .i64 e,.int .i64 g,.str mo,.str da,.int .u8 x,.int .u8 y,.int .u8 z,.int .u8 p,.int .i8 a,.int .i64 b,.int .i8 c,.int .i64 d]]) (dtN 1023312320240)=((fun (u0:Bool) (u1:Prop)=>(fun (u2 u3:Prop)=>(u2→u2∧u2∧u0=false∧not (intLe kd 5)=true∧u1)∧(u3→u3∧u3∧u0=true∧u1)) (not u0=true) (not u0=false)) (not (intLe 1 kd)) (Q (AV.int .i64 18))):=by kernel_rfl
theorem b21_0n (ng lg:Bool) (s:List UInt8) (e g:Int) (mo da:List UInt8) (x y z p a b c d kd:Int) {Q:AV→Prop}:askA Q (pW P21 noL [] 21 [.agg [.int .u8 kd,.nilslice,.bool ng,.bool lg,.str s,.int .i64 e,.int .i64 g,.str mo,.str da,.int .u8 x,.int .u8 y,.int .u8 z,.int .u8 p,.int .i8 a,.int .i64 b,.int .i8 c,.int .i64 d]]) (dtN 1023312320240)=((fun (u0:Bool) (u1:Prop)=>(fun (u2 u3:Prop)=>(u2→u2∧u2∧u0=false∧not (intLe kd 5)=true∧u1)∧(u3→u3∧u3∧u0=true∧u1)) (not u0=true) (not u0=false)) (not (intLe 1 kd)) (Q (AV.int .i64 18))):=by kernel_rfl
theorem body21:bodyOf tab 21=some (fnOf 21,codeOf 21):=by kernel_rfl
theorem P21_ok:SumsOK Tryz.prog cfg P21:=add62 (add65 (add63 (add24 (sums_add sums_nil s64_ok))))
theorem f21s {ng lg:Bool} {s:List UInt8} {e g:Int} {mo da:List UInt8} {x y z p a b c d:Int} {kd:Int} {R:List Rn} {K:Cap} (hR:inRs R) (hn:R.length≤1000) (hs:s.length≤1000) (hm:mo.length≤1000) (hda:da.length≤1000) (he : -9223372036854775808≤e∧e≤9223372036854775807) (hg : -9223372036854775808≤g∧g≤9223372036854775807) (hb : -9223372036854775808≤b∧b≤9223372036854775807) (hd : -9223372036854775808≤d∧d≤9223372036854775807) (ha : -128≤a∧a≤127) (hc : -128≤c∧c≤127) (hx:0≤x∧x≤255) (hy:0≤y∧y≤255) (hz:0≤z∧z≤255) (hp:0≤p∧p≤255):FactW Tryz.prog cfg 21 [.agg [.int .u8 kd,.slice 14 0 R.length K,.bool ng,.bool lg,.str s,.int .i64 e,.int .i64 g,.str mo,.str da,.int .u8 x,.int .u8 y,.int .u8 z,.int .u8 p,.int .i8 a,.int .i64 b,.int .i8 c,.int .i64 d]] [.cells (flat R) false none] (.int .i64 (famE kd R.length (refS R) (dZ ng lg s e g mo da x y z) p (sZ a b c d) (errF ng lg s e g mo da x y z) g (hasXB (s++mo++da)) (mZ x y z) (fitB a b c d p) (rChk a b c d) a c)) []:=by
 have hk:¬(1≤kd∧kd≤5)∨kd=1∨kd=2∨kd=3∨kd=4∨kd=5:=by omega
 rcases hk with hk|rfl|rfl|rfl|rfl|rfl
 · refine fpwOK P21_ok (L:=noL) flat_low body21 (by simp) lok_none (wp_gen fun Q' hQ=>askA_wp ((b21_0s ng lg s e g mo da x y z p a b c d (flat R) R.length K kd).mpr ?_)) (by simp [idsA])
   dsimp only
   have fin:∀v,famE kd R.length (refS R) (dZ ng lg s e g mo da x y z) p (sZ a b c d) (errF ng lg s e g mo da x y z) g (hasXB (s++mo++da)) (mZ x y z) (fitB a b c d p) (rChk a b c d) a c=v→Q' (.int .i64 v):=fun v h=>hQ _ (by rw [h])
   clear hQ
   have fin:=fin 18 (by unfold famE;grind)
   simp only [q_all,reduceCtorEq,loK,hiK,ne_eq]
   (repeat' first|exact trivial|refine ⟨?_,?_⟩|intro)<;>first|contradiction|omega|assumption
 · refine fpwOK P21_ok (L:=noL) flat_low body21 (by simp) lok_none (wp_gen fun Q' hQ=>askA_wp ((b21_1s ng lg s e g mo da x y z p a b c d (flat R) R.length K).mpr ?_)) (by simp [idsA])
   dsimp only
   have fin:∀v,famE 1 R.length (refS R) (dZ ng lg s e g mo da x y z) p (sZ a b c d) (errF ng lg s e g mo da x y z) g (hasXB (s++mo++da)) (mZ x y z) (fitB a b c d p) (rChk a b c d) a c=v→Q' (.int .i64 v):=fun v h=>hQ _ (by rw [h])
   clear hQ
   try simp only [dZ_eq]
   try simp only [sZ_eq]
   try simp only [mZ_eq]
   have bl:Nat.ble (R.length*4) (R.length*4)=true:=q_ble_t.mpr (Nat.le_refl _)
   have ir:=isRs_flat hR
   simp only [win_flat,unR_flat,belowL_flat,flat_len,Nat.zero_add,bl,ir,Bool.and_true,Bool.true_and]
   generalize refS R=ch at *
   have rnn:=@rChk_nn a b c d
   have enn:=@errF_nn ng lg s e g mo da x y z
   have eg:=@errF_g ng lg s e g mo da x y z
   have rk0:=@rChk0 a b c d
   unfold famE at fin
   generalize dZ ng lg s e g mo da x y z=dz at *
   generalize sZ a b c d=sz at *
   generalize mZ x y z=mz at *
   generalize hasXB (s++mo++da)=xb at *
   generalize errF ng lg s e g mo da x y z=ef at *
   generalize fitB a b c d p=ft at *
   generalize rChk a b c d=rk at *
   simp only [q_all,reduceCtorEq,loK,hiK,ne_eq]
   (repeat' first|exact trivial|refine ⟨?_,?_⟩|intro)<;>first|contradiction|omega|assumption|(apply fin;grind)|(exfalso;grind)|grind
 · refine fpwOK P21_ok (L:=noL) flat_low body21 (by simp) lok_none (wp_gen fun Q' hQ=>askA_wp ((b21_2s ng lg s e g mo da x y z p a b c d (flat R) R.length K).mpr ?_)) (by simp [idsA])
   dsimp only
   have fin:∀v,famE 2 R.length (refS R) (dZ ng lg s e g mo da x y z) p (sZ a b c d) (errF ng lg s e g mo da x y z) g (hasXB (s++mo++da)) (mZ x y z) (fitB a b c d p) (rChk a b c d) a c=v→Q' (.int .i64 v):=fun v h=>hQ _ (by rw [h])
   clear hQ
   try simp only [dZ_eq]
   try simp only [sZ_eq]
   try simp only [mZ_eq]
   have rnn:=@rChk_nn a b c d
   have enn:=@errF_nn ng lg s e g mo da x y z
   have eg:=@errF_g ng lg s e g mo da x y z
   have rk0:=@rChk0 a b c d
   unfold famE at fin
   generalize dZ ng lg s e g mo da x y z=dz at *
   generalize sZ a b c d=sz at *
   generalize mZ x y z=mz at *
   generalize hasXB (s++mo++da)=xb at *
   generalize errF ng lg s e g mo da x y z=ef at *
   generalize fitB a b c d p=ft at *
   generalize rChk a b c d=rk at *
   simp only [q_all,reduceCtorEq,loK,hiK,ne_eq]
   (repeat' first|exact trivial|refine ⟨?_,?_⟩|intro)<;>first|contradiction|omega|assumption|(apply fin;grind)|(exfalso;grind)|grind
 · refine fpwOK P21_ok (L:=noL) flat_low body21 (by simp) lok_none (wp_gen fun Q' hQ=>askA_wp ((b21_3s ng lg s e g mo da x y z p a b c d (flat R) R.length K).mpr ?_)) (by simp [idsA])
   dsimp only
   have fin:∀v,famE 3 R.length (refS R) (dZ ng lg s e g mo da x y z) p (sZ a b c d) (errF ng lg s e g mo da x y z) g (hasXB (s++mo++da)) (mZ x y z) (fitB a b c d p) (rChk a b c d) a c=v→Q' (.int .i64 v):=fun v h=>hQ _ (by rw [h])
   clear hQ
   try simp only [dZ_eq]
   try simp only [sZ_eq]
   try simp only [mZ_eq]
   have rnn:=@rChk_nn a b c d
   have enn:=@errF_nn ng lg s e g mo da x y z
   have eg:=@errF_g ng lg s e g mo da x y z
   have rk0:=@rChk0 a b c d
   have fi:=@fitB_iff a b c d p
   unfold famE at fin
   generalize dZ ng lg s e g mo da x y z=dz at *
   generalize sZ a b c d=sz at *
   generalize mZ x y z=mz at *
   generalize hasXB (s++mo++da)=xb at *
   generalize errF ng lg s e g mo da x y z=ef at *
   generalize fitB a b c d p=ft at *
   generalize rChk a b c d=rk at *
   simp only [q_all,reduceCtorEq,loK,hiK,ne_eq]
   (repeat' first|exact trivial|refine ⟨?_,?_⟩|intro)<;>first|contradiction|omega|assumption|(apply fin;grind)|(exfalso;grind)|grind
 · refine fpwOK P21_ok (L:=noL) flat_low body21 (by simp) lok_none (wp_gen fun Q' hQ=>askA_wp ((b21_4s ng lg s e g mo da x y z p a b c d (flat R) R.length K).mpr ?_)) (by simp [idsA])
   dsimp only
   have fin:∀v,famE 4 R.length (refS R) (dZ ng lg s e g mo da x y z) p (sZ a b c d) (errF ng lg s e g mo da x y z) g (hasXB (s++mo++da)) (mZ x y z) (fitB a b c d p) (rChk a b c d) a c=v→Q' (.int .i64 v):=fun v h=>hQ _ (by rw [h])
   clear hQ
   try simp only [dZ_eq]
   try simp only [sZ_eq]
   try simp only [mZ_eq]
   have rnn:=@rChk_nn a b c d
   have enn:=@errF_nn ng lg s e g mo da x y z
   have eg:=@errF_g ng lg s e g mo da x y z
   have rk0:=@rChk0 a b c d
   unfold famE at fin
   generalize dZ ng lg s e g mo da x y z=dz at *
   generalize sZ a b c d=sz at *
   generalize mZ x y z=mz at *
   generalize hasXB (s++mo++da)=xb at *
   generalize errF ng lg s e g mo da x y z=ef at *
   generalize fitB a b c d p=ft at *
   generalize rChk a b c d=rk at *
   simp only [q_all,reduceCtorEq,loK,hiK,ne_eq]
   (repeat' first|exact trivial|refine ⟨?_,?_⟩|intro)<;>first|contradiction|omega|assumption|(apply fin;grind)|(exfalso;grind)|grind
 · refine fpwOK P21_ok (L:=noL) flat_low body21 (by simp) lok_none (wp_gen fun Q' hQ=>askA_wp ((b21_5s ng lg s e g mo da x y z p a b c d (flat R) R.length K).mpr ?_)) (by simp [idsA])
   dsimp only
   have fin:∀v,famE 5 R.length (refS R) (dZ ng lg s e g mo da x y z) p (sZ a b c d) (errF ng lg s e g mo da x y z) g (hasXB (s++mo++da)) (mZ x y z) (fitB a b c d p) (rChk a b c d) a c=v→Q' (.int .i64 v):=fun v h=>hQ _ (by rw [h])
   clear hQ
   try simp only [dZ_eq]
   try simp only [sZ_eq]
   try simp only [mZ_eq]
   have rnn:=@rChk_nn a b c d
   have enn:=@errF_nn ng lg s e g mo da x y z
   have eg:=@errF_g ng lg s e g mo da x y z
   have rk0:=@rChk0 a b c d
   unfold famE at fin
   generalize dZ ng lg s e g mo da x y z=dz at *
   generalize sZ a b c d=sz at *
   generalize mZ x y z=mz at *
   generalize hasXB (s++mo++da)=xb at *
   generalize errF ng lg s e g mo da x y z=ef at *
   generalize fitB a b c d p=ft at *
   generalize rChk a b c d=rk at *
   simp only [q_all,reduceCtorEq,loK,hiK,ne_eq]
   (repeat' first|exact trivial|refine ⟨?_,?_⟩|intro)<;>first|contradiction|omega|assumption|(apply fin;grind)|(exfalso;grind)|grind
theorem f21n {ng lg:Bool} {s:List UInt8} {e g:Int} {mo da:List UInt8} {x y z p a b c d:Int} {kd:Int} (hs:s.length≤1000) (hm:mo.length≤1000) (hda:da.length≤1000) (he : -9223372036854775808≤e∧e≤9223372036854775807) (hg : -9223372036854775808≤g∧g≤9223372036854775807) (hb : -9223372036854775808≤b∧b≤9223372036854775807) (hd : -9223372036854775808≤d∧d≤9223372036854775807) (ha : -128≤a∧a≤127) (hc : -128≤c∧c≤127) (hx:0≤x∧x≤255) (hy:0≤y∧y≤255) (hz:0≤z∧z≤255) (hp:0≤p∧p≤255):FactW Tryz.prog cfg 21 [.agg [.int .u8 kd,.nilslice,.bool ng,.bool lg,.str s,.int .i64 e,.int .i64 g,.str mo,.str da,.int .u8 x,.int .u8 y,.int .u8 z,.int .u8 p,.int .i8 a,.int .i64 b,.int .i8 c,.int .i64 d]] [] (.int .i64 (famE kd 0 0 (dZ ng lg s e g mo da x y z) p (sZ a b c d) (errF ng lg s e g mo da x y z) g (hasXB (s++mo++da)) (mZ x y z) (fitB a b c d p) (rChk a b c d) a c)) []:=by
 have hk:¬(1≤kd∧kd≤5)∨kd=1∨kd=2∨kd=3∨kd=4∨kd=5:=by omega
 rcases hk with hk|rfl|rfl|rfl|rfl|rfl
 · refine fpwOK P21_ok (L:=noL) (fun x hx=>by cases hx) body21 (by simp) lok_none (wp_gen fun Q' hQ=>askA_wp ((b21_0n ng lg s e g mo da x y z p a b c d kd).mpr ?_)) (by simp [idsA])
   dsimp only
   have fin:∀v,famE kd 0 0 (dZ ng lg s e g mo da x y z) p (sZ a b c d) (errF ng lg s e g mo da x y z) g (hasXB (s++mo++da)) (mZ x y z) (fitB a b c d p) (rChk a b c d) a c=v→Q' (.int .i64 v):=fun v h=>hQ _ (by rw [h])
   clear hQ
   have fin:=fin 18 (by unfold famE;grind)
   simp only [q_all,reduceCtorEq,loK,hiK,ne_eq]
   (repeat' first|exact trivial|refine ⟨?_,?_⟩|intro)<;>first|contradiction|omega|assumption
 · refine fpwOK P21_ok (L:=noL) (fun x hx=>by cases hx) body21 (by simp) lok_none (wp_gen fun Q' hQ=>askA_wp ((b21_1n ng lg s e g mo da x y z p a b c d).mpr ?_)) (by simp [idsA])
   dsimp only
   have fin:∀v,famE 1 0 0 (dZ ng lg s e g mo da x y z) p (sZ a b c d) (errF ng lg s e g mo da x y z) g (hasXB (s++mo++da)) (mZ x y z) (fitB a b c d p) (rChk a b c d) a c=v→Q' (.int .i64 v):=fun v h=>hQ _ (by rw [h])
   clear hQ
   try simp only [dZ_eq]
   try simp only [sZ_eq]
   try simp only [mZ_eq]
   have rnn:=@rChk_nn a b c d
   have enn:=@errF_nn ng lg s e g mo da x y z
   have eg:=@errF_g ng lg s e g mo da x y z
   have rk0:=@rChk0 a b c d
   unfold famE at fin
   generalize dZ ng lg s e g mo da x y z=dz at *
   generalize sZ a b c d=sz at *
   generalize mZ x y z=mz at *
   generalize hasXB (s++mo++da)=xb at *
   generalize errF ng lg s e g mo da x y z=ef at *
   generalize fitB a b c d p=ft at *
   generalize rChk a b c d=rk at *
   simp only [q_all,reduceCtorEq,loK,hiK,ne_eq]
   (repeat' first|exact trivial|refine ⟨?_,?_⟩|intro)<;>first|contradiction|omega|assumption|(apply fin;grind)|(exfalso;grind)|grind
 · refine fpwOK P21_ok (L:=noL) (fun x hx=>by cases hx) body21 (by simp) lok_none (wp_gen fun Q' hQ=>askA_wp ((b21_2n ng lg s e g mo da x y z p a b c d).mpr ?_)) (by simp [idsA])
   dsimp only
   have fin:∀v,famE 2 0 0 (dZ ng lg s e g mo da x y z) p (sZ a b c d) (errF ng lg s e g mo da x y z) g (hasXB (s++mo++da)) (mZ x y z) (fitB a b c d p) (rChk a b c d) a c=v→Q' (.int .i64 v):=fun v h=>hQ _ (by rw [h])
   clear hQ
   try simp only [dZ_eq]
   try simp only [sZ_eq]
   try simp only [mZ_eq]
   have rnn:=@rChk_nn a b c d
   have enn:=@errF_nn ng lg s e g mo da x y z
   have eg:=@errF_g ng lg s e g mo da x y z
   have rk0:=@rChk0 a b c d
   unfold famE at fin
   generalize dZ ng lg s e g mo da x y z=dz at *
   generalize sZ a b c d=sz at *
   generalize mZ x y z=mz at *
   generalize hasXB (s++mo++da)=xb at *
   generalize errF ng lg s e g mo da x y z=ef at *
   generalize fitB a b c d p=ft at *
   generalize rChk a b c d=rk at *
   simp only [q_all,reduceCtorEq,loK,hiK,ne_eq]
   (repeat' first|exact trivial|refine ⟨?_,?_⟩|intro)<;>first|contradiction|omega|assumption|(apply fin;grind)|(exfalso;grind)|grind
 · refine fpwOK P21_ok (L:=noL) (fun x hx=>by cases hx) body21 (by simp) lok_none (wp_gen fun Q' hQ=>askA_wp ((b21_3n ng lg s e g mo da x y z p a b c d).mpr ?_)) (by simp [idsA])
   dsimp only
   have fin:∀v,famE 3 0 0 (dZ ng lg s e g mo da x y z) p (sZ a b c d) (errF ng lg s e g mo da x y z) g (hasXB (s++mo++da)) (mZ x y z) (fitB a b c d p) (rChk a b c d) a c=v→Q' (.int .i64 v):=fun v h=>hQ _ (by rw [h])
   clear hQ
   try simp only [dZ_eq]
   try simp only [sZ_eq]
   try simp only [mZ_eq]
   have rnn:=@rChk_nn a b c d
   have enn:=@errF_nn ng lg s e g mo da x y z
   have eg:=@errF_g ng lg s e g mo da x y z
   have rk0:=@rChk0 a b c d
   have fi:=@fitB_iff a b c d p
   unfold famE at fin
   generalize dZ ng lg s e g mo da x y z=dz at *
   generalize sZ a b c d=sz at *
   generalize mZ x y z=mz at *
   generalize hasXB (s++mo++da)=xb at *
   generalize errF ng lg s e g mo da x y z=ef at *
   generalize fitB a b c d p=ft at *
   generalize rChk a b c d=rk at *
   simp only [q_all,reduceCtorEq,loK,hiK,ne_eq]
   (repeat' first|exact trivial|refine ⟨?_,?_⟩|intro)<;>first|contradiction|omega|assumption|(apply fin;grind)|(exfalso;grind)|grind
 · refine fpwOK P21_ok (L:=noL) (fun x hx=>by cases hx) body21 (by simp) lok_none (wp_gen fun Q' hQ=>askA_wp ((b21_4n ng lg s e g mo da x y z p a b c d).mpr ?_)) (by simp [idsA])
   dsimp only
   have fin:∀v,famE 4 0 0 (dZ ng lg s e g mo da x y z) p (sZ a b c d) (errF ng lg s e g mo da x y z) g (hasXB (s++mo++da)) (mZ x y z) (fitB a b c d p) (rChk a b c d) a c=v→Q' (.int .i64 v):=fun v h=>hQ _ (by rw [h])
   clear hQ
   try simp only [dZ_eq]
   try simp only [sZ_eq]
   try simp only [mZ_eq]
   have rnn:=@rChk_nn a b c d
   have enn:=@errF_nn ng lg s e g mo da x y z
   have eg:=@errF_g ng lg s e g mo da x y z
   have rk0:=@rChk0 a b c d
   unfold famE at fin
   generalize dZ ng lg s e g mo da x y z=dz at *
   generalize sZ a b c d=sz at *
   generalize mZ x y z=mz at *
   generalize hasXB (s++mo++da)=xb at *
   generalize errF ng lg s e g mo da x y z=ef at *
   generalize fitB a b c d p=ft at *
   generalize rChk a b c d=rk at *
   simp only [q_all,reduceCtorEq,loK,hiK,ne_eq]
   (repeat' first|exact trivial|refine ⟨?_,?_⟩|intro)<;>first|contradiction|omega|assumption|(apply fin;grind)|(exfalso;grind)|grind
 · refine fpwOK P21_ok (L:=noL) (fun x hx=>by cases hx) body21 (by simp) lok_none (wp_gen fun Q' hQ=>askA_wp ((b21_5n ng lg s e g mo da x y z p a b c d).mpr ?_)) (by simp [idsA])
   dsimp only
   have fin:∀v,famE 5 0 0 (dZ ng lg s e g mo da x y z) p (sZ a b c d) (errF ng lg s e g mo da x y z) g (hasXB (s++mo++da)) (mZ x y z) (fitB a b c d p) (rChk a b c d) a c=v→Q' (.int .i64 v):=fun v h=>hQ _ (by rw [h])
   clear hQ
   try simp only [dZ_eq]
   try simp only [sZ_eq]
   try simp only [mZ_eq]
   have rnn:=@rChk_nn a b c d
   have enn:=@errF_nn ng lg s e g mo da x y z
   have eg:=@errF_g ng lg s e g mo da x y z
   have rk0:=@rChk0 a b c d
   unfold famE at fin
   generalize dZ ng lg s e g mo da x y z=dz at *
   generalize sZ a b c d=sz at *
   generalize mZ x y z=mz at *
   generalize hasXB (s++mo++da)=xb at *
   generalize errF ng lg s e g mo da x y z=ef at *
   generalize fitB a b c d p=ft at *
   generalize rChk a b c d=rk at *
   simp only [q_all,reduceCtorEq,loK,hiK,ne_eq]
   (repeat' first|exact trivial|refine ⟨?_,?_⟩|intro)<;>first|contradiction|omega|assumption|(apply fin;grind)|(exfalso;grind)|grind
end Go.Ev
