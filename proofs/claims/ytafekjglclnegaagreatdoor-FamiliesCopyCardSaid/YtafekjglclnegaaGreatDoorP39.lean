import Derived.Test.YtafekjglclnegaaGreatDoorP37
set_option linter.all false
set_option maxRecDepth 100000
set_option maxHeartbeats 4000000
namespace Go.Ev
open Go Go.Proofs
def fW(ng lg:Bool)(s:List UInt8)(e g:Int)(mo da:List UInt8)(x y z:Int)(ng2 lg2:Bool)(s2:List UInt8)(e2 g2:Int)(mo2 da2:List UInt8)(x2 y2 z2:Int):Bool:=Bool.and (Bool.and (aL ng ng2) (Bool.and (aL lg lg2) (Bool.and (af s s2) (Bool.and (aa e e2) (Bool.and (aa g g2) Bool.true))))) (Bool.and (af mo mo2) (Bool.and (af da da2) (Bool.and (Bool.and (aa x x2) (Bool.and (aa y y2) (Bool.and (aa z z2) Bool.true))) Bool.true)))
def fT(a b c d a2 b2 c2 d2:Int):Bool:=Bool.and (Bool.and (aa a a2) (Bool.and (aa b b2) Bool.true)) (Bool.and (Bool.and (aa c c2) (Bool.and (aa d d2) Bool.true)) Bool.true)
def sF(k k2 p p2:Int)(de se:Bool)(R S:List Rn):Bool:=aa k k2&&(de&&(aa p p2&&(se&&kn R S)))
def Vp:lq:=λargs ws=>match args,ws with
 | [.slice 14 0 n K],[.cells w false none]=>some (aN [aZ w,Nat.beq (b8 w).length n,Nat.ble 1 n,Nat.ble n 1000] (.ret (.slice 15 0 n (.known n),[.cells w true none])))
 | [.nilslice],[]=>some (.ret (.nilslice,[]))
 | _,_=>none
def XH:lq:=λargs ws=>match args,ws with
 | [.slice 14 0 n K,.slice 15 0 n2 K2],[.cells w false none,.cells w2 false none]=>some (aN [aZ w,aZ w2,Nat.beq (b8 w).length n,Nat.beq (b8 w2).length n2,Nat.ble n 1000,Nat.ble n2 1000] (.ret (.int .i64 (bI (kn (b8 w) (b8 w2))),[])))
 | [.slice 14 0 n K,.nilslice],[.cells w false none]=>some (aN [Nat.ble 1 n,aZ w,Nat.beq (b8 w).length n] (.ret (.int .i64 0,[])))
 | [.nilslice,.slice 14 0 n K],[.cells w false none]=>some (aN [Nat.ble 1 n,aZ w,Nat.beq (b8 w).length n] (.ret (.int .i64 0,[])))
 | [.nilslice,.nilslice],[]=>some (.ret (.int .i64 1,[]))
 | _,_=>none
def Vd:lq:=λargs ws=>match args,ws with
 | [.slice 14 0 n K,.slice 15 0 n2 K2],[.cells w false none,.cells w2 false none]=>some (aN [aZ w,aZ w2,Nat.beq (b8 w).length n,Nat.beq (b8 w2).length n2,Nat.ble n 1000,Nat.ble n2 1000] (.ret (.bool (kn (b8 w) (b8 w2)),[])))
 | [.slice 14 0 n K,.nilslice],[.cells w false none]=>some (aN [Nat.ble 1 n,aZ w,Nat.beq (b8 w).length n] (.ret (.bool false,[])))
 | [.nilslice,.slice 14 0 n K],[.cells w false none]=>some (aN [Nat.ble 1 n,aZ w,Nat.beq (b8 w).length n] (.ret (.bool false,[])))
 | [.nilslice,.nilslice],[]=>some (.ret (.bool true,[]))
 | _,_=>none
def VP:lq:=λargs ws=>match args,ws with
 | [.agg [.int .u8 k,.slice 14 0 n K,.bool ng,.bool lg,.str s,.int .i64 e,.int .i64 g,.str mo,.str da,.int .u8 x,.int .u8 y,.int .u8 z,.int .u8 p,.int .i8 a,.int .i64 b,.int .i8 c,.int .i64 d]],[.cells w false none]=>some (aN [aZ w,Nat.beq (b8 w).length n,Nat.ble 1 n,Nat.ble n 1000] (.ret (.agg [.int .u8 k,.slice 15 0 n (.known n),.bool ng,.bool lg,.str s,.int .i64 e,.int .i64 g,.str mo,.str da,.int .u8 x,.int .u8 y,.int .u8 z,.int .u8 p,.int .i8 a,.int .i64 b,.int .i8 c,.int .i64 d],[.cells w true none])))
 | [.agg [.int .u8 k,.nilslice,.bool ng,.bool lg,.str s,.int .i64 e,.int .i64 g,.str mo,.str da,.int .u8 x,.int .u8 y,.int .u8 z,.int .u8 p,.int .i8 a,.int .i64 b,.int .i8 c,.int .i64 d]],[]=>some (.ret (.agg [.int .u8 k,.nilslice,.bool ng,.bool lg,.str s,.int .i64 e,.int .i64 g,.str mo,.str da,.int .u8 x,.int .u8 y,.int .u8 z,.int .u8 p,.int .i8 a,.int .i64 b,.int .i8 c,.int .i64 d],[]))
 | _,_=>none
def Vu:lq:=λargs ws=>match args,ws with
 | [.agg [.int .u8 k,.slice 14 0 n K,.bool ng,.bool lg,.str s,.int .i64 e,.int .i64 g,.str mo,.str da,.int .u8 x,.int .u8 y,.int .u8 z,.int .u8 p,.int .i8 a,.int .i64 b,.int .i8 c,.int .i64 d],.agg [.int .u8 k2,.slice 15 0 n2 K2,.bool ng2,.bool lg2,.str s2,.int .i64 e2,.int .i64 g2,.str mo2,.str da2,.int .u8 x2,.int .u8 y2,.int .u8 z2,.int .u8 p2,.int .i8 a2,.int .i64 b2,.int .i8 c2,.int .i64 d2]],[.cells w false none,.cells w2 false none]=>some (aN [aZ w,aZ w2,Nat.beq (b8 w).length n,Nat.beq (b8 w2).length n2,Nat.ble n 1000,Nat.ble n2 1000] (.ret (.int .i64 (bI (sF k k2 p p2 (fW ng lg s e g mo da x y z ng2 lg2 s2 e2 g2 mo2 da2 x2 y2 z2) (fT a b c d a2 b2 c2 d2) (b8 w) (b8 w2))),[])))
 | [.agg [.int .u8 k,.slice 14 0 n K,.bool ng,.bool lg,.str s,.int .i64 e,.int .i64 g,.str mo,.str da,.int .u8 x,.int .u8 y,.int .u8 z,.int .u8 p,.int .i8 a,.int .i64 b,.int .i8 c,.int .i64 d],.agg [.int .u8 k2,.nilslice,.bool ng2,.bool lg2,.str s2,.int .i64 e2,.int .i64 g2,.str mo2,.str da2,.int .u8 x2,.int .u8 y2,.int .u8 z2,.int .u8 p2,.int .i8 a2,.int .i64 b2,.int .i8 c2,.int .i64 d2]],[.cells w false none]=>some (aN [Nat.ble 1 n,aZ w,Nat.beq (b8 w).length n,Nat.ble n 1000] (.ret (.int .i64 (bI (sF k k2 p p2 (fW ng lg s e g mo da x y z ng2 lg2 s2 e2 g2 mo2 da2 x2 y2 z2) (fT a b c d a2 b2 c2 d2) (b8 w) [])),[])))
 | [.agg [.int .u8 k,.nilslice,.bool ng,.bool lg,.str s,.int .i64 e,.int .i64 g,.str mo,.str da,.int .u8 x,.int .u8 y,.int .u8 z,.int .u8 p,.int .i8 a,.int .i64 b,.int .i8 c,.int .i64 d],.agg [.int .u8 k2,.slice 14 0 n K,.bool ng2,.bool lg2,.str s2,.int .i64 e2,.int .i64 g2,.str mo2,.str da2,.int .u8 x2,.int .u8 y2,.int .u8 z2,.int .u8 p2,.int .i8 a2,.int .i64 b2,.int .i8 c2,.int .i64 d2]],[.cells w false none]=>some (aN [Nat.ble 1 n,aZ w,Nat.beq (b8 w).length n,Nat.ble n 1000] (.ret (.int .i64 (bI (sF k k2 p p2 (fW ng lg s e g mo da x y z ng2 lg2 s2 e2 g2 mo2 da2 x2 y2 z2) (fT a b c d a2 b2 c2 d2) [] (b8 w))),[])))
 | [.agg [.int .u8 k,.nilslice,.bool ng,.bool lg,.str s,.int .i64 e,.int .i64 g,.str mo,.str da,.int .u8 x,.int .u8 y,.int .u8 z,.int .u8 p,.int .i8 a,.int .i64 b,.int .i8 c,.int .i64 d],.agg [.int .u8 k2,.nilslice,.bool ng2,.bool lg2,.str s2,.int .i64 e2,.int .i64 g2,.str mo2,.str da2,.int .u8 x2,.int .u8 y2,.int .u8 z2,.int .u8 p2,.int .i8 a2,.int .i64 b2,.int .i8 c2,.int .i64 d2]],[]=>some (.ret (.int .i64 (bI (sF k k2 p p2 (fW ng lg s e g mo da x y z ng2 lg2 s2 e2 g2 mo2 da2 x2 y2 z2) (fT a b c d a2 b2 c2 d2) [] [])),[]))
 | _,_=>none
def V7:lq:=λargs ws=>match args,ws with
 | [.agg [.int .u8 k,.slice 14 0 n K,.bool ng,.bool lg,.str s,.int .i64 e,.int .i64 g,.str mo,.str da,.int .u8 x,.int .u8 y,.int .u8 z,.int .u8 p,.int .i8 a,.int .i64 b,.int .i8 c,.int .i64 d],.agg [.int .u8 k2,.slice 15 0 n2 K2,.bool ng2,.bool lg2,.str s2,.int .i64 e2,.int .i64 g2,.str mo2,.str da2,.int .u8 x2,.int .u8 y2,.int .u8 z2,.int .u8 p2,.int .i8 a2,.int .i64 b2,.int .i8 c2,.int .i64 d2]],[.cells w false none,.cells w2 false none]=>some (aN [aZ w,aZ w2,Nat.beq (b8 w).length n,Nat.beq (b8 w2).length n2,Nat.ble n 1000,Nat.ble n2 1000] (.ret (.bool (sF k k2 p p2 (fW ng lg s e g mo da x y z ng2 lg2 s2 e2 g2 mo2 da2 x2 y2 z2) (fT a b c d a2 b2 c2 d2) (b8 w) (b8 w2)),[])))
 | [.agg [.int .u8 k,.slice 14 0 n K,.bool ng,.bool lg,.str s,.int .i64 e,.int .i64 g,.str mo,.str da,.int .u8 x,.int .u8 y,.int .u8 z,.int .u8 p,.int .i8 a,.int .i64 b,.int .i8 c,.int .i64 d],.agg [.int .u8 k2,.nilslice,.bool ng2,.bool lg2,.str s2,.int .i64 e2,.int .i64 g2,.str mo2,.str da2,.int .u8 x2,.int .u8 y2,.int .u8 z2,.int .u8 p2,.int .i8 a2,.int .i64 b2,.int .i8 c2,.int .i64 d2]],[.cells w false none]=>some (aN [Nat.ble 1 n,aZ w,Nat.beq (b8 w).length n,Nat.ble n 1000] (.ret (.bool (sF k k2 p p2 (fW ng lg s e g mo da x y z ng2 lg2 s2 e2 g2 mo2 da2 x2 y2 z2) (fT a b c d a2 b2 c2 d2) (b8 w) []),[])))
 | [.agg [.int .u8 k,.nilslice,.bool ng,.bool lg,.str s,.int .i64 e,.int .i64 g,.str mo,.str da,.int .u8 x,.int .u8 y,.int .u8 z,.int .u8 p,.int .i8 a,.int .i64 b,.int .i8 c,.int .i64 d],.agg [.int .u8 k2,.slice 14 0 n K,.bool ng2,.bool lg2,.str s2,.int .i64 e2,.int .i64 g2,.str mo2,.str da2,.int .u8 x2,.int .u8 y2,.int .u8 z2,.int .u8 p2,.int .i8 a2,.int .i64 b2,.int .i8 c2,.int .i64 d2]],[.cells w false none]=>some (aN [Nat.ble 1 n,aZ w,Nat.beq (b8 w).length n,Nat.ble n 1000] (.ret (.bool (sF k k2 p p2 (fW ng lg s e g mo da x y z ng2 lg2 s2 e2 g2 mo2 da2 x2 y2 z2) (fT a b c d a2 b2 c2 d2) [] (b8 w)),[])))
 | [.agg [.int .u8 k,.nilslice,.bool ng,.bool lg,.str s,.int .i64 e,.int .i64 g,.str mo,.str da,.int .u8 x,.int .u8 y,.int .u8 z,.int .u8 p,.int .i8 a,.int .i64 b,.int .i8 c,.int .i64 d],.agg [.int .u8 k2,.nilslice,.bool ng2,.bool lg2,.str s2,.int .i64 e2,.int .i64 g2,.str mo2,.str da2,.int .u8 x2,.int .u8 y2,.int .u8 z2,.int .u8 p2,.int .i8 a2,.int .i64 b2,.int .i8 c2,.int .i64 d2]],[]=>some (.ret (.bool (sF k k2 p p2 (fW ng lg s e g mo da x y z ng2 lg2 s2 e2 g2 mo2 da2 x2 y2 z2) (fT a b c d a2 b2 c2 d2) [] []),[]))
 | _,_=>none
def Su:bq:=gu dF 55 (gD 14 [4,4] XH)
def Rd:bq:=gu dF 77 (gD 14 [4,4] Vd)
def XF:bq:=gu dF 76 (gD 14 [4] Vp)
theorem VM(w:List AV)(n:Nat)(K:dv){Q:EQ->Prop}:aO Q (bT dF aW [.cells w false none] 76 [.slice 14 0 n K]) (b_ 11144270203)=((λ(u1 u2:List AV)(u0:Prop)=>(λ(u3:Bool)=>aa (Int.ofNat n) 0=false/\Nat.ble n 10000=true/\u0/\u0/\u0/\Nat.ble (HAdd.hAdd 0 (HMul.hMul n 4)) (List.length w)=true/\(eF u1=true->(u3=true->Q (AV.slice 15 0 n (dv.known n),{ n:=1,os:=[aw.cells (gP u2 0 u1) true Option.none],le:=[] }))/\(u3=false->False))/\(eF u1=false->False)) (Nat.ble (HAdd.hAdd 0 (List.length u1)) (List.length u2))) (List.take (HMul.hMul n 4) w) (jb [AV.int .i8 0,AV.int .i64 0,AV.int .i8 0,AV.int .i64 0] n) (Nat.ble n n=true)):=by kernel_rfl
theorem Xx{Q:AV->Prop}:aO Q (pW dF aW [] 76 [.nilslice]) (.e .z)=(Q AV.nilslice):=by kernel_rfl
theorem Un(k:Int)(ng lg:Bool)(s:List UInt8)(e g:Int)(mo da:List UInt8)(x y z p a b c d:Int)(w:List AV)(n:Nat)(K:dv){Q:EQ->Prop}:aO Q (bT XF aW [.cells w false none] 27 [.agg [.int .u8 k,.slice 14 0 n K,.bool ng,.bool lg,.str s,.int .i64 e,.int .i64 g,.str mo,.str da,.int .u8 x,.int .u8 y,.int .u8 z,.int .u8 p,.int .i8 a,.int .i64 b,.int .i8 c,.int .i64 d]]) (b_ 111111066444440)=((λ(u1:Bool)(u0 u2:List AV)=>(λ(u5:aw)(u3 u4:Bool)=>(u3=true->(aZ u0=true->(u4=true->(Nat.ble 1 n=true->(u1=true->Q (AV.agg u2,{ n:=3,os:=[aw.cells u0 true Option.none,u5,u5],le:=[] }))/\(u1=false->False))/\(Nat.ble 1 n=false->False))/\(u4=false->False))/\(aZ u0=false->False))/\(u3=false->False)) (aw.cells u2 true Option.none) (and true (and (Nat.ble (HAdd.hAdd 0 (HMul.hMul n 4)) (List.length w)) (aG 14 u0))) (Nat.beq (List.length (b8 u0)) n)) (Nat.ble n 1000) (aY w 0 (HMul.hMul n 4)) [AV.int .u8 k,AV.slice 17 0 n (dv.known n),AV.bool ng,AV.bool lg,AV.str s,AV.int .i64 e,AV.int .i64 g,AV.str mo,AV.str da,AV.int .u8 x,AV.int .u8 y,AV.int .u8 z,AV.int .u8 p,AV.int .i8 a,AV.int .i64 b,AV.int .i8 c,AV.int .i64 d]):=by kernel_rfl
theorem WS(k:Int)(ng lg:Bool)(s:List UInt8)(e g:Int)(mo da:List UInt8)(x y z p a b c d:Int){Q:AV->Prop}:aO Q (pW XF aW [] 27 [.agg [.int .u8 k,.nilslice,.bool ng,.bool lg,.str s,.int .i64 e,.int .i64 g,.str mo,.str da,.int .u8 x,.int .u8 y,.int .u8 z,.int .u8 p,.int .i8 a,.int .i64 b,.int .i8 c,.int .i64 d]]) (b_ 100066)=(Q (AV.agg [AV.int .u8 k,AV.nilslice,AV.bool ng,AV.bool lg,AV.str s,AV.int .i64 e,AV.int .i64 g,AV.str mo,AV.str da,AV.int .u8 x,AV.int .u8 y,AV.int .u8 z,AV.int .u8 p,AV.int .i8 a,AV.int .i64 b,AV.int .i8 c,AV.int .i64 d])):=by kernel_rfl
theorem SR(k:Int)(ng lg:Bool)(s:List UInt8)(e g:Int)(mo da:List UInt8)(x y z p a b c d k2:Int)(ng2 lg2:Bool)(s2:List UInt8)(e2 g2:Int)(mo2 da2:List UInt8)(x2 y2 z2 p2 a2 b2 c2 d2:Int)(w:List AV)(n:Nat)(K:dv)(w2:List AV)(n2:Nat)(K2:dv){Q:AV->Prop}:aO Q (pW Su aW [.cells w false none,.cells w2 false none] 19 [.agg [.int .u8 k,.slice 14 0 n K,.bool ng,.bool lg,.str s,.int .i64 e,.int .i64 g,.str mo,.str da,.int .u8 x,.int .u8 y,.int .u8 z,.int .u8 p,.int .i8 a,.int .i64 b,.int .i8 c,.int .i64 d],.agg [.int .u8 k2,.slice 15 0 n2 K2,.bool ng2,.bool lg2,.str s2,.int .i64 e2,.int .i64 g2,.str mo2,.str da2,.int .u8 x2,.int .u8 y2,.int .u8 z2,.int .u8 p2,.int .i8 a2,.int .i64 b2,.int .i8 c2,.int .i64 d2]]) (b_ 156238100052381023811111111444444400143252252432022024320622062400)=((λ(u0 u1 u2 u3 u7 u9:Bool)(u5:List AV)(u6:Nat)(u4:Prop)=>(λ(ue:Bool)(ud:List AV)(ua ub uc uf ug uh:Prop)=>(λ(ui uj:Bool)=>(ua->ua/\ua/\ua/\ua/\u0=false/\(ub->ub/\ub/\ub/\ub/\u1=false/\(uc->uc/\uc/\uc/\uc/\u2=false/\(u3=true->u4)/\(u3=false->(ui=true->(aZ u5=true->(aZ ud=true->(ue=true->(uj=true->(u7=true->(u9=true->Q (AV.int .i64 (bI (kn (b8 u5) (b8 ud)))))/\(u9=false->False))/\(u7=false->False))/\(uj=false->False))/\(ue=false->False))/\(aZ ud=false->False))/\(aZ u5=false->False))/\(ui=false->False)))/\(uf->uf/\uf/\uf/\uf/\u2=true/\u4))/\(ug->ug/\ug/\ug/\ug/\u1=true/\u4))/\(uh->uh/\uh/\uh/\uh/\u0=true/\u4)) (and (and true (and (Nat.ble (HAdd.hAdd 0 (HMul.hMul n 4)) (List.length w)) (aG 14 u5))) (and (Nat.ble (HAdd.hAdd 0 u6) (List.length w2)) (aG 14 ud))) (Nat.beq (List.length (b8 ud)) n2)) (Nat.beq (List.length (b8 u5)) n) (aY w2 0 u6) (not u0=true) (not u1=true) (not u2=true) (not u2=false) (not u1=false) (not u0=false)) (not (aa k k2)) (not (and (and (aL ng ng2) (and (aL lg lg2) (and (af s s2) (and (aa e e2) (and (aa g g2) true))))) (and (af mo mo2) (and (af da da2) (and (and (aa x x2) (and (aa y y2) (and (aa z z2) true))) true))))) (not (aa p p2)) (not (and (and (aa a a2) (and (aa b b2) true)) (and (and (aa c c2) (and (aa d d2) true)) true))) (Nat.ble n 1000) (Nat.ble n2 1000) (aY w 0 (HMul.hMul n 4)) (HMul.hMul n2 4) (Q (AV.int .i64 0))):=by kernel_rfl
theorem SD(k:Int)(ng lg:Bool)(s:List UInt8)(e g:Int)(mo da:List UInt8)(x y z p a b c d k2:Int)(ng2 lg2:Bool)(s2:List UInt8)(e2 g2:Int)(mo2 da2:List UInt8)(x2 y2 z2 p2 a2 b2 c2 d2:Int)(w:List AV)(n:Nat)(K:dv){Q:AV->Prop}:aO Q (pW Su aW [.cells w false none] 19 [.agg [.int .u8 k,.slice 14 0 n K,.bool ng,.bool lg,.str s,.int .i64 e,.int .i64 g,.str mo,.str da,.int .u8 x,.int .u8 y,.int .u8 z,.int .u8 p,.int .i8 a,.int .i64 b,.int .i8 c,.int .i64 d],.agg [.int .u8 k2,.nilslice,.bool ng2,.bool lg2,.str s2,.int .i64 e2,.int .i64 g2,.str mo2,.str da2,.int .u8 x2,.int .u8 y2,.int .u8 z2,.int .u8 p2,.int .i8 a2,.int .i64 b2,.int .i8 c2,.int .i64 d2]]) (b_ 156238100052381023811111444400143252252432022024320622062400)=((λ(u0 u1 u2 u3:Bool)(u5:List AV)(u4:Prop)=>(λ(ua ub:Bool)(u6 u7 u9 uc ud ue:Prop)=>(u6->u6/\u6/\u6/\u6/\u0=false/\(u7->u7/\u7/\u7/\u7/\u1=false/\(u9->u9/\u9/\u9/\u9/\u2=false/\(u3=true->u4)/\(u3=false->(ua=true->(Nat.ble 1 n=true->(aZ u5=true->(ub=true->u4)/\(ub=false->False))/\(aZ u5=false->False))/\(Nat.ble 1 n=false->False))/\(ua=false->False)))/\(uc->uc/\uc/\uc/\uc/\u2=true/\u4))/\(ud->ud/\ud/\ud/\ud/\u1=true/\u4))/\(ue->ue/\ue/\ue/\ue/\u0=true/\u4)) (and true (and (Nat.ble (HAdd.hAdd 0 (HMul.hMul n 4)) (List.length w)) (aG 14 u5))) (Nat.beq (List.length (b8 u5)) n) (not u0=true) (not u1=true) (not u2=true) (not u2=false) (not u1=false) (not u0=false)) (not (aa k k2)) (not (and (and (aL ng ng2) (and (aL lg lg2) (and (af s s2) (and (aa e e2) (and (aa g g2) true))))) (and (af mo mo2) (and (af da da2) (and (and (aa x x2) (and (aa y y2) (and (aa z z2) true))) true))))) (not (aa p p2)) (not (and (and (aa a a2) (and (aa b b2) true)) (and (and (aa c c2) (and (aa d d2) true)) true))) (aY w 0 (HMul.hMul n 4)) (Q (AV.int .i64 0))):=by kernel_rfl
theorem QI(k:Int)(ng lg:Bool)(s:List UInt8)(e g:Int)(mo da:List UInt8)(x y z p a b c d k2:Int)(ng2 lg2:Bool)(s2:List UInt8)(e2 g2:Int)(mo2 da2:List UInt8)(x2 y2 z2 p2 a2 b2 c2 d2:Int)(w:List AV)(n:Nat)(K:dv){Q:AV->Prop}:aO Q (pW Su aW [.cells w false none] 19 [.agg [.int .u8 k,.nilslice,.bool ng,.bool lg,.str s,.int .i64 e,.int .i64 g,.str mo,.str da,.int .u8 x,.int .u8 y,.int .u8 z,.int .u8 p,.int .i8 a,.int .i64 b,.int .i8 c,.int .i64 d],.agg [.int .u8 k2,.slice 14 0 n K,.bool ng2,.bool lg2,.str s2,.int .i64 e2,.int .i64 g2,.str mo2,.str da2,.int .u8 x2,.int .u8 y2,.int .u8 z2,.int .u8 p2,.int .i8 a2,.int .i64 b2,.int .i8 c2,.int .i64 d2]]) (b_ 156238100052381023811111444400143252252432022024320622062400)=((λ(u0 u1 u2 u3:Bool)(u5:List AV)(u4:Prop)=>(λ(ua ub:Bool)(u6 u7 u9 uc ud ue:Prop)=>(u6->u6/\u6/\u6/\u6/\u0=false/\(u7->u7/\u7/\u7/\u7/\u1=false/\(u9->u9/\u9/\u9/\u9/\u2=false/\(u3=true->u4)/\(u3=false->(ua=true->(Nat.ble 1 n=true->(aZ u5=true->(ub=true->u4)/\(ub=false->False))/\(aZ u5=false->False))/\(Nat.ble 1 n=false->False))/\(ua=false->False)))/\(uc->uc/\uc/\uc/\uc/\u2=true/\u4))/\(ud->ud/\ud/\ud/\ud/\u1=true/\u4))/\(ue->ue/\ue/\ue/\ue/\u0=true/\u4)) (and true (and (Nat.ble (HAdd.hAdd 0 (HMul.hMul n 4)) (List.length w)) (aG 14 u5))) (Nat.beq (List.length (b8 u5)) n) (not u0=true) (not u1=true) (not u2=true) (not u2=false) (not u1=false) (not u0=false)) (not (aa k k2)) (not (and (and (aL ng ng2) (and (aL lg lg2) (and (af s s2) (and (aa e e2) (and (aa g g2) true))))) (and (af mo mo2) (and (af da da2) (and (and (aa x x2) (and (aa y y2) (and (aa z z2) true))) true))))) (not (aa p p2)) (not (and (and (aa a a2) (and (aa b b2) true)) (and (and (aa c c2) (and (aa d d2) true)) true))) (aY w 0 (HMul.hMul n 4)) (Q (AV.int .i64 0))):=by kernel_rfl
theorem RC(k:Int)(ng lg:Bool)(s:List UInt8)(e g:Int)(mo da:List UInt8)(x y z p a b c d k2:Int)(ng2 lg2:Bool)(s2:List UInt8)(e2 g2:Int)(mo2 da2:List UInt8)(x2 y2 z2 p2 a2 b2 c2 d2:Int){Q:AV->Prop}:aO Q (pW Su aW [] 19 [.agg [.int .u8 k,.nilslice,.bool ng,.bool lg,.str s,.int .i64 e,.int .i64 g,.str mo,.str da,.int .u8 x,.int .u8 y,.int .u8 z,.int .u8 p,.int .i8 a,.int .i64 b,.int .i8 c,.int .i64 d],.agg [.int .u8 k2,.nilslice,.bool ng2,.bool lg2,.str s2,.int .i64 e2,.int .i64 g2,.str mo2,.str da2,.int .u8 x2,.int .u8 y2,.int .u8 z2,.int .u8 p2,.int .i8 a2,.int .i64 b2,.int .i8 c2,.int .i64 d2]]) (b_ 15623810005238102381000143252252432022024320622062400)=((λ(u0 u1 u2 u3:Bool)(u4:Prop)=>(λ(u5 u6 u7 u9 ua ub:Prop)=>(u5->u5/\u5/\u5/\u5/\u0=false/\(u6->u6/\u6/\u6/\u6/\u1=false/\(u7->u7/\u7/\u7/\u7/\u2=false/\(u3=true->u4)/\(u3=false->Q (AV.int .i64 1)))/\(u9->u9/\u9/\u9/\u9/\u2=true/\u4))/\(ua->ua/\ua/\ua/\ua/\u1=true/\u4))/\(ub->ub/\ub/\ub/\ub/\u0=true/\u4)) (not u0=true) (not u1=true) (not u2=true) (not u2=false) (not u1=false) (not u0=false)) (not (aa k k2)) (not (and (and (aL ng ng2) (and (aL lg lg2) (and (af s s2) (and (aa e e2) (and (aa g g2) true))))) (and (af mo mo2) (and (af da da2) (and (and (aa x x2) (and (aa y y2) (and (aa z z2) true))) true))))) (not (aa p p2)) (not (and (and (aa a a2) (and (aa b b2) true)) (and (and (aa c c2) (and (aa d d2) true)) true))) (Q (AV.int .i64 0))):=by kernel_rfl
theorem Qj(k:Int)(ng lg:Bool)(s:List UInt8)(e g:Int)(mo da:List UInt8)(x y z p a b c d k2:Int)(ng2 lg2:Bool)(s2:List UInt8)(e2 g2:Int)(mo2 da2:List UInt8)(x2 y2 z2 p2 a2 b2 c2 d2:Int)(w:List AV)(n:Nat)(K:dv)(w2:List AV)(n2:Nat)(K2:dv){Q:AV->Prop}:aO Q (pW Rd aW [.cells w false none,.cells w2 false none] 28 [.agg [.int .u8 k,.slice 14 0 n K,.bool ng,.bool lg,.str s,.int .i64 e,.int .i64 g,.str mo,.str da,.int .u8 x,.int .u8 y,.int .u8 z,.int .u8 p,.int .i8 a,.int .i64 b,.int .i8 c,.int .i64 d],.agg [.int .u8 k2,.slice 15 0 n2 K2,.bool ng2,.bool lg2,.str s2,.int .i64 e2,.int .i64 g2,.str mo2,.str da2,.int .u8 x2,.int .u8 y2,.int .u8 z2,.int .u8 p2,.int .i8 a2,.int .i64 b2,.int .i8 c2,.int .i64 d2]]) (b_ 1663381000633810053381338111111112444444420220242252252422022024220622062400)=((λ(u1 u3 u6 u7:Bool)(u4:List AV)(u5:Nat)(u0 u2 u9 ua ub:Prop)=>(λ(uf:Bool)(ue:List AV)(uc ud ug uh:Prop)=>(λ(ui uj:Bool)=>(u0->u0/\u0/\u0/\u0/\u0/\(uc->uc/\uc/\uc/\uc/\uc/\(u2->u2/\u2/\u2/\u2/\u2/\(ud->ud/\ud/\ud/\ud/\(ui=true->(aZ u4=true->(aZ ue=true->(uf=true->(uj=true->(u6=true->(u7=true->ud/\Q (AV.bool (kn (b8 u4) (b8 ue))))/\(u7=false->False))/\(u6=false->False))/\(uj=false->False))/\(uf=false->False))/\(aZ ue=false->False))/\(aZ u4=false->False))/\(ui=false->False))/\(ug->ug/\ug/\ug/\ug/\ug/\u9))/\(ua->ua/\ua/\ua/\ua/\ua/\u9))/\(uh->uh/\uh/\uh/\uh/\uh/\u9))/\(ub->ub/\ub/\ub/\ub/\ub/\u9)) (and (and true (and (Nat.ble (HAdd.hAdd 0 (HMul.hMul n 4)) (List.length w)) (aG 14 u4))) (and (Nat.ble (HAdd.hAdd 0 u5) (List.length w2)) (aG 14 ue))) (Nat.beq (List.length (b8 ue)) n2)) (Nat.beq (List.length (b8 u4)) n) (aY w2 0 u5) (u1=true) (u3=true) (u3=false) (u1=false)) (and (and (aL ng ng2) (and (aL lg lg2) (and (af s s2) (and (aa e e2) (and (aa g g2) true))))) (and (af mo mo2) (and (af da da2) (and (and (aa x x2) (and (aa y y2) (and (aa z z2) true))) true)))) (and (and (aa a a2) (and (aa b b2) true)) (and (and (aa c c2) (and (aa d d2) true)) true)) (Nat.ble n 1000) (Nat.ble n2 1000) (aY w 0 (HMul.hMul n 4)) (HMul.hMul n2 4) (aa k k2=true) (aa p p2=true) (Q (AV.bool false)) (aa p p2=false) (aa k k2=false)):=by kernel_rfl
theorem OQ(k:Int)(ng lg:Bool)(s:List UInt8)(e g:Int)(mo da:List UInt8)(x y z p a b c d k2:Int)(ng2 lg2:Bool)(s2:List UInt8)(e2 g2:Int)(mo2 da2:List UInt8)(x2 y2 z2 p2 a2 b2 c2 d2:Int)(w:List AV)(n:Nat)(K:dv){Q:AV->Prop}:aO Q (pW Rd aW [.cells w false none] 28 [.agg [.int .u8 k,.slice 14 0 n K,.bool ng,.bool lg,.str s,.int .i64 e,.int .i64 g,.str mo,.str da,.int .u8 x,.int .u8 y,.int .u8 z,.int .u8 p,.int .i8 a,.int .i64 b,.int .i8 c,.int .i64 d],.agg [.int .u8 k2,.nilslice,.bool ng2,.bool lg2,.str s2,.int .i64 e2,.int .i64 g2,.str mo2,.str da2,.int .u8 x2,.int .u8 y2,.int .u8 z2,.int .u8 p2,.int .i8 a2,.int .i64 b2,.int .i8 c2,.int .i64 d2]]) (b_ 1663381000633810053381338111112444420220242252252422022024220622062400)=((λ(u1 u3:Bool)(u4:List AV)(u0 u2 u5 u6 u7:Prop)=>(λ(ub uc:Bool)(u9 ua ud ue:Prop)=>(u0->u0/\u0/\u0/\u0/\u0/\(u9->u9/\u9/\u9/\u9/\u9/\(u2->u2/\u2/\u2/\u2/\u2/\(ua->ua/\ua/\ua/\ua/\(ub=true->(Nat.ble 1 n=true->(aZ u4=true->(uc=true->ua/\u5)/\(uc=false->False))/\(aZ u4=false->False))/\(Nat.ble 1 n=false->False))/\(ub=false->False))/\(ud->ud/\ud/\ud/\ud/\ud/\u5))/\(u6->u6/\u6/\u6/\u6/\u6/\u5))/\(ue->ue/\ue/\ue/\ue/\ue/\u5))/\(u7->u7/\u7/\u7/\u7/\u7/\u5)) (and true (and (Nat.ble (HAdd.hAdd 0 (HMul.hMul n 4)) (List.length w)) (aG 14 u4))) (Nat.beq (List.length (b8 u4)) n) (u1=true) (u3=true) (u3=false) (u1=false)) (and (and (aL ng ng2) (and (aL lg lg2) (and (af s s2) (and (aa e e2) (and (aa g g2) true))))) (and (af mo mo2) (and (af da da2) (and (and (aa x x2) (and (aa y y2) (and (aa z z2) true))) true)))) (and (and (aa a a2) (and (aa b b2) true)) (and (and (aa c c2) (and (aa d d2) true)) true)) (aY w 0 (HMul.hMul n 4)) (aa k k2=true) (aa p p2=true) (Q (AV.bool false)) (aa p p2=false) (aa k k2=false)):=by kernel_rfl
theorem Sk(k:Int)(ng lg:Bool)(s:List UInt8)(e g:Int)(mo da:List UInt8)(x y z p a b c d k2:Int)(ng2 lg2:Bool)(s2:List UInt8)(e2 g2:Int)(mo2 da2:List UInt8)(x2 y2 z2 p2 a2 b2 c2 d2:Int)(w:List AV)(n:Nat)(K:dv){Q:AV->Prop}:aO Q (pW Rd aW [.cells w false none] 28 [.agg [.int .u8 k,.nilslice,.bool ng,.bool lg,.str s,.int .i64 e,.int .i64 g,.str mo,.str da,.int .u8 x,.int .u8 y,.int .u8 z,.int .u8 p,.int .i8 a,.int .i64 b,.int .i8 c,.int .i64 d],.agg [.int .u8 k2,.slice 14 0 n K,.bool ng2,.bool lg2,.str s2,.int .i64 e2,.int .i64 g2,.str mo2,.str da2,.int .u8 x2,.int .u8 y2,.int .u8 z2,.int .u8 p2,.int .i8 a2,.int .i64 b2,.int .i8 c2,.int .i64 d2]]) (b_ 1663381000633810053381338111112444420220242252252422022024220622062400)=((λ(u1 u3:Bool)(u4:List AV)(u0 u2 u5 u6 u7:Prop)=>(λ(ub uc:Bool)(u9 ua ud ue:Prop)=>(u0->u0/\u0/\u0/\u0/\u0/\(u9->u9/\u9/\u9/\u9/\u9/\(u2->u2/\u2/\u2/\u2/\u2/\(ua->ua/\ua/\ua/\ua/\(ub=true->(Nat.ble 1 n=true->(aZ u4=true->(uc=true->ua/\u5)/\(uc=false->False))/\(aZ u4=false->False))/\(Nat.ble 1 n=false->False))/\(ub=false->False))/\(ud->ud/\ud/\ud/\ud/\ud/\u5))/\(u6->u6/\u6/\u6/\u6/\u6/\u5))/\(ue->ue/\ue/\ue/\ue/\ue/\u5))/\(u7->u7/\u7/\u7/\u7/\u7/\u5)) (and true (and (Nat.ble (HAdd.hAdd 0 (HMul.hMul n 4)) (List.length w)) (aG 14 u4))) (Nat.beq (List.length (b8 u4)) n) (u1=true) (u3=true) (u3=false) (u1=false)) (and (and (aL ng ng2) (and (aL lg lg2) (and (af s s2) (and (aa e e2) (and (aa g g2) true))))) (and (af mo mo2) (and (af da da2) (and (and (aa x x2) (and (aa y y2) (and (aa z z2) true))) true)))) (and (and (aa a a2) (and (aa b b2) true)) (and (and (aa c c2) (and (aa d d2) true)) true)) (aY w 0 (HMul.hMul n 4)) (aa k k2=true) (aa p p2=true) (Q (AV.bool false)) (aa p p2=false) (aa k k2=false)):=by kernel_rfl
theorem SF(k:Int)(ng lg:Bool)(s:List UInt8)(e g:Int)(mo da:List UInt8)(x y z p a b c d k2:Int)(ng2 lg2:Bool)(s2:List UInt8)(e2 g2:Int)(mo2 da2:List UInt8)(x2 y2 z2 p2 a2 b2 c2 d2:Int){Q:AV->Prop}:aO Q (pW Rd aW [] 28 [.agg [.int .u8 k,.nilslice,.bool ng,.bool lg,.str s,.int .i64 e,.int .i64 g,.str mo,.str da,.int .u8 x,.int .u8 y,.int .u8 z,.int .u8 p,.int .i8 a,.int .i64 b,.int .i8 c,.int .i64 d],.agg [.int .u8 k2,.nilslice,.bool ng2,.bool lg2,.str s2,.int .i64 e2,.int .i64 g2,.str mo2,.str da2,.int .u8 x2,.int .u8 y2,.int .u8 z2,.int .u8 p2,.int .i8 a2,.int .i64 b2,.int .i8 c2,.int .i64 d2]]) (b_ 166338100063381005338133812020220242252252422022024220622062400)=((λ(u1 u3:Bool)(u0 u2 u4 u5 u6:Prop)=>(λ(u7 u9 ua ub:Prop)=>(u0->u0/\u0/\u0/\u0/\u0/\(u7->u7/\u7/\u7/\u7/\u7/\(u2->u2/\u2/\u2/\u2/\u2/\(u9->u9/\u9/\u9/\u9/\u9/\Q (AV.bool true))/\(ua->ua/\ua/\ua/\ua/\ua/\u4))/\(u5->u5/\u5/\u5/\u5/\u5/\u4))/\(ub->ub/\ub/\ub/\ub/\ub/\u4))/\(u6->u6/\u6/\u6/\u6/\u6/\u4)) (u1=true) (u3=true) (u3=false) (u1=false)) (and (and (aL ng ng2) (and (aL lg lg2) (and (af s s2) (and (aa e e2) (and (aa g g2) true))))) (and (af mo mo2) (and (af da da2) (and (and (aa x x2) (and (aa y y2) (and (aa z z2) true))) true)))) (and (and (aa a a2) (and (aa b b2) true)) (and (and (aa c c2) (and (aa d d2) true)) true)) (aa k k2=true) (aa p p2=true) (Q (AV.bool false)) (aa p p2=false) (aa k k2=false)):=by kernel_rfl
theorem GH:aH tab 76=some (bC 76,aE 76):=by kernel_rfl
theorem DV:aH tab 27=some (bC 27,aE 27):=by kernel_rfl
theorem vZ:aH tab 19=some (bC 19,aE 19):=by kernel_rfl
theorem wg:aH tab 28=some (bC 28,aE 28):=by kernel_rfl
theorem yz:∀{cs vs:List AV},cs.length=vs.length->vF cs vs=vs
 | [],[],_=>rfl
 | _::cs,v::vs,h=>by rw[vF,yz (cs:=cs) (vs:=vs) (by simpa using h)]
theorem qh:∀{R:List Rn},eF (aJ R)=true
 | []=>rfl
 | r::rs=>by simp only[aJ,eF,Gv,qh (R:=rs),Bool.and_self]
theorem BY{R:List Rn}:List.take (R.length*4) (aJ R)=aJ R:=List.take_of_length_le (by rw[dh];exact Nat.le_refl _)
theorem pk{R:List Rn}{rw:Bool}{g:Option Nat}{b:Nat}:eG b (.cells (aJ R) rw g):=dw kQ
theorem tg:∀x∈([]:List aw),eG 14 x:=λx hx=>by cases hx
theorem Xu{R:List Rn}{K:dv}(h1:1<=R.length)(h2:R.length<=1000):bR Tryz.prog cfg 76 [.slice 14 0 R.length K] [.cells (aJ R) false none] (.slice 15 0 R.length (.known R.length)) [.cells (aJ R) true none]:=by
 refine k7 aT (L:=aW) GH (by simp) ak (ap λQ' hQ=>al ((VM (aJ R) R.length K).mpr ?_))
 dsimp only
 have hQ:=hQ _ (fH.refl (ws:=[.cells (aJ R) false none]) (v:=.slice 15 0 R.length (.known R.length)) (news:=[.cells (aJ R) true none]))
 have hr:(jb [AV.int .i8 0,AV.int .i64 0,AV.int .i8 0,AV.int .i64 0] R.length).length=R.length*4:=by rw[n8];rfl
 have hp:gP (jb [AV.int .i8 0,AV.int .i64 0,AV.int .i8 0,AV.int .i64 0] R.length) 0 (aJ R)=aJ R:=by rw[gP.eq_def];exact yz (by rw[hr,dh])
 have e1:aa (Int.ofNat R.length) 0=false:=aF.mpr (by show(R.length:Int)≠0;omega)
 have e2:Nat.ble R.length 10000=true:=by rw[aB];omega
 have e3:Nat.ble R.length R.length=true:=by rw[aB];omega
 have e4:Nat.ble (0+R.length*4) (aJ R).length=true:=by rw[aB,dh];omega
 have e5:Nat.ble (0+(aJ R).length) (R.length*4)=true:=by rw[aB,dh];omega
 try dsimp only
 simp only[BY,hr,hp,e1,e2,e3,e4,e5,qh,reduceCtorEq,false_implies,true_implies,and_true,true_and]
 exact hQ
theorem Va:bR Tryz.prog cfg 76 [.nilslice] [] .nilslice []:=bX aT (L:=aW) (ws:=[]) tg GH (by simp) ak (ap λQ' hQ=>al (Xx.mpr (hQ _ rfl))) (by simp[aq])
theorem QJ{S:bq}(hS:az Tryz.prog cfg S):az Tryz.prog cfg (gu S 76 (gD 14 [4] Vp)):=by
 refine bK hS (gy d4.lv zG λargs ws t r he hr=>?_)
 unfold Vp at he
 split at he
 · rename_i n K w
   cases he
   replace hr:=aI hr;obtain⟨⟨h1,h2,h3,h4,-⟩,hr⟩:=hr
   rw[bW]at h2
   rw[aB]at h3 h4
   subst h2
   cases hr
   have key:=Xu (R:=b8 w) (K:=K) h3 h4
   rw[cA h1]at key
   refine⟨key,λx hx=>?_⟩
   simp only[List.mem_singleton]at hx
   subst hx
   rw[<-cA h1]
   exact pk
 · cases he
   cases hr
   exact⟨Va,λx hx=>by cases hx⟩
 · cases he
theorem SW{R:List Rn}{K:dv}(h:1<=R.length):bR Tryz.prog cfg 55 [.slice 14 0 R.length K,.nilslice] [.cells (aJ R) false none] (.int .i64 0) []:=by
 refine bX aT (L:=aW) dE v8 (by simp) ak (ap λQ' hQ=>al ((Wy (aJ R) R.length K).mpr ?_)) (by simp[aq])
 have hQ:=hQ _ rfl
 have e1:aa (Int.ofNat R.length) 0=false:=aF.mpr (by show(R.length:Int)≠0;omega)
 try dsimp only
 rw[e1]
 exact⟨rfl,hQ⟩
theorem Qy{R:List Rn}{K:dv}(h:1<=R.length):bR Tryz.prog cfg 55 [.nilslice,.slice 14 0 R.length K] [.cells (aJ R) false none] (.int .i64 0) []:=by
 refine bX aT (L:=aW) dE v8 (by simp) ak (ap λQ' hQ=>al ((Xw (aJ R) R.length K).mpr ?_)) (by simp[aq])
 have hQ:=hQ _ rfl
 have e1:aa 0 (Int.ofNat R.length)=false:=aF.mpr (by show(0:Int)≠(R.length:Int);omega)
 try dsimp only
 rw[e1]
 exact⟨rfl,hQ⟩
theorem Qf:bR Tryz.prog cfg 55 [.nilslice,.nilslice] [] (.int .i64 1) []:=bX aT (L:=aW) (ws:=[]) tg v8 (by simp) ak (ap λQ' hQ=>al (Uw.mpr (hQ _ rfl))) (by simp[aq])
theorem RD{S:bq}(hS:az Tryz.prog cfg S):az Tryz.prog cfg (gu S 55 (gD 14 [4,4] XH)):=by
 refine bK hS (gy d4.lv zG λargs ws t r he hr=>?_)
 unfold XH at he
 split at he
 · rename_i n K n2 K2 w w2
   cases he
   replace hr:=aI hr;obtain⟨⟨h1,h2,h3,h4,h5,h6,-⟩,hr⟩:=hr
   rw[bW]at h3 h4
   rw[aB]at h5
   subst h3 h4
   cases hr
   have key:=Qs (R1:=b8 w) (R2:=b8 w2) (k:=K) (k':=K2) h5
   rw[cA h1,cA h2]at key
   exact⟨key,λx hx=>by cases hx⟩
 · rename_i n K w
   cases he
   replace hr:=aI hr;obtain⟨⟨h1,h2,h3,-⟩,hr⟩:=hr
   rw[aB]at h1
   rw[bW]at h3
   subst h3
   cases hr
   have key:=SW (R:=b8 w) (K:=K) h1
   rw[cA h2]at key
   exact⟨key,λx hx=>by cases hx⟩
 · rename_i n K w
   cases he
   replace hr:=aI hr;obtain⟨⟨h1,h2,h3,-⟩,hr⟩:=hr
   rw[aB]at h1
   rw[bW]at h3
   subst h3
   cases hr
   have key:=Qy (R:=b8 w) (K:=K) h1
   rw[cA h2]at key
   exact⟨key,λx hx=>by cases hx⟩
 · cases he
   cases hr
   exact⟨Qf,λx hx=>by cases hx⟩
 · cases he
theorem OF{R:List Rn}{K:dv}(h:1<=R.length):bR Tryz.prog cfg 77 [.slice 14 0 R.length K,.nilslice] [.cells (aJ R) false none] (.bool false) []:=by
 refine bX aT (L:=aW) dE wv (by simp) ak (ap λQ' hQ=>al ((UN (aJ R) R.length K).mpr ?_)) (by simp[aq])
 have hQ:=hQ _ rfl
 have e1:aa (Int.ofNat R.length) 0=false:=aF.mpr (by show(R.length:Int)≠0;omega)
 try dsimp only
 rw[e1]
 exact⟨rfl,hQ⟩
theorem RQ{R:List Rn}{K:dv}(h:1<=R.length):bR Tryz.prog cfg 77 [.nilslice,.slice 14 0 R.length K] [.cells (aJ R) false none] (.bool false) []:=by
 refine bX aT (L:=aW) dE wv (by simp) ak (ap λQ' hQ=>al ((Xl (aJ R) R.length K).mpr ?_)) (by simp[aq])
 have hQ:=hQ _ rfl
 have e1:aa 0 (Int.ofNat R.length)=false:=aF.mpr (by show(0:Int)≠(R.length:Int);omega)
 try dsimp only
 rw[e1]
 exact⟨rfl,hQ⟩
theorem So:bR Tryz.prog cfg 77 [.nilslice,.nilslice] [] (.bool true) []:=bX aT (L:=aW) (ws:=[]) tg wv (by simp) ak (ap λQ' hQ=>al (Vn.mpr (hQ _ rfl))) (by simp[aq])
theorem Oz{S:bq}(hS:az Tryz.prog cfg S):az Tryz.prog cfg (gu S 77 (gD 14 [4,4] Vd)):=by
 refine bK hS (gy d4.lv zG λargs ws t r he hr=>?_)
 unfold Vd at he
 split at he
 · rename_i n K n2 K2 w w2
   cases he
   replace hr:=aI hr;obtain⟨⟨h1,h2,h3,h4,h5,h6,-⟩,hr⟩:=hr
   rw[bW]at h3 h4
   rw[aB]at h5
   subst h3 h4
   cases hr
   have key:=QO (R1:=b8 w) (R2:=b8 w2) (k:=K) (k':=K2) h5
   rw[cA h1,cA h2]at key
   exact⟨key,λx hx=>by cases hx⟩
 · rename_i n K w
   cases he
   replace hr:=aI hr;obtain⟨⟨h1,h2,h3,-⟩,hr⟩:=hr
   rw[aB]at h1
   rw[bW]at h3
   subst h3
   cases hr
   have key:=OF (R:=b8 w) (K:=K) h1
   rw[cA h2]at key
   exact⟨key,λx hx=>by cases hx⟩
 · rename_i n K w
   cases he
   replace hr:=aI hr;obtain⟨⟨h1,h2,h3,-⟩,hr⟩:=hr
   rw[aB]at h1
   rw[bW]at h3
   subst h3
   cases hr
   have key:=RQ (R:=b8 w) (K:=K) h1
   rw[cA h2]at key
   exact⟨key,λx hx=>by cases hx⟩
 · cases he
   cases hr
   exact⟨So,λx hx=>by cases hx⟩
 · cases he
theorem Eb:az Tryz.prog cfg XF:=QJ aT
theorem wO:az Tryz.prog cfg Su:=RD aT
theorem wn:az Tryz.prog cfg Rd:=Oz aT
theorem Xd{k:Int}{ng lg:Bool}{s:List UInt8}{e g:Int}{mo da:List UInt8}{x y z p a b c d:Int}{R:List Rn}{K:dv}(hR:n4 R)(h1:1<=R.length)(hn:R.length<=1000):bR Tryz.prog cfg 27 [.agg [.int .u8 k,.slice 14 0 R.length K,.bool ng,.bool lg,.str s,.int .i64 e,.int .i64 g,.str mo,.str da,.int .u8 x,.int .u8 y,.int .u8 z,.int .u8 p,.int .i8 a,.int .i64 b,.int .i8 c,.int .i64 d]] [.cells (aJ R) false none] (.agg [.int .u8 k,.slice 15 0 R.length (.known R.length),.bool ng,.bool lg,.str s,.int .i64 e,.int .i64 g,.str mo,.str da,.int .u8 x,.int .u8 y,.int .u8 z,.int .u8 p,.int .i8 a,.int .i64 b,.int .i8 c,.int .i64 d]) [.cells (aJ R) true none]:=by
 refine k7 Eb (L:=aW) DV (by simp) ak (ap λQ' hQ=>al ((Un k ng lg s e g mo da x y z p a b c d (aJ R) R.length K).mpr ?_))
 dsimp only
 have u1:aY (aJ R) 0 (R.length*4)=aJ R:=cz
 have u2:Bool.and Bool.true (Bool.and (Nat.ble (0+R.length*4) (aJ R).length) (aG 14 (aJ R)))=true:=by rw[show Nat.ble (0+R.length*4) (aJ R).length=true by rw[aB,dh];omega,cQ];rfl
 have u3:aZ (aJ R)=true:=dR hR
 have u4:Nat.beq (b8 (aJ R)).length R.length=true:=by rw[bv];exact dI rfl
 have u5:Nat.ble R.length 1000=true:=by rw[aB];exact hn
 have u6:Nat.ble 1 R.length=true:=by rw[aB];exact h1
 try dsimp only
 simp only[u1]
 simp only[u2,u3,u4,u5,u6,reduceCtorEq,false_implies,true_implies,and_true,true_and]
 exact hQ _ (fH.lastW dE rfl rfl pk rfl)
theorem Uz{k:Int}{ng lg:Bool}{s:List UInt8}{e g:Int}{mo da:List UInt8}{x y z p a b c d:Int}:bR Tryz.prog cfg 27 [.agg [.int .u8 k,.nilslice,.bool ng,.bool lg,.str s,.int .i64 e,.int .i64 g,.str mo,.str da,.int .u8 x,.int .u8 y,.int .u8 z,.int .u8 p,.int .i8 a,.int .i64 b,.int .i8 c,.int .i64 d]] [] (.agg [.int .u8 k,.nilslice,.bool ng,.bool lg,.str s,.int .i64 e,.int .i64 g,.str mo,.str da,.int .u8 x,.int .u8 y,.int .u8 z,.int .u8 p,.int .i8 a,.int .i64 b,.int .i8 c,.int .i64 d]) []:=bX Eb (L:=aW) (ws:=[]) tg DV (by simp) ak (ap λQ' hQ=>al ((WS k ng lg s e g mo da x y z p a b c d).mpr (hQ _ rfl))) (by simp[aq,bG])
theorem Q8{S:bq}(hS:az Tryz.prog cfg S):az Tryz.prog cfg (gu S 27 (gD 14 [4] VP)):=by
 refine bK hS (gy d4.lv zG λargs ws t r he hr=>?_)
 unfold VP at he
 split at he
 · rename_i k n K ng lg s e g mo da x y z p a b c d w
   cases he
   replace hr:=aI hr;obtain⟨⟨h1,h2,h3,h4,-⟩,hr⟩:=hr
   rw[bW]at h2
   rw[aB]at h3 h4
   subst h2
   cases hr
   have key:=Xd (k:=k) (ng:=ng) (lg:=lg) (s:=s) (e:=e) (g:=g) (mo:=mo) (da:=da) (x:=x) (y:=y) (z:=z) (p:=p) (a:=a) (b:=b) (c:=c) (d:=d) (R:=b8 w) (K:=K) (gC h1) h3 h4
   rw[cA h1]at key
   refine⟨key,λx hx=>?_⟩
   simp only[List.mem_singleton]at hx
   subst hx
   rw[<-cA h1]
   exact pk
 · cases he
   cases hr
   exact⟨Uz,λx hx=>by cases hx⟩
 · cases he
theorem Rc{k:Int}{ng lg:Bool}{s:List UInt8}{e g:Int}{mo da:List UInt8}{x y z p a b c d:Int}{k2:Int}{ng2 lg2:Bool}{s2:List UInt8}{e2 g2:Int}{mo2 da2:List UInt8}{x2 y2 z2 p2 a2 b2 c2 d2:Int}{R:List Rn}{K:dv}(hR:n4 R)(hn:R.length<=1000){R2:List Rn}{K2:dv}(hR2:n4 R2)(hn2:R2.length<=1000):bR Tryz.prog cfg 19 [.agg [.int .u8 k,.slice 14 0 R.length K,.bool ng,.bool lg,.str s,.int .i64 e,.int .i64 g,.str mo,.str da,.int .u8 x,.int .u8 y,.int .u8 z,.int .u8 p,.int .i8 a,.int .i64 b,.int .i8 c,.int .i64 d],.agg [.int .u8 k2,.slice 15 0 R2.length K2,.bool ng2,.bool lg2,.str s2,.int .i64 e2,.int .i64 g2,.str mo2,.str da2,.int .u8 x2,.int .u8 y2,.int .u8 z2,.int .u8 p2,.int .i8 a2,.int .i64 b2,.int .i8 c2,.int .i64 d2]] [.cells (aJ R) false none,.cells (aJ R2) false none] (.int .i64 (bI (sF k k2 p p2 (fW ng lg s e g mo da x y z ng2 lg2 s2 e2 g2 mo2 da2 x2 y2 z2) (fT a b c d a2 b2 c2 d2) R R2))) []:=by
 refine bX wO (L:=aW) iM vZ (by simp) ak (ap λQ' hQ=>al ((SR k ng lg s e g mo da x y z p a b c d k2 ng2 lg2 s2 e2 g2 mo2 da2 x2 y2 z2 p2 a2 b2 c2 d2 (aJ R) R.length K (aJ R2) R2.length K2).mpr ?_)) (by simp[aq])
 dsimp only
 have hQ:=hQ _ rfl
 have u1:aY (aJ R) 0 (R.length*4)=aJ R:=cz
 have u2:Bool.and Bool.true (Bool.and (Nat.ble (0+R.length*4) (aJ R).length) (aG 14 (aJ R)))=true:=by rw[show Nat.ble (0+R.length*4) (aJ R).length=true by rw[aB,dh];omega,cQ];rfl
 have u3:aZ (aJ R)=true:=dR hR
 have u4:Nat.beq (b8 (aJ R)).length R.length=true:=by rw[bv];exact dI rfl
 have u5:Nat.ble R.length 1000=true:=by rw[aB];exact hn
 have u7:Nat.beq R.length R.length=true:=dI rfl
 have v1:aY (aJ R2) 0 (R2.length*4)=aJ R2:=cz
 have v2:Bool.and Bool.true (Bool.and (Nat.ble (0+R2.length*4) (aJ R2).length) (aG 14 (aJ R2)))=true:=by rw[show Nat.ble (0+R2.length*4) (aJ R2).length=true by rw[aB,dh];omega,cQ];rfl
 have v3:aZ (aJ R2)=true:=dR hR2
 have v4:Nat.beq (b8 (aJ R2)).length R2.length=true:=by rw[bv];exact dI rfl
 have v5:Nat.ble R2.length 1000=true:=by rw[aB];exact hn2
 have v7:Nat.beq R2.length R2.length=true:=dI rfl
 unfold sF at hQ
 try dsimp only
 simp only[u1,v1]
 simp only[u2,u3,u5,bv,u7,v2,v3,v5,v7]
 have de:fW ng lg s e g mo da x y z ng2 lg2 s2 e2 g2 mo2 da2 x2 y2 z2=Bool.and (Bool.and (aL ng ng2) (Bool.and (aL lg lg2) (Bool.and (af s s2) (Bool.and (aa e e2) (Bool.and (aa g g2) Bool.true))))) (Bool.and (af mo mo2) (Bool.and (af da da2) (Bool.and (Bool.and (aa x x2) (Bool.and (aa y y2) (Bool.and (aa z z2) Bool.true))) Bool.true))):=rfl
 have re:fT a b c d a2 b2 c2 d2=Bool.and (Bool.and (aa a a2) (Bool.and (aa b b2) Bool.true)) (Bool.and (Bool.and (aa c c2) (Bool.and (aa d d2) Bool.true)) Bool.true):=rfl
 rw[<-de,<-re]
 generalize fW ng lg s e g mo da x y z ng2 lg2 s2 e2 g2 mo2 da2 x2 y2 z2=D at *
 generalize fT a b c d a2 b2 c2 d2=E at *
 generalize kn R R2=F at *
 generalize aa k k2=b1 at *
 generalize aa p p2=b2 at *
 cases b1<;>cases D<;>cases b2<;>cases E<;>simp only[reduceCtorEq,false_implies,true_implies,and_true,true_and,Bool.not_true,Bool.not_false]<;>exact hQ
theorem ST{k:Int}{ng lg:Bool}{s:List UInt8}{e g:Int}{mo da:List UInt8}{x y z p a b c d:Int}{k2:Int}{ng2 lg2:Bool}{s2:List UInt8}{e2 g2:Int}{mo2 da2:List UInt8}{x2 y2 z2 p2 a2 b2 c2 d2:Int}{R:List Rn}{K:dv}(hR:n4 R)(hn:R.length<=1000)(h1:1<=R.length):bR Tryz.prog cfg 19 [.agg [.int .u8 k,.slice 14 0 R.length K,.bool ng,.bool lg,.str s,.int .i64 e,.int .i64 g,.str mo,.str da,.int .u8 x,.int .u8 y,.int .u8 z,.int .u8 p,.int .i8 a,.int .i64 b,.int .i8 c,.int .i64 d],.agg [.int .u8 k2,.nilslice,.bool ng2,.bool lg2,.str s2,.int .i64 e2,.int .i64 g2,.str mo2,.str da2,.int .u8 x2,.int .u8 y2,.int .u8 z2,.int .u8 p2,.int .i8 a2,.int .i64 b2,.int .i8 c2,.int .i64 d2]] [.cells (aJ R) false none] (.int .i64 (bI (sF k k2 p p2 (fW ng lg s e g mo da x y z ng2 lg2 s2 e2 g2 mo2 da2 x2 y2 z2) (fT a b c d a2 b2 c2 d2) R []))) []:=by
 refine bX wO (L:=aW) dE vZ (by simp) ak (ap λQ' hQ=>al ((SD k ng lg s e g mo da x y z p a b c d k2 ng2 lg2 s2 e2 g2 mo2 da2 x2 y2 z2 p2 a2 b2 c2 d2 (aJ R) R.length K).mpr ?_)) (by simp[aq])
 dsimp only
 have hQ:=hQ _ rfl
 have u1:aY (aJ R) 0 (R.length*4)=aJ R:=cz
 have u2:Bool.and Bool.true (Bool.and (Nat.ble (0+R.length*4) (aJ R).length) (aG 14 (aJ R)))=true:=by rw[show Nat.ble (0+R.length*4) (aJ R).length=true by rw[aB,dh];omega,cQ];rfl
 have u3:aZ (aJ R)=true:=dR hR
 have u4:Nat.beq (b8 (aJ R)).length R.length=true:=by rw[bv];exact dI rfl
 have u5:Nat.ble R.length 1000=true:=by rw[aB];exact hn
 have u7:Nat.beq R.length R.length=true:=dI rfl
 have u6:Nat.ble 1 R.length=true:=by rw[aB];exact h1
 have eq0:kn R []=false:=by cases R with|nil=>exact absurd h1 (by decide)|cons r rs=>rfl
 unfold sF at hQ
 try dsimp only
 simp only[u1]
 simp only[u2,u3,u5,bv,u7,u6]
 have de:fW ng lg s e g mo da x y z ng2 lg2 s2 e2 g2 mo2 da2 x2 y2 z2=Bool.and (Bool.and (aL ng ng2) (Bool.and (aL lg lg2) (Bool.and (af s s2) (Bool.and (aa e e2) (Bool.and (aa g g2) Bool.true))))) (Bool.and (af mo mo2) (Bool.and (af da da2) (Bool.and (Bool.and (aa x x2) (Bool.and (aa y y2) (Bool.and (aa z z2) Bool.true))) Bool.true))):=rfl
 have re:fT a b c d a2 b2 c2 d2=Bool.and (Bool.and (aa a a2) (Bool.and (aa b b2) Bool.true)) (Bool.and (Bool.and (aa c c2) (Bool.and (aa d d2) Bool.true)) Bool.true):=rfl
 rw[<-de,<-re]
 generalize fW ng lg s e g mo da x y z ng2 lg2 s2 e2 g2 mo2 da2 x2 y2 z2=D at *
 generalize fT a b c d a2 b2 c2 d2=E at *
 rw[eq0]at hQ
 generalize aa k k2=b1 at *
 generalize aa p p2=b2 at *
 cases b1<;>cases D<;>cases b2<;>cases E<;>simp only[reduceCtorEq,false_implies,true_implies,and_true,true_and,Bool.not_true,Bool.not_false]<;>exact hQ
theorem Qg{k:Int}{ng lg:Bool}{s:List UInt8}{e g:Int}{mo da:List UInt8}{x y z p a b c d:Int}{k2:Int}{ng2 lg2:Bool}{s2:List UInt8}{e2 g2:Int}{mo2 da2:List UInt8}{x2 y2 z2 p2 a2 b2 c2 d2:Int}{R:List Rn}{K:dv}(hR:n4 R)(hn:R.length<=1000)(h1:1<=R.length):bR Tryz.prog cfg 19 [.agg [.int .u8 k,.nilslice,.bool ng,.bool lg,.str s,.int .i64 e,.int .i64 g,.str mo,.str da,.int .u8 x,.int .u8 y,.int .u8 z,.int .u8 p,.int .i8 a,.int .i64 b,.int .i8 c,.int .i64 d],.agg [.int .u8 k2,.slice 14 0 R.length K,.bool ng2,.bool lg2,.str s2,.int .i64 e2,.int .i64 g2,.str mo2,.str da2,.int .u8 x2,.int .u8 y2,.int .u8 z2,.int .u8 p2,.int .i8 a2,.int .i64 b2,.int .i8 c2,.int .i64 d2]] [.cells (aJ R) false none] (.int .i64 (bI (sF k k2 p p2 (fW ng lg s e g mo da x y z ng2 lg2 s2 e2 g2 mo2 da2 x2 y2 z2) (fT a b c d a2 b2 c2 d2) [] R))) []:=by
 refine bX wO (L:=aW) dE vZ (by simp) ak (ap λQ' hQ=>al ((QI k ng lg s e g mo da x y z p a b c d k2 ng2 lg2 s2 e2 g2 mo2 da2 x2 y2 z2 p2 a2 b2 c2 d2 (aJ R) R.length K).mpr ?_)) (by simp[aq])
 dsimp only
 have hQ:=hQ _ rfl
 have u1:aY (aJ R) 0 (R.length*4)=aJ R:=cz
 have u2:Bool.and Bool.true (Bool.and (Nat.ble (0+R.length*4) (aJ R).length) (aG 14 (aJ R)))=true:=by rw[show Nat.ble (0+R.length*4) (aJ R).length=true by rw[aB,dh];omega,cQ];rfl
 have u3:aZ (aJ R)=true:=dR hR
 have u4:Nat.beq (b8 (aJ R)).length R.length=true:=by rw[bv];exact dI rfl
 have u5:Nat.ble R.length 1000=true:=by rw[aB];exact hn
 have u7:Nat.beq R.length R.length=true:=dI rfl
 have u6:Nat.ble 1 R.length=true:=by rw[aB];exact h1
 have eq0:kn [] R=false:=by cases R with|nil=>exact absurd h1 (by decide)|cons r rs=>rfl
 unfold sF at hQ
 try dsimp only
 simp only[u1]
 simp only[u2,u3,u5,bv,u7,u6]
 have de:fW ng lg s e g mo da x y z ng2 lg2 s2 e2 g2 mo2 da2 x2 y2 z2=Bool.and (Bool.and (aL ng ng2) (Bool.and (aL lg lg2) (Bool.and (af s s2) (Bool.and (aa e e2) (Bool.and (aa g g2) Bool.true))))) (Bool.and (af mo mo2) (Bool.and (af da da2) (Bool.and (Bool.and (aa x x2) (Bool.and (aa y y2) (Bool.and (aa z z2) Bool.true))) Bool.true))):=rfl
 have re:fT a b c d a2 b2 c2 d2=Bool.and (Bool.and (aa a a2) (Bool.and (aa b b2) Bool.true)) (Bool.and (Bool.and (aa c c2) (Bool.and (aa d d2) Bool.true)) Bool.true):=rfl
 rw[<-de,<-re]
 generalize fW ng lg s e g mo da x y z ng2 lg2 s2 e2 g2 mo2 da2 x2 y2 z2=D at *
 generalize fT a b c d a2 b2 c2 d2=E at *
 rw[eq0]at hQ
 generalize aa k k2=b1 at *
 generalize aa p p2=b2 at *
 cases b1<;>cases D<;>cases b2<;>cases E<;>simp only[reduceCtorEq,false_implies,true_implies,and_true,true_and,Bool.not_true,Bool.not_false]<;>exact hQ
theorem Tn{k:Int}{ng lg:Bool}{s:List UInt8}{e g:Int}{mo da:List UInt8}{x y z p a b c d:Int}{k2:Int}{ng2 lg2:Bool}{s2:List UInt8}{e2 g2:Int}{mo2 da2:List UInt8}{x2 y2 z2 p2 a2 b2 c2 d2:Int}:bR Tryz.prog cfg 19 [.agg [.int .u8 k,.nilslice,.bool ng,.bool lg,.str s,.int .i64 e,.int .i64 g,.str mo,.str da,.int .u8 x,.int .u8 y,.int .u8 z,.int .u8 p,.int .i8 a,.int .i64 b,.int .i8 c,.int .i64 d],.agg [.int .u8 k2,.nilslice,.bool ng2,.bool lg2,.str s2,.int .i64 e2,.int .i64 g2,.str mo2,.str da2,.int .u8 x2,.int .u8 y2,.int .u8 z2,.int .u8 p2,.int .i8 a2,.int .i64 b2,.int .i8 c2,.int .i64 d2]] [] (.int .i64 (bI (sF k k2 p p2 (fW ng lg s e g mo da x y z ng2 lg2 s2 e2 g2 mo2 da2 x2 y2 z2) (fT a b c d a2 b2 c2 d2) [] []))) []:=by
 refine bX wO (L:=aW) (ws:=[]) tg vZ (by simp) ak (ap λQ' hQ=>al ((RC k ng lg s e g mo da x y z p a b c d k2 ng2 lg2 s2 e2 g2 mo2 da2 x2 y2 z2 p2 a2 b2 c2 d2).mpr ?_)) (by simp[aq])
 dsimp only
 have hQ:=hQ _ rfl
 have eq0:kn [] []=true:=rfl
 unfold sF at hQ
 try dsimp only
 have de:fW ng lg s e g mo da x y z ng2 lg2 s2 e2 g2 mo2 da2 x2 y2 z2=Bool.and (Bool.and (aL ng ng2) (Bool.and (aL lg lg2) (Bool.and (af s s2) (Bool.and (aa e e2) (Bool.and (aa g g2) Bool.true))))) (Bool.and (af mo mo2) (Bool.and (af da da2) (Bool.and (Bool.and (aa x x2) (Bool.and (aa y y2) (Bool.and (aa z z2) Bool.true))) Bool.true))):=rfl
 have re:fT a b c d a2 b2 c2 d2=Bool.and (Bool.and (aa a a2) (Bool.and (aa b b2) Bool.true)) (Bool.and (Bool.and (aa c c2) (Bool.and (aa d d2) Bool.true)) Bool.true):=rfl
 rw[<-de,<-re]
 generalize fW ng lg s e g mo da x y z ng2 lg2 s2 e2 g2 mo2 da2 x2 y2 z2=D at *
 generalize fT a b c d a2 b2 c2 d2=E at *
 rw[eq0]at hQ
 generalize aa k k2=b1 at *
 generalize aa p p2=b2 at *
 cases b1<;>cases D<;>cases b2<;>cases E<;>simp only[reduceCtorEq,false_implies,true_implies,and_true,true_and,Bool.not_true,Bool.not_false]<;>exact hQ
theorem QF{S:bq}(hS:az Tryz.prog cfg S):az Tryz.prog cfg (gu S 19 (gD 14 [4,4] Vu)):=by
 refine bK hS (gy d4.lv zG λargs ws t r he hr=>?_)
 unfold Vu at he
 split at he
 · rename_i k n K ng lg s e g mo da x y z p a b c d k2 n2 K2 ng2 lg2 s2 e2 g2 mo2 da2 x2 y2 z2 p2 a2 b2 c2 d2 w w2
   cases he
   replace hr:=aI hr;obtain⟨⟨h1,h2,h3,h4,h5,h6,-⟩,hr⟩:=hr
   rw[bW]at h3 h4
   rw[aB]at h5 h6
   subst h3 h4
   cases hr
   have key:=Rc (k:=k) (ng:=ng) (lg:=lg) (s:=s) (e:=e) (g:=g) (mo:=mo) (da:=da) (x:=x) (y:=y) (z:=z) (p:=p) (a:=a) (b:=b) (c:=c) (d:=d) (k2:=k2) (ng2:=ng2) (lg2:=lg2) (s2:=s2) (e2:=e2) (g2:=g2) (mo2:=mo2) (da2:=da2) (x2:=x2) (y2:=y2) (z2:=z2) (p2:=p2) (a2:=a2) (b2:=b2) (c2:=c2) (d2:=d2) (R:=b8 w) (R2:=b8 w2) (K:=K) (K2:=K2) (gC h1) h5 (gC h2) h6
   rw[cA h1,cA h2]at key
   exact⟨key,λx hx=>by cases hx⟩
 · rename_i k n K ng lg s e g mo da x y z p a b c d k2 ng2 lg2 s2 e2 g2 mo2 da2 x2 y2 z2 p2 a2 b2 c2 d2 w
   cases he
   replace hr:=aI hr;obtain⟨⟨h1,h2,h3,h4,-⟩,hr⟩:=hr
   rw[aB]at h1 h4
   rw[bW]at h3
   subst h3
   cases hr
   have key:=ST (k:=k) (ng:=ng) (lg:=lg) (s:=s) (e:=e) (g:=g) (mo:=mo) (da:=da) (x:=x) (y:=y) (z:=z) (p:=p) (a:=a) (b:=b) (c:=c) (d:=d) (k2:=k2) (ng2:=ng2) (lg2:=lg2) (s2:=s2) (e2:=e2) (g2:=g2) (mo2:=mo2) (da2:=da2) (x2:=x2) (y2:=y2) (z2:=z2) (p2:=p2) (a2:=a2) (b2:=b2) (c2:=c2) (d2:=d2) (R:=b8 w) (K:=K) (gC h2) h4 h1
   rw[cA h2]at key
   exact⟨key,λx hx=>by cases hx⟩
 · rename_i k ng lg s e g mo da x y z p a b c d k2 n K ng2 lg2 s2 e2 g2 mo2 da2 x2 y2 z2 p2 a2 b2 c2 d2 w
   cases he
   replace hr:=aI hr;obtain⟨⟨h1,h2,h3,h4,-⟩,hr⟩:=hr
   rw[aB]at h1 h4
   rw[bW]at h3
   subst h3
   cases hr
   have key:=Qg (k:=k) (ng:=ng) (lg:=lg) (s:=s) (e:=e) (g:=g) (mo:=mo) (da:=da) (x:=x) (y:=y) (z:=z) (p:=p) (a:=a) (b:=b) (c:=c) (d:=d) (k2:=k2) (ng2:=ng2) (lg2:=lg2) (s2:=s2) (e2:=e2) (g2:=g2) (mo2:=mo2) (da2:=da2) (x2:=x2) (y2:=y2) (z2:=z2) (p2:=p2) (a2:=a2) (b2:=b2) (c2:=c2) (d2:=d2) (R:=b8 w) (K:=K) (gC h2) h4 h1
   rw[cA h2]at key
   exact⟨key,λx hx=>by cases hx⟩
 · cases he
   cases hr
   exact⟨Tn,λx hx=>by cases hx⟩
 · cases he
theorem Sx{k:Int}{ng lg:Bool}{s:List UInt8}{e g:Int}{mo da:List UInt8}{x y z p a b c d:Int}{k2:Int}{ng2 lg2:Bool}{s2:List UInt8}{e2 g2:Int}{mo2 da2:List UInt8}{x2 y2 z2 p2 a2 b2 c2 d2:Int}{R:List Rn}{K:dv}(hR:n4 R)(hn:R.length<=1000){R2:List Rn}{K2:dv}(hR2:n4 R2)(hn2:R2.length<=1000):bR Tryz.prog cfg 28 [.agg [.int .u8 k,.slice 14 0 R.length K,.bool ng,.bool lg,.str s,.int .i64 e,.int .i64 g,.str mo,.str da,.int .u8 x,.int .u8 y,.int .u8 z,.int .u8 p,.int .i8 a,.int .i64 b,.int .i8 c,.int .i64 d],.agg [.int .u8 k2,.slice 15 0 R2.length K2,.bool ng2,.bool lg2,.str s2,.int .i64 e2,.int .i64 g2,.str mo2,.str da2,.int .u8 x2,.int .u8 y2,.int .u8 z2,.int .u8 p2,.int .i8 a2,.int .i64 b2,.int .i8 c2,.int .i64 d2]] [.cells (aJ R) false none,.cells (aJ R2) false none] (.bool (sF k k2 p p2 (fW ng lg s e g mo da x y z ng2 lg2 s2 e2 g2 mo2 da2 x2 y2 z2) (fT a b c d a2 b2 c2 d2) R R2)) []:=by
 refine bX wn (L:=aW) iM wg (by simp) ak (ap λQ' hQ=>al ((Qj k ng lg s e g mo da x y z p a b c d k2 ng2 lg2 s2 e2 g2 mo2 da2 x2 y2 z2 p2 a2 b2 c2 d2 (aJ R) R.length K (aJ R2) R2.length K2).mpr ?_)) (by simp[aq])
 dsimp only
 have hQ:=hQ _ rfl
 have u1:aY (aJ R) 0 (R.length*4)=aJ R:=cz
 have u2:Bool.and Bool.true (Bool.and (Nat.ble (0+R.length*4) (aJ R).length) (aG 14 (aJ R)))=true:=by rw[show Nat.ble (0+R.length*4) (aJ R).length=true by rw[aB,dh];omega,cQ];rfl
 have u3:aZ (aJ R)=true:=dR hR
 have u4:Nat.beq (b8 (aJ R)).length R.length=true:=by rw[bv];exact dI rfl
 have u5:Nat.ble R.length 1000=true:=by rw[aB];exact hn
 have u7:Nat.beq R.length R.length=true:=dI rfl
 have v1:aY (aJ R2) 0 (R2.length*4)=aJ R2:=cz
 have v2:Bool.and Bool.true (Bool.and (Nat.ble (0+R2.length*4) (aJ R2).length) (aG 14 (aJ R2)))=true:=by rw[show Nat.ble (0+R2.length*4) (aJ R2).length=true by rw[aB,dh];omega,cQ];rfl
 have v3:aZ (aJ R2)=true:=dR hR2
 have v4:Nat.beq (b8 (aJ R2)).length R2.length=true:=by rw[bv];exact dI rfl
 have v5:Nat.ble R2.length 1000=true:=by rw[aB];exact hn2
 have v7:Nat.beq R2.length R2.length=true:=dI rfl
 unfold sF at hQ
 try dsimp only
 simp only[u1,v1]
 simp only[u2,u3,u5,bv,u7,v2,v3,v5,v7]
 have de:fW ng lg s e g mo da x y z ng2 lg2 s2 e2 g2 mo2 da2 x2 y2 z2=Bool.and (Bool.and (aL ng ng2) (Bool.and (aL lg lg2) (Bool.and (af s s2) (Bool.and (aa e e2) (Bool.and (aa g g2) Bool.true))))) (Bool.and (af mo mo2) (Bool.and (af da da2) (Bool.and (Bool.and (aa x x2) (Bool.and (aa y y2) (Bool.and (aa z z2) Bool.true))) Bool.true))):=rfl
 have re:fT a b c d a2 b2 c2 d2=Bool.and (Bool.and (aa a a2) (Bool.and (aa b b2) Bool.true)) (Bool.and (Bool.and (aa c c2) (Bool.and (aa d d2) Bool.true)) Bool.true):=rfl
 rw[<-de,<-re]
 generalize fW ng lg s e g mo da x y z ng2 lg2 s2 e2 g2 mo2 da2 x2 y2 z2=D at *
 generalize fT a b c d a2 b2 c2 d2=E at *
 generalize kn R R2=F at *
 generalize aa k k2=b1 at *
 generalize aa p p2=b2 at *
 cases b1<;>cases D<;>cases b2<;>cases E<;>simp only[reduceCtorEq,false_implies,true_implies,and_true,true_and,Bool.not_true,Bool.not_false]<;>exact hQ
theorem Rj{k:Int}{ng lg:Bool}{s:List UInt8}{e g:Int}{mo da:List UInt8}{x y z p a b c d:Int}{k2:Int}{ng2 lg2:Bool}{s2:List UInt8}{e2 g2:Int}{mo2 da2:List UInt8}{x2 y2 z2 p2 a2 b2 c2 d2:Int}{R:List Rn}{K:dv}(hR:n4 R)(hn:R.length<=1000)(h1:1<=R.length):bR Tryz.prog cfg 28 [.agg [.int .u8 k,.slice 14 0 R.length K,.bool ng,.bool lg,.str s,.int .i64 e,.int .i64 g,.str mo,.str da,.int .u8 x,.int .u8 y,.int .u8 z,.int .u8 p,.int .i8 a,.int .i64 b,.int .i8 c,.int .i64 d],.agg [.int .u8 k2,.nilslice,.bool ng2,.bool lg2,.str s2,.int .i64 e2,.int .i64 g2,.str mo2,.str da2,.int .u8 x2,.int .u8 y2,.int .u8 z2,.int .u8 p2,.int .i8 a2,.int .i64 b2,.int .i8 c2,.int .i64 d2]] [.cells (aJ R) false none] (.bool (sF k k2 p p2 (fW ng lg s e g mo da x y z ng2 lg2 s2 e2 g2 mo2 da2 x2 y2 z2) (fT a b c d a2 b2 c2 d2) R [])) []:=by
 refine bX wn (L:=aW) dE wg (by simp) ak (ap λQ' hQ=>al ((OQ k ng lg s e g mo da x y z p a b c d k2 ng2 lg2 s2 e2 g2 mo2 da2 x2 y2 z2 p2 a2 b2 c2 d2 (aJ R) R.length K).mpr ?_)) (by simp[aq])
 dsimp only
 have hQ:=hQ _ rfl
 have u1:aY (aJ R) 0 (R.length*4)=aJ R:=cz
 have u2:Bool.and Bool.true (Bool.and (Nat.ble (0+R.length*4) (aJ R).length) (aG 14 (aJ R)))=true:=by rw[show Nat.ble (0+R.length*4) (aJ R).length=true by rw[aB,dh];omega,cQ];rfl
 have u3:aZ (aJ R)=true:=dR hR
 have u4:Nat.beq (b8 (aJ R)).length R.length=true:=by rw[bv];exact dI rfl
 have u5:Nat.ble R.length 1000=true:=by rw[aB];exact hn
 have u7:Nat.beq R.length R.length=true:=dI rfl
 have u6:Nat.ble 1 R.length=true:=by rw[aB];exact h1
 have eq0:kn R []=false:=by cases R with|nil=>exact absurd h1 (by decide)|cons r rs=>rfl
 unfold sF at hQ
 try dsimp only
 simp only[u1]
 simp only[u2,u3,u5,bv,u7,u6]
 have de:fW ng lg s e g mo da x y z ng2 lg2 s2 e2 g2 mo2 da2 x2 y2 z2=Bool.and (Bool.and (aL ng ng2) (Bool.and (aL lg lg2) (Bool.and (af s s2) (Bool.and (aa e e2) (Bool.and (aa g g2) Bool.true))))) (Bool.and (af mo mo2) (Bool.and (af da da2) (Bool.and (Bool.and (aa x x2) (Bool.and (aa y y2) (Bool.and (aa z z2) Bool.true))) Bool.true))):=rfl
 have re:fT a b c d a2 b2 c2 d2=Bool.and (Bool.and (aa a a2) (Bool.and (aa b b2) Bool.true)) (Bool.and (Bool.and (aa c c2) (Bool.and (aa d d2) Bool.true)) Bool.true):=rfl
 rw[<-de,<-re]
 generalize fW ng lg s e g mo da x y z ng2 lg2 s2 e2 g2 mo2 da2 x2 y2 z2=D at *
 generalize fT a b c d a2 b2 c2 d2=E at *
 rw[eq0]at hQ
 generalize aa k k2=b1 at *
 generalize aa p p2=b2 at *
 cases b1<;>cases D<;>cases b2<;>cases E<;>simp only[reduceCtorEq,false_implies,true_implies,and_true,true_and,Bool.not_true,Bool.not_false]<;>exact hQ
theorem SO{k:Int}{ng lg:Bool}{s:List UInt8}{e g:Int}{mo da:List UInt8}{x y z p a b c d:Int}{k2:Int}{ng2 lg2:Bool}{s2:List UInt8}{e2 g2:Int}{mo2 da2:List UInt8}{x2 y2 z2 p2 a2 b2 c2 d2:Int}{R:List Rn}{K:dv}(hR:n4 R)(hn:R.length<=1000)(h1:1<=R.length):bR Tryz.prog cfg 28 [.agg [.int .u8 k,.nilslice,.bool ng,.bool lg,.str s,.int .i64 e,.int .i64 g,.str mo,.str da,.int .u8 x,.int .u8 y,.int .u8 z,.int .u8 p,.int .i8 a,.int .i64 b,.int .i8 c,.int .i64 d],.agg [.int .u8 k2,.slice 14 0 R.length K,.bool ng2,.bool lg2,.str s2,.int .i64 e2,.int .i64 g2,.str mo2,.str da2,.int .u8 x2,.int .u8 y2,.int .u8 z2,.int .u8 p2,.int .i8 a2,.int .i64 b2,.int .i8 c2,.int .i64 d2]] [.cells (aJ R) false none] (.bool (sF k k2 p p2 (fW ng lg s e g mo da x y z ng2 lg2 s2 e2 g2 mo2 da2 x2 y2 z2) (fT a b c d a2 b2 c2 d2) [] R)) []:=by
 refine bX wn (L:=aW) dE wg (by simp) ak (ap λQ' hQ=>al ((Sk k ng lg s e g mo da x y z p a b c d k2 ng2 lg2 s2 e2 g2 mo2 da2 x2 y2 z2 p2 a2 b2 c2 d2 (aJ R) R.length K).mpr ?_)) (by simp[aq])
 dsimp only
 have hQ:=hQ _ rfl
 have u1:aY (aJ R) 0 (R.length*4)=aJ R:=cz
 have u2:Bool.and Bool.true (Bool.and (Nat.ble (0+R.length*4) (aJ R).length) (aG 14 (aJ R)))=true:=by rw[show Nat.ble (0+R.length*4) (aJ R).length=true by rw[aB,dh];omega,cQ];rfl
 have u3:aZ (aJ R)=true:=dR hR
 have u4:Nat.beq (b8 (aJ R)).length R.length=true:=by rw[bv];exact dI rfl
 have u5:Nat.ble R.length 1000=true:=by rw[aB];exact hn
 have u7:Nat.beq R.length R.length=true:=dI rfl
 have u6:Nat.ble 1 R.length=true:=by rw[aB];exact h1
 have eq0:kn [] R=false:=by cases R with|nil=>exact absurd h1 (by decide)|cons r rs=>rfl
 unfold sF at hQ
 try dsimp only
 simp only[u1]
 simp only[u2,u3,u5,bv,u7,u6]
 have de:fW ng lg s e g mo da x y z ng2 lg2 s2 e2 g2 mo2 da2 x2 y2 z2=Bool.and (Bool.and (aL ng ng2) (Bool.and (aL lg lg2) (Bool.and (af s s2) (Bool.and (aa e e2) (Bool.and (aa g g2) Bool.true))))) (Bool.and (af mo mo2) (Bool.and (af da da2) (Bool.and (Bool.and (aa x x2) (Bool.and (aa y y2) (Bool.and (aa z z2) Bool.true))) Bool.true))):=rfl
 have re:fT a b c d a2 b2 c2 d2=Bool.and (Bool.and (aa a a2) (Bool.and (aa b b2) Bool.true)) (Bool.and (Bool.and (aa c c2) (Bool.and (aa d d2) Bool.true)) Bool.true):=rfl
 rw[<-de,<-re]
 generalize fW ng lg s e g mo da x y z ng2 lg2 s2 e2 g2 mo2 da2 x2 y2 z2=D at *
 generalize fT a b c d a2 b2 c2 d2=E at *
 rw[eq0]at hQ
 generalize aa k k2=b1 at *
 generalize aa p p2=b2 at *
 cases b1<;>cases D<;>cases b2<;>cases E<;>simp only[reduceCtorEq,false_implies,true_implies,and_true,true_and,Bool.not_true,Bool.not_false]<;>exact hQ
theorem SK{k:Int}{ng lg:Bool}{s:List UInt8}{e g:Int}{mo da:List UInt8}{x y z p a b c d:Int}{k2:Int}{ng2 lg2:Bool}{s2:List UInt8}{e2 g2:Int}{mo2 da2:List UInt8}{x2 y2 z2 p2 a2 b2 c2 d2:Int}:bR Tryz.prog cfg 28 [.agg [.int .u8 k,.nilslice,.bool ng,.bool lg,.str s,.int .i64 e,.int .i64 g,.str mo,.str da,.int .u8 x,.int .u8 y,.int .u8 z,.int .u8 p,.int .i8 a,.int .i64 b,.int .i8 c,.int .i64 d],.agg [.int .u8 k2,.nilslice,.bool ng2,.bool lg2,.str s2,.int .i64 e2,.int .i64 g2,.str mo2,.str da2,.int .u8 x2,.int .u8 y2,.int .u8 z2,.int .u8 p2,.int .i8 a2,.int .i64 b2,.int .i8 c2,.int .i64 d2]] [] (.bool (sF k k2 p p2 (fW ng lg s e g mo da x y z ng2 lg2 s2 e2 g2 mo2 da2 x2 y2 z2) (fT a b c d a2 b2 c2 d2) [] [])) []:=by
 refine bX wn (L:=aW) (ws:=[]) tg wg (by simp) ak (ap λQ' hQ=>al ((SF k ng lg s e g mo da x y z p a b c d k2 ng2 lg2 s2 e2 g2 mo2 da2 x2 y2 z2 p2 a2 b2 c2 d2).mpr ?_)) (by simp[aq])
 dsimp only
 have hQ:=hQ _ rfl
 have eq0:kn [] []=true:=rfl
 unfold sF at hQ
 try dsimp only
 have de:fW ng lg s e g mo da x y z ng2 lg2 s2 e2 g2 mo2 da2 x2 y2 z2=Bool.and (Bool.and (aL ng ng2) (Bool.and (aL lg lg2) (Bool.and (af s s2) (Bool.and (aa e e2) (Bool.and (aa g g2) Bool.true))))) (Bool.and (af mo mo2) (Bool.and (af da da2) (Bool.and (Bool.and (aa x x2) (Bool.and (aa y y2) (Bool.and (aa z z2) Bool.true))) Bool.true))):=rfl
 have re:fT a b c d a2 b2 c2 d2=Bool.and (Bool.and (aa a a2) (Bool.and (aa b b2) Bool.true)) (Bool.and (Bool.and (aa c c2) (Bool.and (aa d d2) Bool.true)) Bool.true):=rfl
 rw[<-de,<-re]
 generalize fW ng lg s e g mo da x y z ng2 lg2 s2 e2 g2 mo2 da2 x2 y2 z2=D at *
 generalize fT a b c d a2 b2 c2 d2=E at *
 rw[eq0]at hQ
 generalize aa k k2=b1 at *
 generalize aa p p2=b2 at *
 cases b1<;>cases D<;>cases b2<;>cases E<;>simp only[reduceCtorEq,false_implies,true_implies,and_true,true_and,Bool.not_true,Bool.not_false]<;>exact hQ
theorem RT{S:bq}(hS:az Tryz.prog cfg S):az Tryz.prog cfg (gu S 28 (gD 14 [4,4] V7)):=by
 refine bK hS (gy d4.lv zG λargs ws t r he hr=>?_)
 unfold V7 at he
 split at he
 · rename_i k n K ng lg s e g mo da x y z p a b c d k2 n2 K2 ng2 lg2 s2 e2 g2 mo2 da2 x2 y2 z2 p2 a2 b2 c2 d2 w w2
   cases he
   replace hr:=aI hr;obtain⟨⟨h1,h2,h3,h4,h5,h6,-⟩,hr⟩:=hr
   rw[bW]at h3 h4
   rw[aB]at h5 h6
   subst h3 h4
   cases hr
   have key:=Sx (k:=k) (ng:=ng) (lg:=lg) (s:=s) (e:=e) (g:=g) (mo:=mo) (da:=da) (x:=x) (y:=y) (z:=z) (p:=p) (a:=a) (b:=b) (c:=c) (d:=d) (k2:=k2) (ng2:=ng2) (lg2:=lg2) (s2:=s2) (e2:=e2) (g2:=g2) (mo2:=mo2) (da2:=da2) (x2:=x2) (y2:=y2) (z2:=z2) (p2:=p2) (a2:=a2) (b2:=b2) (c2:=c2) (d2:=d2) (R:=b8 w) (R2:=b8 w2) (K:=K) (K2:=K2) (gC h1) h5 (gC h2) h6
   rw[cA h1,cA h2]at key
   exact⟨key,λx hx=>by cases hx⟩
 · rename_i k n K ng lg s e g mo da x y z p a b c d k2 ng2 lg2 s2 e2 g2 mo2 da2 x2 y2 z2 p2 a2 b2 c2 d2 w
   cases he
   replace hr:=aI hr;obtain⟨⟨h1,h2,h3,h4,-⟩,hr⟩:=hr
   rw[aB]at h1 h4
   rw[bW]at h3
   subst h3
   cases hr
   have key:=Rj (k:=k) (ng:=ng) (lg:=lg) (s:=s) (e:=e) (g:=g) (mo:=mo) (da:=da) (x:=x) (y:=y) (z:=z) (p:=p) (a:=a) (b:=b) (c:=c) (d:=d) (k2:=k2) (ng2:=ng2) (lg2:=lg2) (s2:=s2) (e2:=e2) (g2:=g2) (mo2:=mo2) (da2:=da2) (x2:=x2) (y2:=y2) (z2:=z2) (p2:=p2) (a2:=a2) (b2:=b2) (c2:=c2) (d2:=d2) (R:=b8 w) (K:=K) (gC h2) h4 h1
   rw[cA h2]at key
   exact⟨key,λx hx=>by cases hx⟩
 · rename_i k ng lg s e g mo da x y z p a b c d k2 n K ng2 lg2 s2 e2 g2 mo2 da2 x2 y2 z2 p2 a2 b2 c2 d2 w
   cases he
   replace hr:=aI hr;obtain⟨⟨h1,h2,h3,h4,-⟩,hr⟩:=hr
   rw[aB]at h1 h4
   rw[bW]at h3
   subst h3
   cases hr
   have key:=SO (k:=k) (ng:=ng) (lg:=lg) (s:=s) (e:=e) (g:=g) (mo:=mo) (da:=da) (x:=x) (y:=y) (z:=z) (p:=p) (a:=a) (b:=b) (c:=c) (d:=d) (k2:=k2) (ng2:=ng2) (lg2:=lg2) (s2:=s2) (e2:=e2) (g2:=g2) (mo2:=mo2) (da2:=da2) (x2:=x2) (y2:=y2) (z2:=z2) (p2:=p2) (a2:=a2) (b2:=b2) (c2:=c2) (d2:=d2) (R:=b8 w) (K:=K) (gC h2) h4 h1
   rw[cA h2]at key
   exact⟨key,λx hx=>by cases hx⟩
 · cases he
   cases hr
   exact⟨SK,λx hx=>by cases hx⟩
 · cases he
end Go.Ev
