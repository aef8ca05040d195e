import Derived.Test.YtafekjglclnegaaGreatDoorP35
set_option linter.all false
set_option maxRecDepth 100000
set_option maxHeartbeats 4000000
namespace Go.Ev
open Go Go.Proofs
def fX(k f n z0 z1 m d:Int):Bool:=aa (k%5) 1&&(aa (iF f n z0 z1) 0&&bc (fN f n z0 z1++iI f n z0 z1 m++kC f n z0 z1 m d))
def cN(k f n z0 z1 m d:Int):Bool:=!(aa (k%5) 2)&&(!(aa (k%5) 3)&&(!(aa (k%5) 4)&&!(fX k f n z0 z1 m d)))
def fK(k f n z0 z1 m d:Int):Int:=bif aa (k%5) 2 then 3 else bif aa (k%5) 3 then 4 else bif aa (k%5) 4 then 5 else 2
def mw(k f:Int)(ng:Bool)(n z0 z1 m d:Int):Bool:=fX k f n z0 z1 m d&&p9 f ng n z0 z1
def mr(k f n z0 z1 m d:Int):Bool:=fX k f n z0 z1 m d&&pD f
def fS(k f n z0 z1 m d:Int):List UInt8:=bif fX k f n z0 z1 m d then fN f n z0 z1 else[]
def fE(k f n z0 z1 m d:Int):Int:=bif fX k f n z0 z1 m d then jx f z1 else 0
def kz(k f n z0 z1 m d:Int):List UInt8:=bif fX k f n z0 z1 m d then iI f n z0 z1 m else[]
def kw(k f n z0 z1 m d:Int):List UInt8:=bif fX k f n z0 z1 m d then kC f n z0 z1 m d else[]
def fP(k p:Int):Int:=bif aa (k%5) 2 then 1+p%3 else 0
def fA(k op:Int):Int:=bif aa (k%5) 2 then(bif aa (op%4) 1 then -1 else 0)else bif aa (k%5) 3 then -1 else 0
def fB(k p op fr:Int):Int:=bif aa (k%5) 2 then(bif aa (op%4) 1 then 0 else xD fr (1+p%3))else bif aa (k%5) 4 then fr else 0
def fC(k op:Int):Int:=bif aa (k%5) 2 then(bif aa (op%4) 2 then 1 else 0)else bif aa (k%5) 4 then 1 else 0
def fD(k p op fr ma:Int):Int:=bif aa (k%5) 2 then(bif aa (op%4) 2 then 0 else xH (fr+ma) (1+p%3))else bif aa (k%5) 3 then fr else 0
def i_(k p op f:Int)(ng:Bool)(n z0 z1 m d fr ma:Int):AV:=.agg [.int .u8 (fK k f n z0 z1 m d),.nilslice,.bool (mw k f ng n z0 z1 m d),.bool (mr k f n z0 z1 m d),.str (fS k f n z0 z1 m d),.int .i64 (fE k f n z0 z1 m d),.int .i64 0,.str (kz k f n z0 z1 m d),.str (kw k f n z0 z1 m d),.int .u8 0,.int .u8 0,.int .u8 0,.int .u8 (fP k p),.int .i8 (fA k op),.int .i64 (fB k p op fr),.int .i8 (fC k op),.int .i64 (fD k p op fr ma)]
def UK:lq:=λargs ws=>match args,ws with
 | [.agg [.int .u8 k,.int .u8 p,.int .u8 op,.int .u8 f,.bool ng,.int .u16 n,.int .u8 z0,.int .u8 z1,.int .u8 m,.int .u8 d,.int .u8 x,.int .u8 y,.int .u8 z,.int .i16 fr,.int .u8 ma,.nilslice]],[]=>some (aN [ae .u8 k,ae .u8 p,ae .u8 op,ae .u8 f,ae .u16 n,ae .u8 z0,ae .u8 z1,ae .u8 m,ae .u8 d,ae .u8 x,ae .u8 y,ae .u8 z,ae .i16 fr,ae .u8 ma] (.test (cN k f n z0 z1 m d) λb=>bif b then .ret (tA 14 (fu (bY fr ma (aa (op%4) 1) (aa (op%4) 2) [])) (.known 1),[.cells (aJ (bY fr ma (aa (op%4) 1) (aa (op%4) 2) [])) true none])else .ret (i_ k p op f ng n z0 z1 m d fr ma,[])))
 | [.agg [.int .u8 k,.int .u8 p,.int .u8 op,.int .u8 f,.bool ng,.int .u16 n,.int .u8 z0,.int .u8 z1,.int .u8 m,.int .u8 d,.int .u8 x,.int .u8 y,.int .u8 z,.int .i16 fr,.int .u8 ma,.slice 14 0 l K]],[.cells w false none]=>some (aN [ae .u8 k,ae .u8 p,ae .u8 op,ae .u8 f,ae .u16 n,ae .u8 z0,ae .u8 z1,ae .u8 m,ae .u8 d,ae .u8 x,ae .u8 y,ae .u8 z,ae .i16 fr,ae .u8 ma,d_ w,Nat.beq (gm w).length l] (.test (cN k f n z0 z1 m d) λb=>bif b then .ret (tA 15 (fu (bY fr ma (aa (op%4) 1) (aa (op%4) 2) (gm w))) (x6 (gm w)),[.cells (aJ (bY fr ma (aa (op%4) 1) (aa (op%4) 2) (gm w))) true (yN (gm w))])else .ret (i_ k p op f ng n z0 z1 m d fr ma,[])))
 | _,_=>none
def Ag:bq:=bw (gu (bw (bw dF 36 VC) 63 VU) 74 (gD 14 [2] WW)) 75 Vl
theorem K5(k p op f:Int)(ng:Bool)(n z0 z1 m d x y z fr ma:Int){Q:EQ->Prop}:aO Q (bT Ag aW [] 26 [.agg [.int .u8 k,.int .u8 p,.int .u8 op,.int .u8 f,.bool ng,.int .u16 n,.int .u8 z0,.int .u8 z1,.int .u8 m,.int .u8 d,.int .u8 x,.int .u8 y,.int .u8 z,.int .i16 fr,.int .u8 ma,.nilslice]]) (b_ 1075563800)=((λ(u2 u3 u4 u5:AV)(u0 u1:Int)=>(λ(u6:List AV)=>aa u0 1=false/\aa u0 2=false/\aa u0 3=false/\aa u0 4=false/\ae .u8 op=true/\ae .i16 fr=true/\ae .u8 ma=true/\Q (AV.agg u6,{ n:=3,os:=[aw.cells (aJ (bY fr ma (aa u1 1) (aa u1 2) [])) true Option.none,aw.cells u6 true Option.none,aw.cells [AV.int .u8 k,AV.int .u8 p,AV.int .u8 op,AV.int .u8 f,AV.bool ng,AV.int .u16 n,AV.int .u8 z0,AV.int .u8 z1,AV.int .u8 m,AV.int .u8 d,AV.int .u8 x,AV.int .u8 y,AV.int .u8 z,AV.int .i16 fr,AV.int .u8 ma,AV.nilslice] true Option.none],le:=[] })) [AV.int .u8 1,AV.slice 16 0 (fu (bY fr ma (aa u1 1) (aa u1 2) [])) (dv.known 1),u2,u2,u3,u4,u4,u3,u3,u5,u5,u5,u5,AV.int .i8 0,u4,AV.int .i8 0,u4]) (AV.bool false) (AV.str []) (AV.int .i64 0) (AV.int .u8 0) (Int.tmod k 5) (HMod.hMod op 4)):=by kernel_rfl
theorem Ll(k p op f:Int)(ng:Bool)(n z0 z1 m d x y z fr ma:Int)(w:List AV)(l:Nat)(K:dv){Q:EQ->Prop}:aO Q (bT Ag aW [.cells w false none] 26 [.agg [.int .u8 k,.int .u8 p,.int .u8 op,.int .u8 f,.bool ng,.int .u16 n,.int .u8 z0,.int .u8 z1,.int .u8 m,.int .u8 d,.int .u8 x,.int .u8 y,.int .u8 z,.int .i16 fr,.int .u8 ma,.slice 14 0 l K]]) (b_ 1077000563800)=((λ(u3 u4 u5 u6:AV)(u0 u2:Int)(u1:List AV)=>(λ(u7:List (Int×Int))=>(λ(u9:List AV)=>aa u0 1=false/\aa u0 2=false/\aa u0 3=false/\aa u0 4=false/\and true (and (Nat.ble (HAdd.hAdd 0 (HMul.hMul l 2)) (List.length w)) (aG 14 u1))=true/\ae .u8 op=true/\ae .i16 fr=true/\ae .u8 ma=true/\d_ u1=true/\Nat.beq (List.length u7) l=true/\Q (AV.agg u9,{ n:=3,os:=[aw.cells (aJ (bY fr ma (aa u2 1) (aa u2 2) u7)) true (yN u7),aw.cells u9 true Option.none,aw.cells [AV.int .u8 k,AV.int .u8 p,AV.int .u8 op,AV.int .u8 f,AV.bool ng,AV.int .u16 n,AV.int .u8 z0,AV.int .u8 z1,AV.int .u8 m,AV.int .u8 d,AV.int .u8 x,AV.int .u8 y,AV.int .u8 z,AV.int .i16 fr,AV.int .u8 ma,AV.slice 14 0 l K] true Option.none],le:=[] })) [AV.int .u8 1,AV.slice 17 0 (fu (bY fr ma (aa u2 1) (aa u2 2) u7)) (x6 u7),u3,u3,u4,u5,u5,u4,u4,u6,u6,u6,u6,AV.int .i8 0,u5,AV.int .i8 0,u5]) (gm u1)) (AV.bool false) (AV.str []) (AV.int .i64 0) (AV.int .u8 0) (Int.tmod k 5) (HMod.hMod op 4) (aY w 0 (HMul.hMul l 2))):=by kernel_rfl
theorem IR(k p op f:Int)(ng:Bool)(n z0 z1 m d x y z fr ma:Int){Q:AV->Prop}:aO Q (pW Ag aW [] 26 [.agg [.int .u8 k,.int .u8 p,.int .u8 op,.int .u8 f,.bool ng,.int .u16 n,.int .u8 z0,.int .u8 z1,.int .u8 m,.int .u8 d,.int .u8 x,.int .u8 y,.int .u8 z,.int .i16 fr,.int .u8 ma,.nilslice]]) (b_ 156270063006770206200777006200)=((λ(u4:AV)(u0:Int)(u1 u2 u3:List UInt8)=>(λ(u5 u6 u7 u9 ua:Prop)=>aa (Int.tmod k 5) 1=true/\ae .u8 f=true/\ae .u16 n=true/\ae .u8 z0=true/\ae .u8 z1=true/\ae .u8 m=true/\ae .u8 d=true/\ae .u8 x=true/\ae .u8 y=true/\ae .u8 z=true/\u5/\u5/\u6/\u7/\u9/\u5/\u5/\ua/\not (ab u0 0)=false/\u6/\u7/\u9/\ua/\Q (AV.agg [AV.int .u8 2,AV.nilslice,AV.bool (p9 f ng n z0 z1),AV.bool (pD f),AV.str u1,AV.int .i64 (jx f z1),AV.int .i64 u0,AV.str u2,AV.str u3,u4,u4,u4,u4,AV.int .i8 0,AV.int .i64 0,AV.int .i8 0,AV.int .i64 0])) (aa u0 0=true) (Nat.ble (List.length u1) 1000=true) (Nat.ble (List.length u2) 1000=true) (Nat.ble (List.length u3) 1000=true) (aa (bI (bc (HAppend.hAppend (HAppend.hAppend u1 u2) u3))) 1=true)) (AV.int .u8 0) (iF f n z0 z1) (fN f n z0 z1) (iI f n z0 z1 m) (kC f n z0 z1 m d)):=by kernel_rfl
theorem IK(k p op f:Int)(ng:Bool)(n z0 z1 m d x y z fr ma:Int)(w:List AV)(l:Nat)(K:dv){Q:AV->Prop}:aO Q (pW Ag aW [.cells w false none] 26 [.agg [.int .u8 k,.int .u8 p,.int .u8 op,.int .u8 f,.bool ng,.int .u16 n,.int .u8 z0,.int .u8 z1,.int .u8 m,.int .u8 d,.int .u8 x,.int .u8 y,.int .u8 z,.int .i16 fr,.int .u8 ma,.slice 14 0 l K]]) (b_ 156270063006770206200777006200)=((λ(u4:AV)(u0:Int)(u1 u2 u3:List UInt8)=>(λ(u5 u6 u7 u9 ua:Prop)=>aa (Int.tmod k 5) 1=true/\ae .u8 f=true/\ae .u16 n=true/\ae .u8 z0=true/\ae .u8 z1=true/\ae .u8 m=true/\ae .u8 d=true/\ae .u8 x=true/\ae .u8 y=true/\ae .u8 z=true/\u5/\u5/\u6/\u7/\u9/\u5/\u5/\ua/\not (ab u0 0)=false/\u6/\u7/\u9/\ua/\Q (AV.agg [AV.int .u8 2,AV.nilslice,AV.bool (p9 f ng n z0 z1),AV.bool (pD f),AV.str u1,AV.int .i64 (jx f z1),AV.int .i64 u0,AV.str u2,AV.str u3,u4,u4,u4,u4,AV.int .i8 0,AV.int .i64 0,AV.int .i8 0,AV.int .i64 0])) (aa u0 0=true) (Nat.ble (List.length u1) 1000=true) (Nat.ble (List.length u2) 1000=true) (Nat.ble (List.length u3) 1000=true) (aa (bI (bc (HAppend.hAppend (HAppend.hAppend u1 u2) u3))) 1=true)) (AV.int .u8 0) (iF f n z0 z1) (fN f n z0 z1) (iI f n z0 z1 m) (kC f n z0 z1 m d)):=by kernel_rfl
theorem Hw(k p op f:Int)(ng:Bool)(n z0 z1 m d x y z fr ma:Int){Q:EQ->Prop}:aO Q (bT Ag aW [] 26 [.agg [.int .u8 k,.int .u8 p,.int .u8 op,.int .u8 f,.bool ng,.int .u16 n,.int .u8 z0,.int .u8 z1,.int .u8 m,.int .u8 d,.int .u8 x,.int .u8 y,.int .u8 z,.int .i16 fr,.int .u8 ma,.nilslice]]) (b_ 107663800777006200)=((λ(u2 u3 u4 u5:AV)(u1:Int)(u6 u7:List UInt8)(u0:Prop)=>(λ(ua:Int)(u9:List AV)=>aa (Int.tmod k 5) 1=true/\ae .u8 f=true/\ae .u16 n=true/\ae .u8 z0=true/\ae .u8 z1=true/\ae .u8 m=true/\ae .u8 d=true/\ae .u8 x=true/\ae .u8 y=true/\ae .u8 z=true/\u0/\u0/\u0/\u0/\ae .u8 op=true/\ae .i16 fr=true/\ae .u8 ma=true/\Q (AV.agg u9,{ n:=4,os:=[aw.cells (aJ (bY fr ma (aa u1 1) (aa u1 2) [])) true Option.none,aw.cells [AV.bool (p9 f ng n z0 z1),AV.bool (pD f),AV.str (fN f n z0 z1),AV.int .i64 (jx f z1),AV.int .i64 (iF f n z0 z1),AV.str u6,AV.str u7,AV.int .u8 (zj ua 0 x),AV.int .u8 (zj ua 1 y),AV.int .u8 (zj ua 2 z)] true Option.none,aw.cells u9 true Option.none,aw.cells [AV.int .u8 k,AV.int .u8 p,AV.int .u8 op,AV.int .u8 f,AV.bool ng,AV.int .u16 n,AV.int .u8 z0,AV.int .u8 z1,AV.int .u8 m,AV.int .u8 d,AV.int .u8 x,AV.int .u8 y,AV.int .u8 z,AV.int .i16 fr,AV.int .u8 ma,AV.nilslice] true Option.none],le:=[] })) (cO u6 u7) [AV.int .u8 1,AV.slice 17 0 (fu (bY fr ma (aa u1 1) (aa u1 2) [])) (dv.known 1),u2,u2,u3,u4,u4,u3,u3,u5,u5,u5,u5,AV.int .i8 0,u4,AV.int .i8 0,u4]) (AV.bool false) (AV.str []) (AV.int .i64 0) (AV.int .u8 0) (HMod.hMod op 4) (iI f n z0 z1 m) (kC f n z0 z1 m d) (aa (iF f n z0 z1) 0=false)):=by kernel_rfl
theorem Hp(k p op f:Int)(ng:Bool)(n z0 z1 m d x y z fr ma:Int)(w:List AV)(l:Nat)(K:dv){Q:EQ->Prop}:aO Q (bT Ag aW [.cells w false none] 26 [.agg [.int .u8 k,.int .u8 p,.int .u8 op,.int .u8 f,.bool ng,.int .u16 n,.int .u8 z0,.int .u8 z1,.int .u8 m,.int .u8 d,.int .u8 x,.int .u8 y,.int .u8 z,.int .i16 fr,.int .u8 ma,.slice 14 0 l K]]) (b_ 10775563800777006200)=((λ(u3 u4 u5 u6:AV)(u2:Int)(u1:List AV)(u7 u9:List UInt8)(u0:Prop)=>(λ(ub:Int)(ua:List (Int×Int))=>(λ(uc:List AV)=>aa (Int.tmod k 5) 1=true/\ae .u8 f=true/\ae .u16 n=true/\ae .u8 z0=true/\ae .u8 z1=true/\ae .u8 m=true/\ae .u8 d=true/\ae .u8 x=true/\ae .u8 y=true/\ae .u8 z=true/\u0/\u0/\u0/\u0/\and true (and (Nat.ble (HAdd.hAdd 0 (HMul.hMul l 2)) (List.length w)) (aG 14 u1))=true/\ae .u8 op=true/\ae .i16 fr=true/\ae .u8 ma=true/\d_ u1=true/\Nat.beq (List.length ua) l=true/\Q (AV.agg uc,{ n:=4,os:=[aw.cells (aJ (bY fr ma (aa u2 1) (aa u2 2) ua)) true (yN ua),aw.cells [AV.bool (p9 f ng n z0 z1),AV.bool (pD f),AV.str (fN f n z0 z1),AV.int .i64 (jx f z1),AV.int .i64 (iF f n z0 z1),AV.str u7,AV.str u9,AV.int .u8 (zj ub 0 x),AV.int .u8 (zj ub 1 y),AV.int .u8 (zj ub 2 z)] true Option.none,aw.cells uc true Option.none,aw.cells [AV.int .u8 k,AV.int .u8 p,AV.int .u8 op,AV.int .u8 f,AV.bool ng,AV.int .u16 n,AV.int .u8 z0,AV.int .u8 z1,AV.int .u8 m,AV.int .u8 d,AV.int .u8 x,AV.int .u8 y,AV.int .u8 z,AV.int .i16 fr,AV.int .u8 ma,AV.slice 14 0 l K] true Option.none],le:=[] })) [AV.int .u8 1,AV.slice 18 0 (fu (bY fr ma (aa u2 1) (aa u2 2) ua)) (x6 ua),u3,u3,u4,u5,u5,u4,u4,u6,u6,u6,u6,AV.int .i8 0,u5,AV.int .i8 0,u5]) (cO u7 u9) (gm u1)) (AV.bool false) (AV.str []) (AV.int .i64 0) (AV.int .u8 0) (HMod.hMod op 4) (aY w 0 (HMul.hMul l 2)) (iI f n z0 z1 m) (kC f n z0 z1 m d) (aa (iF f n z0 z1) 0=false)):=by kernel_rfl
theorem I5(k p op f:Int)(ng:Bool)(n z0 z1 m d x y z fr ma:Int){Q:EQ->Prop}:aO Q (bT Ag aW [] 26 [.agg [.int .u8 k,.int .u8 p,.int .u8 op,.int .u8 f,.bool ng,.int .u16 n,.int .u8 z0,.int .u8 z1,.int .u8 m,.int .u8 d,.int .u8 x,.int .u8 y,.int .u8 z,.int .i16 fr,.int .u8 ma,.nilslice]]) (b_ 10755632270206200777006200)=((λ(u5 u6 u7 u9:AV)(u4:Int)(u1 u2 u3:List UInt8)(u0:Prop)=>(λ(ub:Int)(ua:List AV)=>aa (Int.tmod k 5) 1=true/\ae .u8 f=true/\ae .u16 n=true/\ae .u8 z0=true/\ae .u8 z1=true/\ae .u8 m=true/\ae .u8 d=true/\ae .u8 x=true/\ae .u8 y=true/\ae .u8 z=true/\u0/\u0/\Nat.ble (List.length u1) 1000=true/\Nat.ble (List.length u2) 1000=true/\Nat.ble (List.length u3) 1000=true/\u0/\u0/\aa (bI (bc (HAppend.hAppend (HAppend.hAppend u1 u2) u3))) 1=false/\ae .u8 op=true/\ae .i16 fr=true/\ae .u8 ma=true/\Q (AV.agg ua,{ n:=4,os:=[aw.cells (aJ (bY fr ma (aa u4 1) (aa u4 2) [])) true Option.none,aw.cells [AV.bool (p9 f ng n z0 z1),AV.bool (pD f),AV.str u1,AV.int .i64 (jx f z1),AV.int .i64 (iF f n z0 z1),AV.str u2,AV.str u3,AV.int .u8 (zj ub 0 x),AV.int .u8 (zj ub 1 y),AV.int .u8 (zj ub 2 z)] true Option.none,aw.cells ua true Option.none,aw.cells [AV.int .u8 k,AV.int .u8 p,AV.int .u8 op,AV.int .u8 f,AV.bool ng,AV.int .u16 n,AV.int .u8 z0,AV.int .u8 z1,AV.int .u8 m,AV.int .u8 d,AV.int .u8 x,AV.int .u8 y,AV.int .u8 z,AV.int .i16 fr,AV.int .u8 ma,AV.nilslice] true Option.none],le:=[] })) (cO u2 u3) [AV.int .u8 1,AV.slice 17 0 (fu (bY fr ma (aa u4 1) (aa u4 2) [])) (dv.known 1),u5,u5,u6,u7,u7,u6,u6,u9,u9,u9,u9,AV.int .i8 0,u7,AV.int .i8 0,u7]) (AV.bool false) (AV.str []) (AV.int .i64 0) (AV.int .u8 0) (HMod.hMod op 4) (fN f n z0 z1) (iI f n z0 z1 m) (kC f n z0 z1 m d) (aa (iF f n z0 z1) 0=true)):=by kernel_rfl
theorem Ha(k p op f:Int)(ng:Bool)(n z0 z1 m d x y z fr ma:Int)(w:List AV)(l:Nat)(K:dv){Q:EQ->Prop}:aO Q (bT Ag aW [.cells w false none] 26 [.agg [.int .u8 k,.int .u8 p,.int .u8 op,.int .u8 f,.bool ng,.int .u16 n,.int .u8 z0,.int .u8 z1,.int .u8 m,.int .u8 d,.int .u8 x,.int .u8 y,.int .u8 z,.int .i16 fr,.int .u8 ma,.slice 14 0 l K]]) (b_ 10770005632270206200777006200)=((λ(u6 u7 u9 ua:AV)(u5:Int)(u4:List AV)(u1 u2 u3:List UInt8)(u0:Prop)=>(λ(uc:Int)(ub:List (Int×Int))=>(λ(ud:List AV)=>aa (Int.tmod k 5) 1=true/\ae .u8 f=true/\ae .u16 n=true/\ae .u8 z0=true/\ae .u8 z1=true/\ae .u8 m=true/\ae .u8 d=true/\ae .u8 x=true/\ae .u8 y=true/\ae .u8 z=true/\u0/\u0/\Nat.ble (List.length u1) 1000=true/\Nat.ble (List.length u2) 1000=true/\Nat.ble (List.length u3) 1000=true/\u0/\u0/\aa (bI (bc (HAppend.hAppend (HAppend.hAppend u1 u2) u3))) 1=false/\and true (and (Nat.ble (HAdd.hAdd 0 (HMul.hMul l 2)) (List.length w)) (aG 14 u4))=true/\ae .u8 op=true/\ae .i16 fr=true/\ae .u8 ma=true/\d_ u4=true/\Nat.beq (List.length ub) l=true/\Q (AV.agg ud,{ n:=4,os:=[aw.cells (aJ (bY fr ma (aa u5 1) (aa u5 2) ub)) true (yN ub),aw.cells [AV.bool (p9 f ng n z0 z1),AV.bool (pD f),AV.str u1,AV.int .i64 (jx f z1),AV.int .i64 (iF f n z0 z1),AV.str u2,AV.str u3,AV.int .u8 (zj uc 0 x),AV.int .u8 (zj uc 1 y),AV.int .u8 (zj uc 2 z)] true Option.none,aw.cells ud true Option.none,aw.cells [AV.int .u8 k,AV.int .u8 p,AV.int .u8 op,AV.int .u8 f,AV.bool ng,AV.int .u16 n,AV.int .u8 z0,AV.int .u8 z1,AV.int .u8 m,AV.int .u8 d,AV.int .u8 x,AV.int .u8 y,AV.int .u8 z,AV.int .i16 fr,AV.int .u8 ma,AV.slice 14 0 l K] true Option.none],le:=[] })) [AV.int .u8 1,AV.slice 18 0 (fu (bY fr ma (aa u5 1) (aa u5 2) ub)) (x6 ub),u6,u6,u7,u9,u9,u7,u7,ua,ua,ua,ua,AV.int .i8 0,u9,AV.int .i8 0,u9]) (cO u2 u3) (gm u4)) (AV.bool false) (AV.str []) (AV.int .i64 0) (AV.int .u8 0) (HMod.hMod op 4) (aY w 0 (HMul.hMul l 2)) (fN f n z0 z1) (iI f n z0 z1 m) (kC f n z0 z1 m d) (aa (iF f n z0 z1) 0=true)):=by kernel_rfl
theorem Oi(k p op f:Int)(ng:Bool)(n z0 z1 m d x y z fr ma:Int){Q:AV->Prop}:aO Q (pW Ag aW [] 26 [.agg [.int .u8 k,.int .u8 p,.int .u8 op,.int .u8 f,.bool ng,.int .u16 n,.int .u8 z0,.int .u8 z1,.int .u8 m,.int .u8 d,.int .u8 x,.int .u8 y,.int .u8 z,.int .i16 fr,.int .u8 ma,.nilslice]]) (b_ 16610664001663000455270702002702202002300)=((λ(u5 u6 u7 u9 ua ub:AV)(u3 u4:Bool)(u0 u2:Int)(u1:Prop)=>(λ(uf ug uh:AV)(uc ud ue:Prop)=>aa (Int.tmod k 5) 1=false/\aa (Int.tmod k 5) 2=true/\ae .u8 u0=true/\u1/\uc/\ab (Neg.neg 40000) fr=true/\ab fr 40000=true/\ud/\ue/\u1/\ae .i64 ma=true/\ae .i64 u2=true/\uc/\ab (Neg.neg 40000) u2=true/\ab u2 40000=true/\ud/\ue/\(u3=true->u4=false/\Q (AV.agg [u5,AV.nilslice,u6,u6,u7,u9,u9,u7,u7,ua,ua,ua,uf,AV.int .i8 (Neg.neg 1),u9,ub,ug]))/\(u3=false->(u4=true->Q (AV.agg [u5,AV.nilslice,u6,u6,u7,u9,u9,u7,u7,ua,ua,ua,uf,ub,uh,AV.int .i8 1,u9]))/\(u4=false->Q (AV.agg [u5,AV.nilslice,u6,u6,u7,u9,u9,u7,u7,ua,ua,ua,uf,ub,uh,ub,ug])))) (AV.int .u8 u0) (AV.int .i64 (xH u2 u0)) (AV.int .i64 (xD fr u0)) (ae .i64 u0=true) (ab 1 u0=true) (ab u0 3=true)) (AV.int .u8 3) (AV.bool false) (AV.str []) (AV.int .i64 0) (AV.int .u8 0) (AV.int .i8 0) (aa (Int.tmod op 4) 1) (aa (Int.tmod op 4) 2) (Int.add 1 (Int.tmod p 3)) (Int.add fr ma) (ae .i64 fr=true)):=by kernel_rfl
theorem KY(k p op f:Int)(ng:Bool)(n z0 z1 m d x y z fr ma:Int)(w:List AV)(l:Nat)(K:dv){Q:AV->Prop}:aO Q (pW Ag aW [.cells w false none] 26 [.agg [.int .u8 k,.int .u8 p,.int .u8 op,.int .u8 f,.bool ng,.int .u16 n,.int .u8 z0,.int .u8 z1,.int .u8 m,.int .u8 d,.int .u8 x,.int .u8 y,.int .u8 z,.int .i16 fr,.int .u8 ma,.slice 14 0 l K]]) (b_ 16610664001663000455270702002702202002300)=((λ(u5 u6 u7 u9 ua ub:AV)(u3 u4:Bool)(u0 u2:Int)(u1:Prop)=>(λ(uf ug uh:AV)(uc ud ue:Prop)=>aa (Int.tmod k 5) 1=false/\aa (Int.tmod k 5) 2=true/\ae .u8 u0=true/\u1/\uc/\ab (Neg.neg 40000) fr=true/\ab fr 40000=true/\ud/\ue/\u1/\ae .i64 ma=true/\ae .i64 u2=true/\uc/\ab (Neg.neg 40000) u2=true/\ab u2 40000=true/\ud/\ue/\(u3=true->u4=false/\Q (AV.agg [u5,AV.nilslice,u6,u6,u7,u9,u9,u7,u7,ua,ua,ua,uf,AV.int .i8 (Neg.neg 1),u9,ub,ug]))/\(u3=false->(u4=true->Q (AV.agg [u5,AV.nilslice,u6,u6,u7,u9,u9,u7,u7,ua,ua,ua,uf,ub,uh,AV.int .i8 1,u9]))/\(u4=false->Q (AV.agg [u5,AV.nilslice,u6,u6,u7,u9,u9,u7,u7,ua,ua,ua,uf,ub,uh,ub,ug])))) (AV.int .u8 u0) (AV.int .i64 (xH u2 u0)) (AV.int .i64 (xD fr u0)) (ae .i64 u0=true) (ab 1 u0=true) (ab u0 3=true)) (AV.int .u8 3) (AV.bool false) (AV.str []) (AV.int .i64 0) (AV.int .u8 0) (AV.int .i8 0) (aa (Int.tmod op 4) 1) (aa (Int.tmod op 4) 2) (Int.add 1 (Int.tmod p 3)) (Int.add fr ma) (ae .i64 fr=true)):=by kernel_rfl
theorem Ol(k p op f:Int)(ng:Bool)(n z0 z1 m d x y z fr ma:Int){Q:AV->Prop}:aO Q (pW Ag aW [] 26 [.agg [.int .u8 k,.int .u8 p,.int .u8 op,.int .u8 f,.bool ng,.int .u16 n,.int .u8 z0,.int .u8 z1,.int .u8 m,.int .u8 d,.int .u8 x,.int .u8 y,.int .u8 z,.int .i16 fr,.int .u8 ma,.nilslice]]) (b_ 102023300)=((λ(u1 u2 u3 u4:AV)(u0:Int)=>aa u0 1=false/\aa u0 2=false/\aa u0 3=true/\ae .i64 fr=true/\Q (AV.agg [AV.int .u8 4,AV.nilslice,u1,u1,u2,u3,u3,u2,u2,u4,u4,u4,u4,AV.int .i8 (Neg.neg 1),u3,AV.int .i8 0,AV.int .i64 fr])) (AV.bool false) (AV.str []) (AV.int .i64 0) (AV.int .u8 0) (Int.tmod k 5)):=by kernel_rfl
theorem Ok(k p op f:Int)(ng:Bool)(n z0 z1 m d x y z fr ma:Int)(w:List AV)(l:Nat)(K:dv){Q:AV->Prop}:aO Q (pW Ag aW [.cells w false none] 26 [.agg [.int .u8 k,.int .u8 p,.int .u8 op,.int .u8 f,.bool ng,.int .u16 n,.int .u8 z0,.int .u8 z1,.int .u8 m,.int .u8 d,.int .u8 x,.int .u8 y,.int .u8 z,.int .i16 fr,.int .u8 ma,.slice 14 0 l K]]) (b_ 102023300)=((λ(u1 u2 u3 u4:AV)(u0:Int)=>aa u0 1=false/\aa u0 2=false/\aa u0 3=true/\ae .i64 fr=true/\Q (AV.agg [AV.int .u8 4,AV.nilslice,u1,u1,u2,u3,u3,u2,u2,u4,u4,u4,u4,AV.int .i8 (Neg.neg 1),u3,AV.int .i8 0,AV.int .i64 fr])) (AV.bool false) (AV.str []) (AV.int .i64 0) (AV.int .u8 0) (Int.tmod k 5)):=by kernel_rfl
theorem Nd(k p op f:Int)(ng:Bool)(n z0 z1 m d x y z fr ma:Int){Q:AV->Prop}:aO Q (pW Ag aW [] 26 [.agg [.int .u8 k,.int .u8 p,.int .u8 op,.int .u8 f,.bool ng,.int .u16 n,.int .u8 z0,.int .u8 z1,.int .u8 m,.int .u8 d,.int .u8 x,.int .u8 y,.int .u8 z,.int .i16 fr,.int .u8 ma,.nilslice]]) (b_ 10202800)=((λ(u1 u2 u3 u4:AV)(u0:Int)=>aa u0 1=false/\aa u0 2=false/\aa u0 3=false/\aa u0 4=true/\ae .i64 fr=true/\Q (AV.agg [AV.int .u8 5,AV.nilslice,u1,u1,u2,u3,u3,u2,u2,u4,u4,u4,u4,AV.int .i8 0,AV.int .i64 fr,AV.int .i8 1,u3])) (AV.bool false) (AV.str []) (AV.int .i64 0) (AV.int .u8 0) (Int.tmod k 5)):=by kernel_rfl
theorem Ni(k p op f:Int)(ng:Bool)(n z0 z1 m d x y z fr ma:Int)(w:List AV)(l:Nat)(K:dv){Q:AV->Prop}:aO Q (pW Ag aW [.cells w false none] 26 [.agg [.int .u8 k,.int .u8 p,.int .u8 op,.int .u8 f,.bool ng,.int .u16 n,.int .u8 z0,.int .u8 z1,.int .u8 m,.int .u8 d,.int .u8 x,.int .u8 y,.int .u8 z,.int .i16 fr,.int .u8 ma,.slice 14 0 l K]]) (b_ 10202800)=((λ(u1 u2 u3 u4:AV)(u0:Int)=>aa u0 1=false/\aa u0 2=false/\aa u0 3=false/\aa u0 4=true/\ae .i64 fr=true/\Q (AV.agg [AV.int .u8 5,AV.nilslice,u1,u1,u2,u3,u3,u2,u2,u4,u4,u4,u4,AV.int .i8 0,AV.int .i64 fr,AV.int .i8 1,u3])) (AV.bool false) (AV.str []) (AV.int .i64 0) (AV.int .u8 0) (Int.tmod k 5)):=by kernel_rfl
theorem gx:aH tab 26=some (bC 26,aE 26):=by kernel_rfl
theorem gz:az Tryz.prog cfg Ag:=Ss (Rw (PR (PW aT)))
theorem qe{b:Bool}:aa (bI b) 1=b:=by cases b<;>rfl
theorem jR:∀{gs:List (Int×Int)},(eZ gs).length=gs.length*2
 | []=>rfl
 | p::r=>by simp only[eZ,List.length_cons,jR (gs:=r)];omega
theorem gT:∀{gs:List (Int×Int)},aG 14 (eZ gs)=true
 | []=>rfl
 | p::r=>by
   have:=gT (gs:=r)
   unfold aG at this ⊢
   simp only[eZ,List.all_cons,Bool.and_eq_true]
   exact⟨rfl,rfl,this⟩
theorem oq:∀{gs:List (Int×Int)},gm (eZ gs)=gs
 | []=>rfl
 | p::r=>by simp only[eZ,gm,oq (gs:=r)]
theorem ny:∀{gs:List (Int×Int)},(∀p∈gs,(0<=p.1/\p.1<=255)/\(0<=p.2/\p.2<=255))->d_ (eZ gs)=true
 | [],_=>rfl
 | p::r,h=>by
   simp only[eZ,d_,Bool.and_eq_true,aQ,bA,bB]
   have h0:=h p (by simp)
   exact⟨h0.1,h0.2,ny λq hq=>h q (by simp[hq])⟩
theorem qJ{gs:List (Int×Int)}:aY (eZ gs) 0 (gs.length*2)=eZ gs:=by
 unfold aY
 rw[List.drop_zero]
 exact List.take_of_length_le (by rw[jR];exact Nat.le_refl _)
theorem oK{f n z0 z1:Int}:(fN f n z0 z1).length<=5:=by
 unfold fN SB C8
 cases aa (f%6) 3<;>cases aa (f%6) 5<;>cases ab (z1%3) 0<;>simp only[cond_true,cond_false,List.length_cons,List.length_nil,List.length_take]<;>omega
theorem Tf{L:List (List UInt8)}(h:L.all (λs=>Nat.ble s.length 2)=true)(i:Nat):(L.getD i []).length<=2:=by
 rw[List.getD_eq_getElem?_getD]
 cases hi:L[i]? with
 | none=>exact Nat.zero_le _
 | some s=>exact Nat.le_of_ble_eq_true (List.all_eq_true.1 h s (List.mem_of_getElem? hi))
theorem Jm{k:Int}:(vm k).length<=2:=by
 have h:=Tf (L:=TQ) (by decide) (k-34).toNat
 unfold vm
 generalize TQ.getD (k-34).toNat []=x at *
 cases aa k 0<;>cases ab k 12<;>cases ab k 33<;>first|exact h|exact Nat.le_refl _|exact Nat.zero_le _
theorem Hh{k:Int}{mo:List UInt8}:(Ba k mo).length<=2:=by
 have h:=Tf (L:=TL) (by decide) (bif af mo [UInt8.ofNat 48,UInt8.ofNat 50]&&aa k 35 then 2 else(k-32).toNat)
 unfold Ba
 generalize List.getD TL _ []=x at *
 cases aa k 0<;>cases ab k 31<;>first|exact h|exact Nat.le_refl _|exact Nat.zero_le _
theorem oA{f n z0 z1 m:Int}:(iI f n z0 z1 m).length<=2:=by
 unfold iI
 cases aa (iF f n z0 z1) 0
 · exact Nat.zero_le _
 · exact Jm
theorem nV{f n z0 z1 m d:Int}:(kC f n z0 z1 m d).length<=2:=by
 unfold kC
 cases(!(af (iI f n z0 z1 m) [])&&aa (cg (iI f n z0 z1 m)) 0)
 · exact Nat.zero_le _
 · exact Hh
theorem RO{k p op f:Int}{ng:Bool}{n z0 z1 m d x y z fr ma:Int}(hk:0<=k/\k<=255)(hp:0<=p/\p<=255)(ho:0<=op/\op<=255)(h1:ae .u8 f=true)(h2:ae .u16 n=true)(h3:ae .u8 z0=true)(h4:ae .u8 z1=true)(h5:ae .u8 m=true)(h6:ae .u8 d=true)(h7:ae .u8 x=true)(h8:ae .u8 y=true)(h9:ae .u8 z=true)(hfr : -32768<=fr/\fr<=32767)(hma:0<=ma/\ma<=255)(hone:cN k f n z0 z1 m d=true):bR Tryz.prog cfg 26 [.agg [.int .u8 k,.int .u8 p,.int .u8 op,.int .u8 f,.bool ng,.int .u16 n,.int .u8 z0,.int .u8 z1,.int .u8 m,.int .u8 d,.int .u8 x,.int .u8 y,.int .u8 z,.int .i16 fr,.int .u8 ma,.nilslice]] [] (tA 14 (fu (bY fr ma (aa (op%4) 1) (aa (op%4) 2) [])) (.known 1)) [.cells (aJ (bY fr ma (aa (op%4) 1) (aa (op%4) 2) [])) true none]:=by
 have l1:Nat.ble (fN f n z0 z1).length 1000=true:=by rw[aB];have:=@oK f n z0 z1;omega
 have l2:Nat.ble (iI f n z0 z1 m).length 1000=true:=by rw[aB];have:=@oA f n z0 z1 m;omega
 have l3:Nat.ble (kC f n z0 z1 m d).length 1000=true:=by rw[aB];have:=@nV f n z0 z1 m d;omega
 have i1:ae .i16 fr=true:=by rw[aQ];exact hfr
 have i2:ae .u8 op=true:=by rw[aQ];exact ho
 have i3:ae .u8 ma=true:=by rw[aQ];exact hma
 have cf:k%5=0\/k%5=1\/k%5=2\/k%5=3\/k%5=4:=by omega
 unfold cN at hone
 rcases cf with cf|cf|cf|cf|cf
 · skip
   have e1:aa (k%5) 1=false:=aF.mpr (by omega)
   have e2:aa (k%5) 2=false:=aF.mpr (by omega)
   have e3:aa (k%5) 3=false:=aF.mpr (by omega)
   have e4:aa (k%5) 4=false:=aF.mpr (by omega)
   refine k7 gz (L:=aW) gx (by simp) ak (ap λQ' hQ=>al ((K5 k p op f ng n z0 z1 m d x y z fr ma).mpr ?_))
   dsimp only
   try dsimp only
   rw[tm (b:=5) hk.1]
   have c0:Bool.and true true=true:=rfl
   simp only[h1,h2,h3,h4,h5,h6,h7,h8,h9,l1,l2,l3,i1,i2,i3,e1,e2,e3,e4,c0]
   try simp only[aD,reduceCtorEq,bA,bB,ne_eq]
   (repeat' first|exact trivial|refine⟨?_,?_⟩|intro)<;>first|contradiction|omega|exact hQ _ (fH.lastW (ws:=[]) (λx hx=>by cases hx) rfl rfl eT rfl)
 · skip
   have e1:aa (k%5) 1=true:=aS.mpr (by omega)
   have e2:aa (k%5) 2=false:=aF.mpr (by omega)
   have e3:aa (k%5) 3=false:=aF.mpr (by omega)
   have e4:aa (k%5) 4=false:=aF.mpr (by omega)
   cases hg:aa (iF f n z0 z1) 0 with
   | false=>
     refine k7 gz (L:=aW) gx (by simp) ak (ap λQ' hQ=>al ((Hw k p op f ng n z0 z1 m d x y z fr ma).mpr ?_))
     dsimp only
     try dsimp only
     rw[tm (b:=5) hk.1]
     have c0:Bool.and true true=true:=rfl
     simp only[h1,h2,h3,h4,h5,h6,h7,h8,h9,l1,l2,l3,i1,i2,i3,e1,e2,e3,e4,hg,c0]
     try simp only[aD,reduceCtorEq,bA,bB,ne_eq]
     (repeat' first|exact trivial|refine⟨?_,?_⟩|intro)<;>first|contradiction|omega|exact hQ _ (fH.lastW (ws:=[]) (λx hx=>by cases hx) rfl rfl eT rfl)
   | true=>
     have hX:bc (fN f n z0 z1++iI f n z0 z1 m++kC f n z0 z1 m d)=false:=by
      unfold fX at hone
      rw[e1,e2,e3,e4,hg]at hone
      simpa using hone
     refine k7 gz (L:=aW) gx (by simp) ak (ap λQ' hQ=>al ((I5 k p op f ng n z0 z1 m d x y z fr ma).mpr ?_))
     dsimp only
     try dsimp only
     rw[tm (b:=5) hk.1]
     have c0:Bool.and true true=true:=rfl
     simp only[h1,h2,h3,h4,h5,h6,h7,h8,h9,l1,l2,l3,i1,i2,i3,e1,e2,e3,e4,hg,qe,hX,c0]
     try simp only[aD,reduceCtorEq,bA,bB,ne_eq]
     (repeat' first|exact trivial|refine⟨?_,?_⟩|intro)<;>first|contradiction|omega|exact hQ _ (fH.lastW (ws:=[]) (λx hx=>by cases hx) rfl rfl eT rfl)
 · exfalso
   have e1:aa (k%5) 1=false:=aF.mpr (by omega)
   have e2:aa (k%5) 2=true:=aS.mpr (by omega)
   have e3:aa (k%5) 3=false:=aF.mpr (by omega)
   have e4:aa (k%5) 4=false:=aF.mpr (by omega)
   rw[e2]at hone;cases hone
 · exfalso
   have e1:aa (k%5) 1=false:=aF.mpr (by omega)
   have e2:aa (k%5) 2=false:=aF.mpr (by omega)
   have e3:aa (k%5) 3=true:=aS.mpr (by omega)
   have e4:aa (k%5) 4=false:=aF.mpr (by omega)
   rw[e2,e3]at hone;cases hone
 · exfalso
   have e1:aa (k%5) 1=false:=aF.mpr (by omega)
   have e2:aa (k%5) 2=false:=aF.mpr (by omega)
   have e3:aa (k%5) 3=false:=aF.mpr (by omega)
   have e4:aa (k%5) 4=true:=aS.mpr (by omega)
   rw[e2,e3,e4]at hone;cases hone
theorem TC{k p op f:Int}{ng:Bool}{n z0 z1 m d x y z fr ma:Int}(hk:0<=k/\k<=255)(hp:0<=p/\p<=255)(ho:0<=op/\op<=255)(h1:ae .u8 f=true)(h2:ae .u16 n=true)(h3:ae .u8 z0=true)(h4:ae .u8 z1=true)(h5:ae .u8 m=true)(h6:ae .u8 d=true)(h7:ae .u8 x=true)(h8:ae .u8 y=true)(h9:ae .u8 z=true)(hfr : -32768<=fr/\fr<=32767)(hma:0<=ma/\ma<=255)(hone:cN k f n z0 z1 m d=false):bR Tryz.prog cfg 26 [.agg [.int .u8 k,.int .u8 p,.int .u8 op,.int .u8 f,.bool ng,.int .u16 n,.int .u8 z0,.int .u8 z1,.int .u8 m,.int .u8 d,.int .u8 x,.int .u8 y,.int .u8 z,.int .i16 fr,.int .u8 ma,.nilslice]] [] (i_ k p op f ng n z0 z1 m d fr ma) []:=by
 have l1:Nat.ble (fN f n z0 z1).length 1000=true:=by rw[aB];have:=@oK f n z0 z1;omega
 have l2:Nat.ble (iI f n z0 z1 m).length 1000=true:=by rw[aB];have:=@oA f n z0 z1 m;omega
 have l3:Nat.ble (kC f n z0 z1 m d).length 1000=true:=by rw[aB];have:=@nV f n z0 z1 m d;omega
 have i1:ae .i16 fr=true:=by rw[aQ];exact hfr
 have i2:ae .u8 op=true:=by rw[aQ];exact ho
 have i3:ae .u8 ma=true:=by rw[aQ];exact hma
 have cf:k%5=0\/k%5=1\/k%5=2\/k%5=3\/k%5=4:=by omega
 rcases cf with cf|cf|cf|cf|cf
 · exfalso
   have e1:aa (k%5) 1=false:=aF.mpr (by omega)
   have e2:aa (k%5) 2=false:=aF.mpr (by omega)
   have e3:aa (k%5) 3=false:=aF.mpr (by omega)
   have e4:aa (k%5) 4=false:=aF.mpr (by omega)
   unfold cN fX at hone
   rw[e1,e2,e3,e4]at hone;cases hone
 · skip
   have e1:aa (k%5) 1=true:=aS.mpr (by omega)
   have e2:aa (k%5) 2=false:=aF.mpr (by omega)
   have e3:aa (k%5) 3=false:=aF.mpr (by omega)
   have e4:aa (k%5) 4=false:=aF.mpr (by omega)
   have hX:fX k f n z0 z1 m d=true:=by
    unfold cN at hone
    rw[e2,e3,e4]at hone
    simpa using hone
   have hX':=hX
   unfold fX at hX'
   simp only[Bool.and_eq_true]at hX'
   obtain⟨_,hg,hx⟩:=hX'
   have g0:iF f n z0 z1=0:=aS.mp hg
   refine bX gz (L:=aW) (ws:=[]) (λx hx=>by cases hx) gx (by simp) ak (ap λQ' hQ=>al ((IR k p op f ng n z0 z1 m d x y z fr ma).mpr ?_)) (by simp[i_,aq,bG])
   dsimp only
   have hQ:=hQ _ rfl
   unfold i_ mw mr fS fE kz kw at hQ
   rw[hX]at hQ
   simp only[fK,fP,fA,fB,fC,fD,e2,e3,e4,cond_true,cond_false,Bool.true_and,Bool.false_and]at hQ
   try dsimp only
   rw[tm (b:=5) hk.1]
   simp only[h1,h2,h3,h4,h5,h6,h7,h8,h9,l1,l2,l3,i1,i2,i3,qe,e1,hx]
   rw[g0]
   try simp only[aD,reduceCtorEq,bA,bB,ne_eq]
   (repeat' first|exact trivial|refine⟨?_,?_⟩|intro)<;>first|contradiction|omega|exact hQ
 · skip
   have e1:aa (k%5) 1=false:=aF.mpr (by omega)
   have e2:aa (k%5) 2=true:=aS.mpr (by omega)
   have e3:aa (k%5) 3=false:=aF.mpr (by omega)
   have e4:aa (k%5) 4=false:=aF.mpr (by omega)
   have hX:fX k f n z0 z1 m d=false:=by unfold fX;rw[e1];rfl
   have tp:Int.tmod p 3=p%3:=tm hp.1
   have tpo:Int.tmod op 4=op%4:=tm ho.1
   have a1:Int.add 1 (p%3)=1+p%3:=rfl
   have a2:Int.add fr ma=fr+ma:=rfl
   have b1:1<=1+p%3/\1+p%3<=3:=by omega
   refine bX gz (L:=aW) (ws:=[]) (λx hx=>by cases hx) gx (by simp) ak (ap λQ' hQ=>al ((Oi k p op f ng n z0 z1 m d x y z fr ma).mpr ?_)) (by simp[i_,aq,bG])
   dsimp only
   have hQ:=hQ _ rfl
   unfold i_ mw mr fS fE kz kw at hQ
   rw[hX]at hQ
   simp only[fK,fP,fA,fB,fC,fD,e2,e3,e4,cond_true,cond_false,Bool.true_and,Bool.false_and]at hQ
   try dsimp only
   rw[tm (b:=5) hk.1]
   simp only[h1,h2,h3,h4,h5,h6,h7,h8,h9,l1,l2,l3,i1,i2,i3,qe,tp,tpo,a1,a2,e1,e2]
   generalize 1+p%3=P at *
   cases o1:aa (op%4) 1<;>cases o2:aa (op%4) 2<;>simp only[o1,o2,cond_true,cond_false]at hQ ⊢
   all_goals
    simp only[aD,reduceCtorEq,bA,bB,ne_eq]at o1 o2 ⊢
    (repeat' first|exact trivial|refine⟨?_,?_⟩|intro)<;>first|contradiction|omega|exact hQ
 · skip
   have e1:aa (k%5) 1=false:=aF.mpr (by omega)
   have e2:aa (k%5) 2=false:=aF.mpr (by omega)
   have e3:aa (k%5) 3=true:=aS.mpr (by omega)
   have e4:aa (k%5) 4=false:=aF.mpr (by omega)
   have hX:fX k f n z0 z1 m d=false:=by unfold fX;rw[e1];rfl
   refine bX gz (L:=aW) (ws:=[]) (λx hx=>by cases hx) gx (by simp) ak (ap λQ' hQ=>al ((Ol k p op f ng n z0 z1 m d x y z fr ma).mpr ?_)) (by simp[i_,aq,bG])
   dsimp only
   have hQ:=hQ _ rfl
   unfold i_ mw mr fS fE kz kw at hQ
   rw[hX]at hQ
   simp only[fK,fP,fA,fB,fC,fD,e2,e3,e4,cond_true,cond_false,Bool.true_and,Bool.false_and]at hQ
   try dsimp only
   rw[tm (b:=5) hk.1]
   simp only[h1,h2,h3,h4,h5,h6,h7,h8,h9,l1,l2,l3,i1,i2,i3,qe,e1,e2,e3]
   try simp only[aD,reduceCtorEq,bA,bB,ne_eq]
   (repeat' first|exact trivial|refine⟨?_,?_⟩|intro)<;>first|contradiction|omega|exact hQ
 · skip
   have e1:aa (k%5) 1=false:=aF.mpr (by omega)
   have e2:aa (k%5) 2=false:=aF.mpr (by omega)
   have e3:aa (k%5) 3=false:=aF.mpr (by omega)
   have e4:aa (k%5) 4=true:=aS.mpr (by omega)
   have hX:fX k f n z0 z1 m d=false:=by unfold fX;rw[e1];rfl
   refine bX gz (L:=aW) (ws:=[]) (λx hx=>by cases hx) gx (by simp) ak (ap λQ' hQ=>al ((Nd k p op f ng n z0 z1 m d x y z fr ma).mpr ?_)) (by simp[i_,aq,bG])
   dsimp only
   have hQ:=hQ _ rfl
   unfold i_ mw mr fS fE kz kw at hQ
   rw[hX]at hQ
   simp only[fK,fP,fA,fB,fC,fD,e2,e3,e4,cond_true,cond_false,Bool.true_and,Bool.false_and]at hQ
   try dsimp only
   rw[tm (b:=5) hk.1]
   simp only[h1,h2,h3,h4,h5,h6,h7,h8,h9,l1,l2,l3,i1,i2,i3,qe,e1,e2,e3,e4]
   try simp only[aD,reduceCtorEq,bA,bB,ne_eq]
   (repeat' first|exact trivial|refine⟨?_,?_⟩|intro)<;>first|contradiction|omega|exact hQ
theorem Rm{k p op f:Int}{ng:Bool}{n z0 z1 m d x y z fr ma:Int}{gs:List (Int×Int)}{K:dv}(hin:∀p∈gs,(0<=p.1/\p.1<=255)/\(0<=p.2/\p.2<=255))(hk:0<=k/\k<=255)(hp:0<=p/\p<=255)(ho:0<=op/\op<=255)(h1:ae .u8 f=true)(h2:ae .u16 n=true)(h3:ae .u8 z0=true)(h4:ae .u8 z1=true)(h5:ae .u8 m=true)(h6:ae .u8 d=true)(h7:ae .u8 x=true)(h8:ae .u8 y=true)(h9:ae .u8 z=true)(hfr : -32768<=fr/\fr<=32767)(hma:0<=ma/\ma<=255)(hone:cN k f n z0 z1 m d=true):bR Tryz.prog cfg 26 [.agg [.int .u8 k,.int .u8 p,.int .u8 op,.int .u8 f,.bool ng,.int .u16 n,.int .u8 z0,.int .u8 z1,.int .u8 m,.int .u8 d,.int .u8 x,.int .u8 y,.int .u8 z,.int .i16 fr,.int .u8 ma,.slice 14 0 gs.length K]] [.cells (eZ gs) false none] (tA 15 (fu (bY fr ma (aa (op%4) 1) (aa (op%4) 2) gs)) (x6 gs)) [.cells (aJ (bY fr ma (aa (op%4) 1) (aa (op%4) 2) gs)) true (yN gs)]:=by
 have l1:Nat.ble (fN f n z0 z1).length 1000=true:=by rw[aB];have:=@oK f n z0 z1;omega
 have l2:Nat.ble (iI f n z0 z1 m).length 1000=true:=by rw[aB];have:=@oA f n z0 z1 m;omega
 have l3:Nat.ble (kC f n z0 z1 m d).length 1000=true:=by rw[aB];have:=@nV f n z0 z1 m d;omega
 have i1:ae .i16 fr=true:=by rw[aQ];exact hfr
 have i2:ae .u8 op=true:=by rw[aQ];exact ho
 have i3:ae .u8 ma=true:=by rw[aQ];exact hma
 have hw1:∀x∈[aw.cells (eZ gs) false none],eG 14 x:=λx hx=>by
  simp only[List.mem_singleton]at hx;subst hx;exact dw jm
 have cf:k%5=0\/k%5=1\/k%5=2\/k%5=3\/k%5=4:=by omega
 unfold cN at hone
 rcases cf with cf|cf|cf|cf|cf
 · skip
   have e1:aa (k%5) 1=false:=aF.mpr (by omega)
   have e2:aa (k%5) 2=false:=aF.mpr (by omega)
   have e3:aa (k%5) 3=false:=aF.mpr (by omega)
   have e4:aa (k%5) 4=false:=aF.mpr (by omega)
   refine k7 gz (L:=aW) gx (by simp) ak (ap λQ' hQ=>al ((Ll k p op f ng n z0 z1 m d x y z fr ma (eZ gs) gs.length K).mpr ?_))
   dsimp only
   try dsimp only
   rw[tm (b:=5) hk.1]
   have v1:=@qJ gs
   have v2:=ny hin
   have v3:=@oq gs
   have v4:Nat.ble (0+gs.length*2) (eZ gs).length=true:=by rw[aB,jR];omega
   have v5:=@gT gs
   have v6:Nat.beq gs.length gs.length=true:=dI rfl
   have c0:Bool.and true true=true:=rfl
   simp only[h1,h2,h3,h4,h5,h6,h7,h8,h9,l1,l2,l3,i1,i2,i3,e1,e2,e3,e4,v1,v2,v3,v4,v5,v6,c0]
   try simp only[aD,reduceCtorEq,bA,bB,ne_eq]
   (repeat' first|exact trivial|refine⟨?_,?_⟩|intro)<;>first|contradiction|omega|exact hQ _ (fH.lastW hw1 rfl rfl eT rfl)
 · skip
   have e1:aa (k%5) 1=true:=aS.mpr (by omega)
   have e2:aa (k%5) 2=false:=aF.mpr (by omega)
   have e3:aa (k%5) 3=false:=aF.mpr (by omega)
   have e4:aa (k%5) 4=false:=aF.mpr (by omega)
   cases hg:aa (iF f n z0 z1) 0 with
   | false=>
     refine k7 gz (L:=aW) gx (by simp) ak (ap λQ' hQ=>al ((Hp k p op f ng n z0 z1 m d x y z fr ma (eZ gs) gs.length K).mpr ?_))
     dsimp only
     try dsimp only
     rw[tm (b:=5) hk.1]
     have v1:=@qJ gs
     have v2:=ny hin
     have v3:=@oq gs
     have v4:Nat.ble (0+gs.length*2) (eZ gs).length=true:=by rw[aB,jR];omega
     have v5:=@gT gs
     have v6:Nat.beq gs.length gs.length=true:=dI rfl
     have c0:Bool.and true true=true:=rfl
     simp only[h1,h2,h3,h4,h5,h6,h7,h8,h9,l1,l2,l3,i1,i2,i3,e1,e2,e3,e4,hg,v1,v2,v3,v4,v5,v6,c0]
     try simp only[aD,reduceCtorEq,bA,bB,ne_eq]
     (repeat' first|exact trivial|refine⟨?_,?_⟩|intro)<;>first|contradiction|omega|exact hQ _ (fH.lastW hw1 rfl rfl eT rfl)
   | true=>
     have hX:bc (fN f n z0 z1++iI f n z0 z1 m++kC f n z0 z1 m d)=false:=by
      unfold fX at hone
      rw[e1,e2,e3,e4,hg]at hone
      simpa using hone
     refine k7 gz (L:=aW) gx (by simp) ak (ap λQ' hQ=>al ((Ha k p op f ng n z0 z1 m d x y z fr ma (eZ gs) gs.length K).mpr ?_))
     dsimp only
     try dsimp only
     rw[tm (b:=5) hk.1]
     have v1:=@qJ gs
     have v2:=ny hin
     have v3:=@oq gs
     have v4:Nat.ble (0+gs.length*2) (eZ gs).length=true:=by rw[aB,jR];omega
     have v5:=@gT gs
     have v6:Nat.beq gs.length gs.length=true:=dI rfl
     have c0:Bool.and true true=true:=rfl
     simp only[h1,h2,h3,h4,h5,h6,h7,h8,h9,l1,l2,l3,i1,i2,i3,e1,e2,e3,e4,hg,qe,hX,v1,v2,v3,v4,v5,v6,c0]
     try simp only[aD,reduceCtorEq,bA,bB,ne_eq]
     (repeat' first|exact trivial|refine⟨?_,?_⟩|intro)<;>first|contradiction|omega|exact hQ _ (fH.lastW hw1 rfl rfl eT rfl)
 · exfalso
   have e1:aa (k%5) 1=false:=aF.mpr (by omega)
   have e2:aa (k%5) 2=true:=aS.mpr (by omega)
   have e3:aa (k%5) 3=false:=aF.mpr (by omega)
   have e4:aa (k%5) 4=false:=aF.mpr (by omega)
   rw[e2]at hone;cases hone
 · exfalso
   have e1:aa (k%5) 1=false:=aF.mpr (by omega)
   have e2:aa (k%5) 2=false:=aF.mpr (by omega)
   have e3:aa (k%5) 3=true:=aS.mpr (by omega)
   have e4:aa (k%5) 4=false:=aF.mpr (by omega)
   rw[e2,e3]at hone;cases hone
 · exfalso
   have e1:aa (k%5) 1=false:=aF.mpr (by omega)
   have e2:aa (k%5) 2=false:=aF.mpr (by omega)
   have e3:aa (k%5) 3=false:=aF.mpr (by omega)
   have e4:aa (k%5) 4=true:=aS.mpr (by omega)
   rw[e2,e3,e4]at hone;cases hone
theorem Qu{k p op f:Int}{ng:Bool}{n z0 z1 m d x y z fr ma:Int}{gs:List (Int×Int)}{K:dv}(hin:∀p∈gs,(0<=p.1/\p.1<=255)/\(0<=p.2/\p.2<=255))(hk:0<=k/\k<=255)(hp:0<=p/\p<=255)(ho:0<=op/\op<=255)(h1:ae .u8 f=true)(h2:ae .u16 n=true)(h3:ae .u8 z0=true)(h4:ae .u8 z1=true)(h5:ae .u8 m=true)(h6:ae .u8 d=true)(h7:ae .u8 x=true)(h8:ae .u8 y=true)(h9:ae .u8 z=true)(hfr : -32768<=fr/\fr<=32767)(hma:0<=ma/\ma<=255)(hone:cN k f n z0 z1 m d=false):bR Tryz.prog cfg 26 [.agg [.int .u8 k,.int .u8 p,.int .u8 op,.int .u8 f,.bool ng,.int .u16 n,.int .u8 z0,.int .u8 z1,.int .u8 m,.int .u8 d,.int .u8 x,.int .u8 y,.int .u8 z,.int .i16 fr,.int .u8 ma,.slice 14 0 gs.length K]] [.cells (eZ gs) false none] (i_ k p op f ng n z0 z1 m d fr ma) []:=by
 have l1:Nat.ble (fN f n z0 z1).length 1000=true:=by rw[aB];have:=@oK f n z0 z1;omega
 have l2:Nat.ble (iI f n z0 z1 m).length 1000=true:=by rw[aB];have:=@oA f n z0 z1 m;omega
 have l3:Nat.ble (kC f n z0 z1 m d).length 1000=true:=by rw[aB];have:=@nV f n z0 z1 m d;omega
 have i1:ae .i16 fr=true:=by rw[aQ];exact hfr
 have i2:ae .u8 op=true:=by rw[aQ];exact ho
 have i3:ae .u8 ma=true:=by rw[aQ];exact hma
 have hw1:∀x∈[aw.cells (eZ gs) false none],eG 14 x:=λx hx=>by
  simp only[List.mem_singleton]at hx;subst hx;exact dw jm
 have cf:k%5=0\/k%5=1\/k%5=2\/k%5=3\/k%5=4:=by omega
 rcases cf with cf|cf|cf|cf|cf
 · exfalso
   have e1:aa (k%5) 1=false:=aF.mpr (by omega)
   have e2:aa (k%5) 2=false:=aF.mpr (by omega)
   have e3:aa (k%5) 3=false:=aF.mpr (by omega)
   have e4:aa (k%5) 4=false:=aF.mpr (by omega)
   unfold cN fX at hone
   rw[e1,e2,e3,e4]at hone;cases hone
 · skip
   have e1:aa (k%5) 1=true:=aS.mpr (by omega)
   have e2:aa (k%5) 2=false:=aF.mpr (by omega)
   have e3:aa (k%5) 3=false:=aF.mpr (by omega)
   have e4:aa (k%5) 4=false:=aF.mpr (by omega)
   have hX:fX k f n z0 z1 m d=true:=by
    unfold cN at hone
    rw[e2,e3,e4]at hone
    simpa using hone
   have hX':=hX
   unfold fX at hX'
   simp only[Bool.and_eq_true]at hX'
   obtain⟨_,hg,hx⟩:=hX'
   have g0:iF f n z0 z1=0:=aS.mp hg
   refine bX gz (L:=aW) hw1 gx (by simp) ak (ap λQ' hQ=>al ((IK k p op f ng n z0 z1 m d x y z fr ma (eZ gs) gs.length K).mpr ?_)) (by simp[i_,aq,bG])
   dsimp only
   have hQ:=hQ _ rfl
   unfold i_ mw mr fS fE kz kw at hQ
   rw[hX]at hQ
   simp only[fK,fP,fA,fB,fC,fD,e2,e3,e4,cond_true,cond_false,Bool.true_and,Bool.false_and]at hQ
   try dsimp only
   rw[tm (b:=5) hk.1]
   simp only[h1,h2,h3,h4,h5,h6,h7,h8,h9,l1,l2,l3,i1,i2,i3,qe,e1,hx]
   rw[g0]
   try simp only[aD,reduceCtorEq,bA,bB,ne_eq]
   (repeat' first|exact trivial|refine⟨?_,?_⟩|intro)<;>first|contradiction|omega|exact hQ
 · skip
   have e1:aa (k%5) 1=false:=aF.mpr (by omega)
   have e2:aa (k%5) 2=true:=aS.mpr (by omega)
   have e3:aa (k%5) 3=false:=aF.mpr (by omega)
   have e4:aa (k%5) 4=false:=aF.mpr (by omega)
   have hX:fX k f n z0 z1 m d=false:=by unfold fX;rw[e1];rfl
   have tp:Int.tmod p 3=p%3:=tm hp.1
   have tpo:Int.tmod op 4=op%4:=tm ho.1
   have a1:Int.add 1 (p%3)=1+p%3:=rfl
   have a2:Int.add fr ma=fr+ma:=rfl
   have b1:1<=1+p%3/\1+p%3<=3:=by omega
   refine bX gz (L:=aW) hw1 gx (by simp) ak (ap λQ' hQ=>al ((KY k p op f ng n z0 z1 m d x y z fr ma (eZ gs) gs.length K).mpr ?_)) (by simp[i_,aq,bG])
   dsimp only
   have hQ:=hQ _ rfl
   unfold i_ mw mr fS fE kz kw at hQ
   rw[hX]at hQ
   simp only[fK,fP,fA,fB,fC,fD,e2,e3,e4,cond_true,cond_false,Bool.true_and,Bool.false_and]at hQ
   try dsimp only
   rw[tm (b:=5) hk.1]
   simp only[h1,h2,h3,h4,h5,h6,h7,h8,h9,l1,l2,l3,i1,i2,i3,qe,tp,tpo,a1,a2,e1,e2]
   generalize 1+p%3=P at *
   cases o1:aa (op%4) 1<;>cases o2:aa (op%4) 2<;>simp only[o1,o2,cond_true,cond_false]at hQ ⊢
   all_goals
    simp only[aD,reduceCtorEq,bA,bB,ne_eq]at o1 o2 ⊢
    (repeat' first|exact trivial|refine⟨?_,?_⟩|intro)<;>first|contradiction|omega|exact hQ
 · skip
   have e1:aa (k%5) 1=false:=aF.mpr (by omega)
   have e2:aa (k%5) 2=false:=aF.mpr (by omega)
   have e3:aa (k%5) 3=true:=aS.mpr (by omega)
   have e4:aa (k%5) 4=false:=aF.mpr (by omega)
   have hX:fX k f n z0 z1 m d=false:=by unfold fX;rw[e1];rfl
   refine bX gz (L:=aW) hw1 gx (by simp) ak (ap λQ' hQ=>al ((Ok k p op f ng n z0 z1 m d x y z fr ma (eZ gs) gs.length K).mpr ?_)) (by simp[i_,aq,bG])
   dsimp only
   have hQ:=hQ _ rfl
   unfold i_ mw mr fS fE kz kw at hQ
   rw[hX]at hQ
   simp only[fK,fP,fA,fB,fC,fD,e2,e3,e4,cond_true,cond_false,Bool.true_and,Bool.false_and]at hQ
   try dsimp only
   rw[tm (b:=5) hk.1]
   simp only[h1,h2,h3,h4,h5,h6,h7,h8,h9,l1,l2,l3,i1,i2,i3,qe,e1,e2,e3]
   try simp only[aD,reduceCtorEq,bA,bB,ne_eq]
   (repeat' first|exact trivial|refine⟨?_,?_⟩|intro)<;>first|contradiction|omega|exact hQ
 · skip
   have e1:aa (k%5) 1=false:=aF.mpr (by omega)
   have e2:aa (k%5) 2=false:=aF.mpr (by omega)
   have e3:aa (k%5) 3=false:=aF.mpr (by omega)
   have e4:aa (k%5) 4=true:=aS.mpr (by omega)
   have hX:fX k f n z0 z1 m d=false:=by unfold fX;rw[e1];rfl
   refine bX gz (L:=aW) hw1 gx (by simp) ak (ap λQ' hQ=>al ((Ni k p op f ng n z0 z1 m d x y z fr ma (eZ gs) gs.length K).mpr ?_)) (by simp[i_,aq,bG])
   dsimp only
   have hQ:=hQ _ rfl
   unfold i_ mw mr fS fE kz kw at hQ
   rw[hX]at hQ
   simp only[fK,fP,fA,fB,fC,fD,e2,e3,e4,cond_true,cond_false,Bool.true_and,Bool.false_and]at hQ
   try dsimp only
   rw[tm (b:=5) hk.1]
   simp only[h1,h2,h3,h4,h5,h6,h7,h8,h9,l1,l2,l3,i1,i2,i3,qe,e1,e2,e3,e4]
   try simp only[aD,reduceCtorEq,bA,bB,ne_eq]
   (repeat' first|exact trivial|refine⟨?_,?_⟩|intro)<;>first|contradiction|omega|exact hQ
end Go.Ev
