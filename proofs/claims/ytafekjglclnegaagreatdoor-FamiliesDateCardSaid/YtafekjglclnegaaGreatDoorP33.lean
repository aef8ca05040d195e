import Derived.Test.YtafekjglclnegaaGreatDoorP32
set_option linter.all false
set_option maxRecDepth 100000
set_option maxHeartbeats 4000000
namespace Go.Ev
open Go Go.Proofs
noncomputable def Z1:Sums:=addG (addP T9 188 s188) 187 (winS 14 [] w187)
theorem Z1_ok:SumsOK Tryz.prog cfg Z1:=add187 (add188 T9_ok)
def mAt (w:List AV) (i:Nat):Int:=intOf (w.getD i (.tuple []))
def dayN (d0 d1:UInt8) (y m:Int):List Int:=fitL d0 d1 (mlenR y m).toNat
def triL (y m:Int):List Int->List AV
 | []=>[]
 | d::ds=>.int .i64 y::.int .i64 m::.int .i64 d::triL y m ds
def outW (n:Nat):AV:=match n with
 | 0=>.nilslice
 | k+1=>.slice 16 0 (k+1) (.rest 0)
def ownW (n:Nat) (cs:List AV) (mb b0:AObj):Own:=match n with
 | 0=>⟨2,[mb,b0],[]⟩
 | _+1=>⟨3,[.cells cs true (some 3),mb,b0],[]⟩
def noIds (cs:List AV):Bool:=(idsL cs).isEmpty
def ansB (y:Int) (nM:Nat) (i:Int) (mb b0:AObj) (m:Int) (D:List Int):Tr (AX×List AV×Own):=.ret (.exit 2,[.int .i64 y,.ptr 14 0,outW D.length,.slice 15 0 nM (.rest 0),.int .i64 i,.int .i64 (mlenR y m+1)],ownW D.length (triL y m D) mb b0)
def outX (n k:Nat):AV:=match k with
 | 0=>.slice 16 0 n (.rest 0)
 | k+1=>.slice 17 0 (n+(k+1)) (.rest 0)
def ownX (k:Nat) (cs cs':List AV) (mb b0:AObj):Own:=match k with
 | 0=>⟨3,[.cells cs true (some 3),mb,b0],[]⟩
 | _+1=>⟨4,[.cells cs' true (some 3),.dead,mb,b0],[]⟩
def ansC (y:Int) (nM:Nat) (i:Int) (n:Nat) (cs:List AV) (mb b0:AObj) (m:Int) (D:List Int):Tr (AX×List AV×Own):=.ret (.exit 2,[.int .i64 y,.ptr 14 0,outX n D.length,.slice 15 0 nM (.rest 0),.int .i64 i,.int .i64 (mlenR y m+1)],ownX D.length cs (cs++triL y m D) mb b0)
def v129b:LoopV:=fun vs o=>match vs,o with
 | [.int .i64 y,.ptr 14 0,.nilslice,.slice 15 0 nM (.rest 0),.int .i64 i,.int .i64 d],⟨2,[.cells w true (some 1),.cells [.bool ng,.bool lg,.str s,.int .i64 e,.int .i64 g,.str mo,.str [d0,d1],.int .u8 a,.int .u8 b,.int .u8 c] true none],[]⟩=>
   some (asrts [intEq d 1,intLe 0 i,natLt i.toNat nM,Nat.ble nM 1000,okYbR y,mBy d0,mBy d1,isKA .i64 (w.getD i.toNat (.tuple [])),noIds w] (ansB y nM i (.cells w true (some 1)) (boxD ng lg s e g mo [d0,d1] a b c) (mAt w i.toNat) (dayN d0 d1 y (mAt w i.toNat))))
 | [.int .i64 y,.ptr 14 0,.slice 16 0 n (.rest 0),.slice 15 0 nM (.rest 0),.int .i64 i,.int .i64 d],⟨3,[.cells cs true (some 3),.cells w true (some 1),.cells [.bool ng,.bool lg,.str s,.int .i64 e,.int .i64 g,.str mo,.str [d0,d1],.int .u8 a,.int .u8 b,.int .u8 c] true none],[]⟩=>
   some (asrts [intEq d 1,intLe 0 i,natLt i.toNat nM,Nat.ble nM 1000,okYbR y,mBy d0,mBy d1,isKA .i64 (w.getD i.toNat (.tuple [])),noIds w,Nat.beq cs.length (n*3),natLt 0 n,Nat.ble n 40000,noIds cs] (ansC y nM i n cs (.cells w true (some 1)) (boxD ng lg s e g mo [d0,d1] a b c) (mAt w i.toNat) (dayN d0 d1 y (mAt w i.toNat))))
 | _,_=>none
def L129b:Loops:=addL noL 2 (loopE 55 [1,2,5,6,7,8] v129b)
theorem r129n (ng lg:Bool) (s:List UInt8) (e g:Int) (mo da:List UInt8) (a b c y d:Int) (w:List AV) (nM i:Nat) (J:Nat->Value) {Q:VQ->Prop}:askA Q (rT Z1 noL [] 129 1 55 [1,2,5,6,7,8] [.int .i64 y,.ptr 14 0,.nilslice,.slice 15 0 nM (.rest 0),.int .i64 (Int.ofNat i),.int .i64 d] J ⟨2,[.cells w true (some 1),boxD ng lg s e g mo da a b c],[]⟩) (dtN 1112120522042200420420)=((fun (u5 u6 u7 u8 u9:AV) (u1 u3:Bool) (u2:Int) (u0 u4:Prop)=>(fun (ua:Bool) (ub:List AV)=>u0/\(u1=true->inR .i64 y=true/\(ua=true->intLe 0 d=true/\intLe d 99=true/\(u3=true->u0/\u1=true/\u4/\Q (AX.normal,([u5,u6,AV.slice 17 0 1 (Cap.rest 0),u7,u8,u9],{ n:=4,os:=[AObj.cells ub true (Option.some 3),AObj.cells ub true Option.none,AObj.cells w true (Option.some 1),AObj.cells [AV.bool ng,AV.bool lg,AV.str s,AV.int .i64 e,AV.int .i64 g,AV.str mo,AV.str da,AV.int .u8 a,AV.int .u8 b,AV.int .u8 c] true Option.none],le:=[] })))/\(u3=false->u4/\Q (AX.normal,([u5,u6,AV.nilslice,u7,u8,u9],{ n:=2,os:=[AObj.cells w true (Option.some 1),AObj.cells [AV.bool ng,AV.bool lg,AV.str s,AV.int .i64 e,AV.int .i64 g,AV.str mo,AV.str da,AV.int .u8 a,AV.int .u8 b,AV.int .u8 c] true Option.none],le:=[] }))))/\(ua=false->Q (AX.exit 2,([u5,u6,AV.nilslice,u7,u8,AV.int .i64 d],{ n:=2,os:=[AObj.cells w true (Option.some 1),AObj.cells [AV.bool ng,AV.bool lg,AV.str s,AV.int .i64 e,AV.int .i64 g,AV.str mo,AV.str da,AV.int .u8 a,AV.int .u8 b,AV.int .u8 c] true Option.none],le:=[] }))))/\(u1=false->False)) (intLe d (mlenR y u2)) [u5,AV.int .i64 u2,AV.int .i64 d]) (AV.int .i64 y) (AV.ptr 14 0) (AV.slice 15 0 nM (Cap.rest 0)) (AV.int .i64 (Int.ofNat i)) (AV.int .i64 (Int.add d 1)) (isKA .i64 (List.getD w (HAdd.hAdd 0 (HMul.hMul i 1)) (AV.tuple []))) (intEq (cond (agr da d) 1 0) 1) (intOf (List.getD w (HAdd.hAdd 0 (HMul.hMul i 1)) (AV.tuple []))) (natLt i nM=true) (inR .i64 (Int.add d 1)=true)):=by kernel_rfl
theorem r129s (ng lg:Bool) (s:List UInt8) (e g:Int) (mo da:List UInt8) (a b c y d:Int) (w cs:List AV) (nM i n:Nat) (J:Nat->Value) {Q:VQ->Prop}:askA Q (rT Z1 noL [] 129 1 55 [1,2,5,6,7,8] [.int .i64 y,.ptr 14 0,.slice 16 0 n (.rest 0),.slice 15 0 nM (.rest 0),.int .i64 (Int.ofNat i),.int .i64 d] J ⟨3,[.cells cs true (some 3),.cells w true (some 1),boxD ng lg s e g mo da a b c],[]⟩) (dtN 1112112452022042200420420)=((fun (u6 u7 u8 u9 ua ub:AV) (u1 u3 u4:Bool) (u2:Int) (u0 u5:Prop)=>(fun (uc:Bool) (ud:List AV)=>u0/\(u1=true->inR .i64 y=true/\(uc=true->intLe 0 d=true/\intLe d 99=true/\(u3=true->u0/\u1=true/\and (and (Nat.ble (HAdd.hAdd n 1) 1000000) true) true=true/\(u4=true->u5/\Q (AX.normal,([u6,u7,AV.slice 18 0 (HAdd.hAdd n 1) (Cap.rest 0),u8,u9,ua],{ n:=5,os:=[AObj.cells (HAppend.hAppend cs ud) true (Option.some 3),AObj.cells ud true Option.none,AObj.dead,AObj.cells w true (Option.some 1),AObj.cells [AV.bool ng,AV.bool lg,AV.str s,AV.int .i64 e,AV.int .i64 g,AV.str mo,AV.str da,AV.int .u8 a,AV.int .u8 b,AV.int .u8 c] true Option.none],le:=[] })))/\(u4=false->False))/\(u3=false->u5/\Q (AX.normal,([u6,u7,ub,u8,u9,ua],{ n:=3,os:=[AObj.cells cs true (Option.some 3),AObj.cells w true (Option.some 1),AObj.cells [AV.bool ng,AV.bool lg,AV.str s,AV.int .i64 e,AV.int .i64 g,AV.str mo,AV.str da,AV.int .u8 a,AV.int .u8 b,AV.int .u8 c] true Option.none],le:=[] }))))/\(uc=false->Q (AX.exit 2,([u6,u7,ub,u8,u9,AV.int .i64 d],{ n:=3,os:=[AObj.cells cs true (Option.some 3),AObj.cells w true (Option.some 1),AObj.cells [AV.bool ng,AV.bool lg,AV.str s,AV.int .i64 e,AV.int .i64 g,AV.str mo,AV.str da,AV.int .u8 a,AV.int .u8 b,AV.int .u8 c] true Option.none],le:=[] }))))/\(u1=false->False)) (intLe d (mlenR y u2)) [u6,AV.int .i64 u2,AV.int .i64 d]) (AV.int .i64 y) (AV.ptr 14 0) (AV.slice 15 0 nM (Cap.rest 0)) (AV.int .i64 (Int.ofNat i)) (AV.int .i64 (Int.add d 1)) (AV.slice 16 0 n (Cap.rest 0)) (isKA .i64 (List.getD w (HAdd.hAdd 0 (HMul.hMul i 1)) (AV.tuple []))) (intEq (cond (agr da d) 1 0) 1) (and true (Nat.beq (List.length cs) (HMul.hMul n 3))) (intOf (List.getD w (HAdd.hAdd 0 (HMul.hMul i 1)) (AV.tuple []))) (natLt i nM=true) (inR .i64 (Int.add d 1)=true)):=by kernel_rfl
theorem r129t (ng lg:Bool) (s:List UInt8) (e g:Int) (mo da:List UInt8) (a b c y d:Int) (w cs:List AV) (nM i n:Nat) (J:Nat->Value) {Q:VQ->Prop}:askA Q (rT Z1 noL [] 129 1 55 [1,2,5,6,7,8] [.int .i64 y,.ptr 14 0,.slice 17 0 n (.rest 0),.slice 15 0 nM (.rest 0),.int .i64 (Int.ofNat i),.int .i64 d] J ⟨4,[.cells cs true (some 3),.dead,.cells w true (some 1),boxD ng lg s e g mo da a b c],[]⟩) (dtN 1112112452022042200420420)=((fun (u6 u7 u8 u9 ua ub:AV) (u1 u3 u4:Bool) (u2:Int) (u0 u5:Prop)=>(fun (uc:Bool) (ud:List AV)=>u0/\(u1=true->inR .i64 y=true/\(uc=true->intLe 0 d=true/\intLe d 99=true/\(u3=true->u0/\u1=true/\and (and (Nat.ble (HAdd.hAdd n 1) 1000000) true) true=true/\(u4=true->u5/\Q (AX.normal,([u6,u7,AV.slice 19 0 (HAdd.hAdd n 1) (Cap.rest 0),u8,u9,ua],{ n:=6,os:=[AObj.cells (HAppend.hAppend cs ud) true (Option.some 3),AObj.cells ud true Option.none,AObj.dead,AObj.dead,AObj.cells w true (Option.some 1),AObj.cells [AV.bool ng,AV.bool lg,AV.str s,AV.int .i64 e,AV.int .i64 g,AV.str mo,AV.str da,AV.int .u8 a,AV.int .u8 b,AV.int .u8 c] true Option.none],le:=[] })))/\(u4=false->False))/\(u3=false->u5/\Q (AX.normal,([u6,u7,ub,u8,u9,ua],{ n:=4,os:=[AObj.cells cs true (Option.some 3),AObj.dead,AObj.cells w true (Option.some 1),AObj.cells [AV.bool ng,AV.bool lg,AV.str s,AV.int .i64 e,AV.int .i64 g,AV.str mo,AV.str da,AV.int .u8 a,AV.int .u8 b,AV.int .u8 c] true Option.none],le:=[] }))))/\(uc=false->Q (AX.exit 2,([u6,u7,ub,u8,u9,AV.int .i64 d],{ n:=4,os:=[AObj.cells cs true (Option.some 3),AObj.dead,AObj.cells w true (Option.some 1),AObj.cells [AV.bool ng,AV.bool lg,AV.str s,AV.int .i64 e,AV.int .i64 g,AV.str mo,AV.str da,AV.int .u8 a,AV.int .u8 b,AV.int .u8 c] true Option.none],le:=[] }))))/\(u1=false->False)) (intLe d (mlenR y u2)) [u6,AV.int .i64 u2,AV.int .i64 d]) (AV.int .i64 y) (AV.ptr 14 0) (AV.slice 15 0 nM (Cap.rest 0)) (AV.int .i64 (Int.ofNat i)) (AV.int .i64 (Int.add d 1)) (AV.slice 17 0 n (Cap.rest 0)) (isKA .i64 (List.getD w (HAdd.hAdd 0 (HMul.hMul i 1)) (AV.tuple []))) (intEq (cond (agr da d) 1 0) 1) (and true (Nat.beq (List.length cs) (HMul.hMul n 3))) (intOf (List.getD w (HAdd.hAdd 0 (HMul.hMul i 1)) (AV.tuple []))) (natLt i nM=true) (inR .i64 (Int.add d 1)=true)):=by kernel_rfl
theorem q129n (ng lg:Bool) (s:List UInt8) (e g:Int) (mo:List UInt8) (d0 d1:UInt8) (a b c y:Int) (w:List AV) (nM i:Nat) (J:Nat->Value) {Q:VQ->Prop}:askA Q (rT Z1 L129b [] 129 0 55 [1,2,5,6,7] [.int .i64 y,.ptr 14 0,.nilslice,.slice 15 0 nM (.rest 0),.int .i64 (Int.ofNat i)] J ⟨2,[.cells w true (some 1),boxD ng lg s e g mo [d0,d1] a b c],[]⟩) (dtN 11122422754)=((fun (u2 u3 u5:AV) (u1:Bool) (u0:Int) (u4:List Int)=>(fun (u8 u9:AV) (u6:Bool) (u7:Nat)=>(u6=true->natLt i nM=true/\Nat.ble nM 1000=true/\and (intLe (Neg.neg 10000000000000000) y) (intLe y 10000000000000000)=true/\mBy d0=true/\mBy d1=true/\(u1=true->noIds w=true/\(∀J1:Nat->Value,inR .i64 (Int.add u0 1)=true/\Q (AX.normal,([u2,u3,outW u7,u5,u8],Prod.snd (u8,Prod.snd (u8,Prod.snd (u9,Prod.snd ([u2,u3,outW u7,u5,u9,AV.int .i64 (HAdd.hAdd (mlenR y (mAt w i)) 1)],ownW u7 (triL y (mAt w i) u4) (AObj.cells w true (Option.some 1)) (AObj.cells [AV.bool ng,AV.bool lg,AV.str s,AV.int .i64 e,AV.int .i64 g,AV.str mo,AV.str [d0,d1],AV.int .u8 a,AV.int .u8 b,AV.int .u8 c] true Option.none)))))))))/\(u1=false->False))/\(u6=false->Q (AX.exit 0,([u2,u3,AV.nilslice,u5,u9],{ n:=2,os:=[AObj.cells w true (Option.some 1),AObj.cells [AV.bool ng,AV.bool lg,AV.str s,AV.int .i64 e,AV.int .i64 g,AV.str mo,AV.str [d0,d1],AV.int .u8 a,AV.int .u8 b,AV.int .u8 c] true Option.none],le:=[] })))) (AV.int .i64 (Int.add u0 1)) (AV.int .i64 u0) (not (intLe (Int.ofNat nM) u0)) (List.length u4)) (AV.int .i64 y) (AV.ptr 14 0) (AV.slice 15 0 nM (Cap.rest 0)) (isKA .i64 (List.getD w i (AV.tuple []))) (Int.ofNat i) (dayN d0 d1 y (mAt w i))):=by kernel_rfl
theorem q129s (ng lg:Bool) (s:List UInt8) (e g:Int) (mo:List UInt8) (d0 d1:UInt8) (a b c y:Int) (w cs:List AV) (nM i n:Nat) (J:Nat->Value) {Q:VQ->Prop}:askA Q (rT Z1 L129b [] 129 0 55 [1,2,5,6,7] [.int .i64 y,.ptr 14 0,.slice 16 0 n (.rest 0),.slice 15 0 nM (.rest 0),.int .i64 (Int.ofNat i)] J ⟨3,[.cells cs true (some 3),.cells w true (some 1),boxD ng lg s e g mo [d0,d1] a b c],[]⟩) (dtN 11177422754)=((fun (u2 u3 u5:AV) (u1:Bool) (u0:Int) (u4:List Int)=>(fun (u8 u9:AV) (u6:Bool) (u7:Nat)=>(u6=true->natLt i nM=true/\Nat.ble nM 1000=true/\and (intLe (Neg.neg 10000000000000000) y) (intLe y 10000000000000000)=true/\mBy d0=true/\mBy d1=true/\(u1=true->noIds w=true/\Nat.beq (List.length cs) (HMul.hMul n 3)=true/\natLt 0 n=true/\Nat.ble n 40000=true/\noIds cs=true/\(∀J1:Nat->Value,inR .i64 (Int.add u0 1)=true/\Q (AX.normal,([u2,u3,outX n u7,u5,u8],Prod.snd (u8,Prod.snd (u8,Prod.snd (u9,Prod.snd ([u2,u3,outX n u7,u5,u9,AV.int .i64 (HAdd.hAdd (mlenR y (mAt w i)) 1)],ownX u7 cs (HAppend.hAppend cs (triL y (mAt w i) u4)) (AObj.cells w true (Option.some 1)) (AObj.cells [AV.bool ng,AV.bool lg,AV.str s,AV.int .i64 e,AV.int .i64 g,AV.str mo,AV.str [d0,d1],AV.int .u8 a,AV.int .u8 b,AV.int .u8 c] true Option.none)))))))))/\(u1=false->False))/\(u6=false->Q (AX.exit 0,([u2,u3,AV.slice 16 0 n (Cap.rest 0),u5,u9],{ n:=3,os:=[AObj.cells cs true (Option.some 3),AObj.cells w true (Option.some 1),AObj.cells [AV.bool ng,AV.bool lg,AV.str s,AV.int .i64 e,AV.int .i64 g,AV.str mo,AV.str [d0,d1],AV.int .u8 a,AV.int .u8 b,AV.int .u8 c] true Option.none],le:=[] })))) (AV.int .i64 (Int.add u0 1)) (AV.int .i64 u0) (not (intLe (Int.ofNat nM) u0)) (List.length u4)) (AV.int .i64 y) (AV.ptr 14 0) (AV.slice 15 0 nM (Cap.rest 0)) (isKA .i64 (List.getD w i (AV.tuple []))) (Int.ofNat i) (dayN d0 d1 y (mAt w i))):=by kernel_rfl
theorem inner129:((loopsOf (lb 129 0)).getD 0 (0,.skip)).2=lb 129 1:=by kernel_rfl
theorem inner129i:(loopsOf (lb 129 0)).map (·.1)=[2]:=by kernel_rfl
theorem loops129:(loopsOf (codeOf 129)).map (·.1)=[0,2]:=by kernel_rfl
theorem body129:bodyOf tab 129=some (fnOf 129,codeOf 129):=by kernel_rfl
theorem noIds_iff {cs:List AV}:noIds cs=true↔idsL cs=[]:=by unfold noIds;exact List.isEmpty_iff
theorem idsL_app:∀{a b:List AV},idsL (a++b)=idsL a++idsL b
 | [],b=>rfl
 | x::a,b=>by simp only [List.cons_append,idsL,idsL_app (a:=a) (b:=b),List.append_assoc]
theorem idsL_tri {y m:Int}:∀{D:List Int},idsL (triL y m D)=[]
 | []=>rfl
 | d::ds=>by simp only [triL,idsL,idsA,List.nil_append];exact idsL_tri
theorem triL_app {y m:Int}:∀{a b:List Int},triL y m (a++b)=triL y m a++triL y m b
 | [],b=>rfl
 | x::a,b=>by simp only [List.cons_append,triL,triL_app (a:=a) (b:=b)]
theorem triL_len {y m:Int}:∀{D:List Int},(triL y m D).length=D.length*3
 | []=>rfl
 | d::ds=>by simp only [triL,List.length_cons,triL_len (D:=ds)];omega
theorem outW_pos {n:Nat} (h:0<n):outW n=.slice 16 0 n (.rest 0):=by cases n with|zero=>omega|succ k=>rfl
theorem ownW_pos {n:Nat} (h:0<n) {cs:List AV} {mb b0:AObj}:ownW n cs mb b0=⟨3,[.cells cs true (some 3),mb,b0],[]⟩:=by cases n with|zero=>omega|succ k=>rfl
theorem ownW_n {n:Nat} {cs:List AV} {mb b0:AObj}:2≤(ownW n cs mb b0).n:=by
 cases n with
 | zero=>exact Nat.le_refl _
 | succ k=>exact Nat.le_succ _
theorem ownX_n {k:Nat} {cs cs':List AV} {mb b0:AObj}:3≤(ownX k cs cs' mb b0).n:=by
 cases k with
 | zero=>exact Nat.le_refl _
 | succ k=>exact Nat.le_succ _
theorem core129A {Q:VQ->Prop} {ng lg:Bool} {s:List UInt8} {e g:Int} {mo:List UInt8} {d0 d1:UInt8} {a b c y:Int} {w:List AV} {nM i:Nat} {J:Nat->Value} (hy : -10000000000000000≤y/\y≤10000000000000000) (hi:i<nM) (hM:nM≤1000) (hk:isKA .i64 (w.getD i (.tuple []))=true) (hw:noIds w=true)
 (hq:Q (.exit 2,[.int .i64 y,.ptr 14 0,outW (dayN d0 d1 y (mAt w i)).length,.slice 15 0 nM (.rest 0),.int .i64 (Int.ofNat i),.int .i64 (mlenR y (mAt w i)+1)],ownW (dayN d0 d1 y (mAt w i)).length (triL y (mAt w i) (dayN d0 d1 y (mAt w i))) (.cells w true (some 1)) (boxD ng lg s e g mo [d0,d1] a b c))) :
 Sem Tryz.prog (cfgS cfg Z1) (Cw cfg []) (.loop (lb 129 1)) (stN 55 [1,2,5,6,7,8] [.int .i64 y,.ptr 14 0,.nilslice,.slice 15 0 nM (.rest 0),.int .i64 (Int.ofNat i),.int .i64 (1)] J ⟨2,[.cells w true (some 1),boxD ng lg s e g mo [d0,d1] a b c],[]⟩) fun r=>∃ax vs' o' J',Q (ax,vs',o')/\r=(ax,stN 55 [1,2,5,6,7,8] vs' J' o'):=by
 have hml:=mlenR_bd y (mAt w i)
 refine lvOK Z1_ok rfl rfl lok_none (ι:={j:Nat // j≤(mlenR y (mAt w i)).toNat}) (fun x=>[.int .i64 y,.ptr 14 0,outW (fitL d0 d1 x.1).length,.slice 15 0 nM (.rest 0),.int .i64 (Int.ofNat i),.int .i64 ((x.1:Int)+1)]) (fun x=>ownW (fitL d0 d1 x.1).length (triL y (mAt w i) (fitL d0 d1 x.1)) (.cells w true (some 1)) (boxD ng lg s e g mo [d0,d1] a b c)) (fun x=>(mlenR y (mAt w i)).toNat-x.1) 2 (fun x=>ownW_n) (fun x J=>?_) (Nat.le_refl _) (fun J=>Wk.refl ⟨⟨0,Nat.zero_le _⟩,J,rfl⟩) J
 obtain ⟨j,hj⟩:=x
 dsimp only
 have hlen:=fitL_len d0 d1 j
 have hs:=fitL_succ d0 d1 j
 have wl:LowO (14+2) (.cells w true (some 1)):=low_plain (noIds_iff.1 hw)
 have bl:LowO (14+2) (boxD ng lg s e g mo [d0,d1] a b c):=low_plain (by simp [idsL,idsA])
 have fin:mlenR y (mAt w i)<(j:Int)+1->∃vs2 o2,VW cfg (Cw cfg []) 2 55 [1,2,5,6,7,8] [.int .i64 y,.ptr 14 0,outW (fitL d0 d1 j).length,.slice 15 0 nM (.rest 0),.int .i64 (Int.ofNat i),.int .i64 ((j:Int)+1)] (ownW (fitL d0 d1 j).length (triL y (mAt w i) (fitL d0 d1 j)) (.cells w true (some 1)) (boxD ng lg s e g mo [d0,d1] a b c)) vs2 o2/\Q (.exit 2,vs2,o2):=fun h=>by
  have e:j=(mlenR y (mAt w i)).toNat:=by omega
  have e2:(j:Int)+1=mlenR y (mAt w i)+1:=by omega
  rw [e2]
  subst e
  exact ⟨_,_,VW.refl,hq⟩
 have hi0:0+i*1=i:=by omega
 have hA:mAt w i=intOf (w.getD i (.tuple [])):=rfl
 have go:(j:Int)+1≤mlenR y (mAt w i)->∀vs o,VW cfg (Cw cfg []) 2 55 [1,2,5,6,7,8] vs o [.int .i64 y,.ptr 14 0,outW (fitL d0 d1 (j+1)).length,.slice 15 0 nM (.rest 0),.int .i64 (Int.ofNat i),.int .i64 ((j:Int)+1+1)] (ownW (fitL d0 d1 (j+1)).length (triL y (mAt w i) (fitL d0 d1 (j+1))) (.cells w true (some 1)) (boxD ng lg s e g mo [d0,d1] a b c))->∃x:{j:Nat // j≤(mlenR y (mAt w i)).toNat},(mlenR y (mAt w i)).toNat-x.1<(mlenR y (mAt w i)).toNat-j/\VW cfg (Cw cfg []) 2 55 [1,2,5,6,7,8] vs o [.int .i64 y,.ptr 14 0,outW (fitL d0 d1 x.1).length,.slice 15 0 nM (.rest 0),.int .i64 (Int.ofNat i),.int .i64 ((x.1:Int)+1)] (ownW (fitL d0 d1 x.1).length (triL y (mAt w i) (fitL d0 d1 x.1)) (.cells w true (some 1)) (boxD ng lg s e g mo [d0,d1] a b c)):=fun hle vs o hv=>⟨⟨j+1,by omega⟩,by dsimp only;omega,hv⟩
 have hids:idsL (triL y (mAt w i) (fitL d0 d1 j))=[]:=by exact idsL_tri
 have hlenc:(triL y (mAt w i) (fitL d0 d1 j)).length=((fitL d0 d1 j).length)*3:=by rw [triL_len]
 clear hq
 by_cases hD:fitL d0 d1 j=[]
 · · rw [hD] at fin ⊢
     refine wp_gen fun Q' hQ=>askA_wp ((r129n ng lg s e g mo [d0,d1] a b c y ((j:Int)+1) w nM i J).mpr ?_)
     dsimp only
     have fin2:mlenR y (mAt w i)<(j:Int)+1->Q' (.exit 2,[.int .i64 y,.ptr 14 0,.nilslice,.slice 15 0 nM (.rest 0),.int .i64 (Int.ofNat i),.int .i64 ((j:Int)+1)],⟨2,[.cells w true (some 1),boxD ng lg s e g mo [d0,d1] a b c],[]⟩):=fun h=>hQ _ (fin h)
     cases ha:agr [d0,d1] ((j:Int)+1) with
     | true=>
       rw [ha] at hs
       have hs:fitL d0 d1 (j+1)=fitL d0 d1 j++[(j:Int)+1]:=hs
       have go2:(j:Int)+1≤mlenR y (mAt w i)->Q' (.normal,[.int .i64 y,.ptr 14 0,.slice 17 0 1 (.rest 0),.slice 15 0 nM (.rest 0),.int .i64 (Int.ofNat i),.int .i64 ((j:Int)+1+1)],⟨4,[.cells [.int .i64 y,.int .i64 (mAt w i),.int .i64 ((j:Int)+1)] true (some 3),.cells [.int .i64 y,.int .i64 (mAt w i),.int .i64 ((j:Int)+1)] true none,.cells w true (some 1),boxD ng lg s e g mo [d0,d1] a b c],[]⟩):=fun h=>hQ (.normal,_,_) (go h _ _ (by
        rw [hs,hD]
        exact vw_lastN (x:=.cells [.int .i64 y,.int .i64 (mAt w i),.int .i64 ((j:Int)+1)] true (some 3)) (mid:=[.cells [.int .i64 y,.int .i64 (mAt w i),.int .i64 ((j:Int)+1)] true none]) (B:=[.cells w true (some 1),boxD ng lg s e g mo [d0,d1] a b c]) (k:=1) (kb:=2) (n:=4) rfl rfl rfl (fun z hz=>by
         simp only [List.mem_cons,List.not_mem_nil,or_false] at hz
         rcases hz with rfl|rfl
         · exact wl
         · exact bl) (low_plain rfl) rfl))
       clear hQ go fin hs hids
       rw [hi0,hk,←hA]
       try simp only [cond_true,cond_false]
       clear hA hk
       generalize mAt w i=m at *
       simp only [q_all,reduceCtorEq,loK,hiK,ne_eq]
       try simp only [Bool.true_and,Bool.and_true,q_beq_t,q_beq_f,q_ble_t]
       (repeat' first|exact trivial|refine ⟨?_,?_⟩|intro)<;>first|contradiction|omega|assumption|exact go2 (by assumption)|exact fin2 (by omega)|(exfalso;simp_all;done)|(exfalso;simp_all;omega)
     | false=>
       rw [ha] at hs
       have hs:fitL d0 d1 (j+1)=fitL d0 d1 j:=by rw [hs];simp
       have go2:(j:Int)+1≤mlenR y (mAt w i)->Q' (.normal,[.int .i64 y,.ptr 14 0,.nilslice,.slice 15 0 nM (.rest 0),.int .i64 (Int.ofNat i),.int .i64 ((j:Int)+1+1)],⟨2,[.cells w true (some 1),boxD ng lg s e g mo [d0,d1] a b c],[]⟩):=fun h=>hQ (.normal,_,_) (go h _ _ (by
        rw [hs,hD]
        exact VW.refl))
       clear hQ go fin hs hids
       rw [hi0,hk,←hA]
       try simp only [cond_true,cond_false]
       clear hA hk
       generalize mAt w i=m at *
       simp only [q_all,reduceCtorEq,loK,hiK,ne_eq]
       try simp only [Bool.true_and,Bool.and_true,q_beq_t,q_beq_f,q_ble_t]
       (repeat' first|exact trivial|refine ⟨?_,?_⟩|intro)<;>first|contradiction|omega|assumption|exact go2 (by assumption)|exact fin2 (by omega)|(exfalso;simp_all;done)|(exfalso;simp_all;omega)
 · · have hpos:0<(fitL d0 d1 j).length:=List.length_pos_iff.2 hD
     clear hD
     have hD:True:=trivial
     rw [outW_pos hpos,ownW_pos hpos] at fin
     rw [outW_pos hpos,ownW_pos hpos]
     refine wp_gen fun Q' hQ=>askA_wp ((r129s ng lg s e g mo [d0,d1] a b c y ((j:Int)+1) w (triL y (mAt w i) (fitL d0 d1 j)) nM i (fitL d0 d1 j).length J).mpr ?_)
     dsimp only
     have fin2:mlenR y (mAt w i)<(j:Int)+1->Q' (.exit 2,[.int .i64 y,.ptr 14 0,.slice 16 0 (fitL d0 d1 j).length (.rest 0),.slice 15 0 nM (.rest 0),.int .i64 (Int.ofNat i),.int .i64 ((j:Int)+1)],⟨3,[.cells (triL y (mAt w i) (fitL d0 d1 j)) true (some 3),.cells w true (some 1),boxD ng lg s e g mo [d0,d1] a b c],[]⟩):=fun h=>hQ _ (fin h)
     cases ha:agr [d0,d1] ((j:Int)+1) with
     | true=>
       rw [ha] at hs
       have hs:fitL d0 d1 (j+1)=fitL d0 d1 j++[(j:Int)+1]:=hs
       have go2:(j:Int)+1≤mlenR y (mAt w i)->Q' (.normal,[.int .i64 y,.ptr 14 0,.slice 18 0 ((fitL d0 d1 j).length+1) (.rest 0),.slice 15 0 nM (.rest 0),.int .i64 (Int.ofNat i),.int .i64 ((j:Int)+1+1)],⟨5,[.cells (triL y (mAt w i) (fitL d0 d1 j)++[.int .i64 y,.int .i64 (mAt w i),.int .i64 ((j:Int)+1)]) true (some 3),.cells [.int .i64 y,.int .i64 (mAt w i),.int .i64 ((j:Int)+1)] true none,.dead,.cells w true (some 1),boxD ng lg s e g mo [d0,d1] a b c],[]⟩):=fun h=>hQ (.normal,_,_) (go h _ _ (by
        rw [hs,List.length_append,triL_app]
        exact vw_lastN (tn:=55) (rel:=[1,2,5,6,7,8]) (vs:=[.int .i64 y,.ptr 14 0,.slice 18 0 ((fitL d0 d1 j).length+1) (.rest 0),.slice 15 0 nM (.rest 0),.int .i64 (Int.ofNat i),.int .i64 ((j:Int)+1+1)]) (vs':=[.int .i64 y,.ptr 14 0,.slice 16 0 ((fitL d0 d1 j).length+1) (.rest 0),.slice 15 0 nM (.rest 0),.int .i64 (Int.ofNat i),.int .i64 ((j:Int)+1+1)]) (x:=.cells (triL y (mAt w i) (fitL d0 d1 j)++[.int .i64 y,.int .i64 (mAt w i),.int .i64 ((j:Int)+1)]) true (some 3)) (mid:=[.cells [.int .i64 y,.int .i64 (mAt w i),.int .i64 ((j:Int)+1)] true none,.dead]) (B:=[.cells w true (some 1),boxD ng lg s e g mo [d0,d1] a b c]) (k:=2) (kb:=2) (n:=5) rfl rfl rfl (fun z hz=>by
         simp only [List.mem_cons,List.not_mem_nil,or_false] at hz
         rcases hz with rfl|rfl
         · exact wl
         · exact bl) (low_plain (by rw [idsL_app,hids];rfl)) rfl))
       clear hQ go fin hs hids
       rw [hi0,hk,←hA]
       try simp only [cond_true,cond_false]
       clear hA hk
       generalize mAt w i=m at *
       generalize triL y m (fitL d0 d1 j)=C at *
       generalize (fitL d0 d1 j).length=N at *
       simp only [q_all,reduceCtorEq,loK,hiK,ne_eq]
       try simp only [Bool.true_and,Bool.and_true,q_beq_t,q_beq_f,q_ble_t]
       (repeat' first|exact trivial|refine ⟨?_,?_⟩|intro)<;>first|contradiction|omega|assumption|exact go2 (by assumption)|exact fin2 (by omega)|(exfalso;simp_all;done)|(exfalso;simp_all;omega)
     | false=>
       rw [ha] at hs
       have hs:fitL d0 d1 (j+1)=fitL d0 d1 j:=by rw [hs];simp
       have go2:(j:Int)+1≤mlenR y (mAt w i)->Q' (.normal,[.int .i64 y,.ptr 14 0,.slice 16 0 (fitL d0 d1 j).length (.rest 0),.slice 15 0 nM (.rest 0),.int .i64 (Int.ofNat i),.int .i64 ((j:Int)+1+1)],⟨3,[.cells (triL y (mAt w i) (fitL d0 d1 j)) true (some 3),.cells w true (some 1),boxD ng lg s e g mo [d0,d1] a b c],[]⟩):=fun h=>hQ (.normal,_,_) (go h _ _ (by
        rw [hs,outW_pos hpos,ownW_pos hpos]
        exact VW.refl))
       clear hQ go fin hs hids
       rw [hi0,hk,←hA]
       try simp only [cond_true,cond_false]
       clear hA hk
       generalize mAt w i=m at *
       generalize triL y m (fitL d0 d1 j)=C at *
       generalize (fitL d0 d1 j).length=N at *
       simp only [q_all,reduceCtorEq,loK,hiK,ne_eq]
       try simp only [Bool.true_and,Bool.and_true,q_beq_t,q_beq_f,q_ble_t]
       (repeat' first|exact trivial|refine ⟨?_,?_⟩|intro)<;>first|contradiction|omega|assumption|exact go2 (by assumption)|exact fin2 (by omega)|(exfalso;simp_all;done)|(exfalso;simp_all;omega)
theorem outX_pos {n k:Nat} (h:0<k):outX n k=.slice 17 0 (n+k) (.rest 0):=by cases k with|zero=>omega|succ k=>rfl
theorem ownX_pos {k:Nat} (h:0<k) {cs cs':List AV} {mb b0:AObj}:ownX k cs cs' mb b0=⟨4,[.cells cs' true (some 3),.dead,mb,b0],[]⟩:=by cases k with|zero=>omega|succ k=>rfl
theorem core129B {Q:VQ->Prop} {ng lg:Bool} {s:List UInt8} {e g:Int} {mo:List UInt8} {d0 d1:UInt8} {a b c y:Int} {w cs:List AV} {nM i n:Nat} {J:Nat->Value} (hy : -10000000000000000≤y/\y≤10000000000000000) (hi:i<nM) (hM:nM≤1000) (hk:isKA .i64 (w.getD i (.tuple []))=true) (hw:noIds w=true) (hc:cs.length=n*3) (hn:n≤40000) (hcs:noIds cs=true)
 (hq:Q (.exit 2,[.int .i64 y,.ptr 14 0,outX n (dayN d0 d1 y (mAt w i)).length,.slice 15 0 nM (.rest 0),.int .i64 (Int.ofNat i),.int .i64 (mlenR y (mAt w i)+1)],ownX (dayN d0 d1 y (mAt w i)).length cs (cs++triL y (mAt w i) (dayN d0 d1 y (mAt w i))) (.cells w true (some 1)) (boxD ng lg s e g mo [d0,d1] a b c))) :
 Sem Tryz.prog (cfgS cfg Z1) (Cw cfg []) (.loop (lb 129 1)) (stN 55 [1,2,5,6,7,8] [.int .i64 y,.ptr 14 0,.slice 16 0 n (.rest 0),.slice 15 0 nM (.rest 0),.int .i64 (Int.ofNat i),.int .i64 (1)] J ⟨3,[.cells cs true (some 3),.cells w true (some 1),boxD ng lg s e g mo [d0,d1] a b c],[]⟩) fun r=>∃ax vs' o' J',Q (ax,vs',o')/\r=(ax,stN 55 [1,2,5,6,7,8] vs' J' o'):=by
 have hml:=mlenR_bd y (mAt w i)
 refine lvOK Z1_ok rfl rfl lok_none (ι:={j:Nat // j≤(mlenR y (mAt w i)).toNat}) (fun x=>[.int .i64 y,.ptr 14 0,outX n (fitL d0 d1 x.1).length,.slice 15 0 nM (.rest 0),.int .i64 (Int.ofNat i),.int .i64 ((x.1:Int)+1)]) (fun x=>ownX (fitL d0 d1 x.1).length cs (cs++triL y (mAt w i) (fitL d0 d1 x.1)) (.cells w true (some 1)) (boxD ng lg s e g mo [d0,d1] a b c)) (fun x=>(mlenR y (mAt w i)).toNat-x.1) 3 (fun x=>ownX_n) (fun x J=>?_) (Nat.le_refl _) (fun J=>Wk.refl ⟨⟨0,Nat.zero_le _⟩,J,rfl⟩) J
 obtain ⟨j,hj⟩:=x
 dsimp only
 have hlen:=fitL_len d0 d1 j
 have hs:=fitL_succ d0 d1 j
 have wl:LowO (14+3) (.cells w true (some 1)):=low_plain (noIds_iff.1 hw)
 have bl:LowO (14+3) (boxD ng lg s e g mo [d0,d1] a b c):=low_plain (by simp [idsL,idsA])
 have fin:mlenR y (mAt w i)<(j:Int)+1->∃vs2 o2,VW cfg (Cw cfg []) 3 55 [1,2,5,6,7,8] [.int .i64 y,.ptr 14 0,outX n (fitL d0 d1 j).length,.slice 15 0 nM (.rest 0),.int .i64 (Int.ofNat i),.int .i64 ((j:Int)+1)] (ownX (fitL d0 d1 j).length cs (cs++triL y (mAt w i) (fitL d0 d1 j)) (.cells w true (some 1)) (boxD ng lg s e g mo [d0,d1] a b c)) vs2 o2/\Q (.exit 2,vs2,o2):=fun h=>by
  have e:j=(mlenR y (mAt w i)).toNat:=by omega
  have e2:(j:Int)+1=mlenR y (mAt w i)+1:=by omega
  rw [e2]
  subst e
  exact ⟨_,_,VW.refl,hq⟩
 have hi0:0+i*1=i:=by omega
 have hA:mAt w i=intOf (w.getD i (.tuple [])):=rfl
 have go:(j:Int)+1≤mlenR y (mAt w i)->∀vs o,VW cfg (Cw cfg []) 3 55 [1,2,5,6,7,8] vs o [.int .i64 y,.ptr 14 0,outX n (fitL d0 d1 (j+1)).length,.slice 15 0 nM (.rest 0),.int .i64 (Int.ofNat i),.int .i64 ((j:Int)+1+1)] (ownX (fitL d0 d1 (j+1)).length cs (cs++triL y (mAt w i) (fitL d0 d1 (j+1))) (.cells w true (some 1)) (boxD ng lg s e g mo [d0,d1] a b c))->∃x:{j:Nat // j≤(mlenR y (mAt w i)).toNat},(mlenR y (mAt w i)).toNat-x.1<(mlenR y (mAt w i)).toNat-j/\VW cfg (Cw cfg []) 3 55 [1,2,5,6,7,8] vs o [.int .i64 y,.ptr 14 0,outX n (fitL d0 d1 x.1).length,.slice 15 0 nM (.rest 0),.int .i64 (Int.ofNat i),.int .i64 ((x.1:Int)+1)] (ownX (fitL d0 d1 x.1).length cs (cs++triL y (mAt w i) (fitL d0 d1 x.1)) (.cells w true (some 1)) (boxD ng lg s e g mo [d0,d1] a b c)):=fun hle vs o hv=>⟨⟨j+1,by omega⟩,by dsimp only;omega,hv⟩
 have hids:idsL (cs++triL y (mAt w i) (fitL d0 d1 j))=[]:=by rw [idsL_app,noIds_iff.1 hcs,idsL_tri];rfl
 have hids0:idsL cs=[]:=noIds_iff.1 hcs
 have hlenc:(cs++triL y (mAt w i) (fitL d0 d1 j)).length=(n+(fitL d0 d1 j).length)*3:=by rw [List.length_append,hc,triL_len];omega
 clear hq
 by_cases hD:fitL d0 d1 j=[]
 · rw [hD] at fin ⊢
   refine wp_gen fun Q' hQ=>askA_wp ((r129s ng lg s e g mo [d0,d1] a b c y ((j:Int)+1) w cs nM i n J).mpr ?_)
   dsimp only
   have fin2:mlenR y (mAt w i)<(j:Int)+1->Q' (.exit 2,[.int .i64 y,.ptr 14 0,.slice 16 0 n (.rest 0),.slice 15 0 nM (.rest 0),.int .i64 (Int.ofNat i),.int .i64 ((j:Int)+1)],⟨3,[.cells cs true (some 3),.cells w true (some 1),boxD ng lg s e g mo [d0,d1] a b c],[]⟩):=fun h=>hQ _ (fin h)
   cases ha:agr [d0,d1] ((j:Int)+1) with
   | true=>
     rw [ha] at hs
     have hs:fitL d0 d1 (j+1)=fitL d0 d1 j++[(j:Int)+1]:=hs
     have go2:(j:Int)+1≤mlenR y (mAt w i)->Q' (.normal,[.int .i64 y,.ptr 14 0,.slice 18 0 (n+1) (.rest 0),.slice 15 0 nM (.rest 0),.int .i64 (Int.ofNat i),.int .i64 ((j:Int)+1+1)],⟨5,[.cells (cs++[.int .i64 y,.int .i64 (mAt w i),.int .i64 ((j:Int)+1)]) true (some 3),.cells [.int .i64 y,.int .i64 (mAt w i),.int .i64 ((j:Int)+1)] true none,.dead,.cells w true (some 1),boxD ng lg s e g mo [d0,d1] a b c],[]⟩):=fun h=>hQ (.normal,_,_) (go h _ _ (by
      rw [hs,hD]
      exact vw_lastN (tn:=55) (rel:=[1,2,5,6,7,8]) (vs:=[.int .i64 y,.ptr 14 0,.slice 18 0 (n+1) (.rest 0),.slice 15 0 nM (.rest 0),.int .i64 (Int.ofNat i),.int .i64 ((j:Int)+1+1)]) (vs':=[.int .i64 y,.ptr 14 0,.slice 17 0 (n+1) (.rest 0),.slice 15 0 nM (.rest 0),.int .i64 (Int.ofNat i),.int .i64 ((j:Int)+1+1)]) (x:=.cells (cs++[.int .i64 y,.int .i64 (mAt w i),.int .i64 ((j:Int)+1)]) true (some 3)) (mid:=[.cells [.int .i64 y,.int .i64 (mAt w i),.int .i64 ((j:Int)+1)] true none]) (B:=[.dead,.cells w true (some 1),boxD ng lg s e g mo [d0,d1] a b c]) (k:=1) (kb:=3) (n:=5) rfl rfl rfl (fun z hz=>by
       simp only [List.mem_cons,List.not_mem_nil,or_false] at hz
       rcases hz with rfl|rfl|rfl
       · exact ⟨rfl,fun i hi=>by cases hi⟩
       · exact wl
       · exact bl) (low_plain (by rw [idsL_app,hids0];rfl)) rfl))
     clear hQ go fin hs hids
     rw [hi0,hk,←hA]
     try simp only [cond_true,cond_false]
     clear hA hk
     generalize mAt w i=m at *
     simp only [q_all,reduceCtorEq,loK,hiK,ne_eq]
     try simp only [Bool.true_and,Bool.and_true,q_beq_t,q_beq_f,q_ble_t]
     (repeat' first|exact trivial|refine ⟨?_,?_⟩|intro)<;>first|contradiction|omega|assumption|exact go2 (by assumption)|exact fin2 (by omega)|(exfalso;simp_all;done)|(exfalso;simp_all;omega)
   | false=>
     rw [ha] at hs
     have hs:fitL d0 d1 (j+1)=fitL d0 d1 j:=by rw [hs];simp
     have go2:(j:Int)+1≤mlenR y (mAt w i)->Q' (.normal,[.int .i64 y,.ptr 14 0,.slice 16 0 n (.rest 0),.slice 15 0 nM (.rest 0),.int .i64 (Int.ofNat i),.int .i64 ((j:Int)+1+1)],⟨3,[.cells cs true (some 3),.cells w true (some 1),boxD ng lg s e g mo [d0,d1] a b c],[]⟩):=fun h=>hQ (.normal,_,_) (go h _ _ (by
      rw [hs,hD]
      exact VW.refl))
     clear hQ go fin hs hids
     rw [hi0,hk,←hA]
     try simp only [cond_true,cond_false]
     clear hA hk
     generalize mAt w i=m at *
     simp only [q_all,reduceCtorEq,loK,hiK,ne_eq]
     try simp only [Bool.true_and,Bool.and_true,q_beq_t,q_beq_f,q_ble_t]
     (repeat' first|exact trivial|refine ⟨?_,?_⟩|intro)<;>first|contradiction|omega|assumption|exact go2 (by assumption)|exact fin2 (by omega)|(exfalso;simp_all;done)|(exfalso;simp_all;omega)
 · have hpos:0<(fitL d0 d1 j).length:=List.length_pos_iff.2 hD
   clear hD
   rw [outX_pos hpos,ownX_pos hpos] at fin
   rw [outX_pos hpos,ownX_pos hpos]
   refine wp_gen fun Q' hQ=>askA_wp ((r129t ng lg s e g mo [d0,d1] a b c y ((j:Int)+1) w (cs++triL y (mAt w i) (fitL d0 d1 j)) nM i (n+(fitL d0 d1 j).length) J).mpr ?_)
   dsimp only
   have fin2:mlenR y (mAt w i)<(j:Int)+1->Q' (.exit 2,[.int .i64 y,.ptr 14 0,.slice 17 0 (n+(fitL d0 d1 j).length) (.rest 0),.slice 15 0 nM (.rest 0),.int .i64 (Int.ofNat i),.int .i64 ((j:Int)+1)],⟨4,[.cells (cs++triL y (mAt w i) (fitL d0 d1 j)) true (some 3),.dead,.cells w true (some 1),boxD ng lg s e g mo [d0,d1] a b c],[]⟩):=fun h=>hQ _ (fin h)
   cases ha:agr [d0,d1] ((j:Int)+1) with
   | true=>
     rw [ha] at hs
     have hs:fitL d0 d1 (j+1)=fitL d0 d1 j++[(j:Int)+1]:=hs
     have go2:(j:Int)+1≤mlenR y (mAt w i)->Q' (.normal,[.int .i64 y,.ptr 14 0,.slice 19 0 (n+(fitL d0 d1 j).length+1) (.rest 0),.slice 15 0 nM (.rest 0),.int .i64 (Int.ofNat i),.int .i64 ((j:Int)+1+1)],⟨6,[.cells (cs++triL y (mAt w i) (fitL d0 d1 j)++[.int .i64 y,.int .i64 (mAt w i),.int .i64 ((j:Int)+1)]) true (some 3),.cells [.int .i64 y,.int .i64 (mAt w i),.int .i64 ((j:Int)+1)] true none,.dead,.dead,.cells w true (some 1),boxD ng lg s e g mo [d0,d1] a b c],[]⟩):=fun h=>hQ (.normal,_,_) (go h _ _ (by
      rw [hs,List.length_append,triL_app,←List.append_assoc]
      exact vw_lastN (tn:=55) (rel:=[1,2,5,6,7,8]) (vs:=[.int .i64 y,.ptr 14 0,.slice 19 0 (n+(fitL d0 d1 j).length+1) (.rest 0),.slice 15 0 nM (.rest 0),.int .i64 (Int.ofNat i),.int .i64 ((j:Int)+1+1)]) (vs':=[.int .i64 y,.ptr 14 0,.slice 17 0 (n+(fitL d0 d1 j).length+1) (.rest 0),.slice 15 0 nM (.rest 0),.int .i64 (Int.ofNat i),.int .i64 ((j:Int)+1+1)]) (x:=.cells (cs++triL y (mAt w i) (fitL d0 d1 j)++[.int .i64 y,.int .i64 (mAt w i),.int .i64 ((j:Int)+1)]) true (some 3)) (mid:=[.cells [.int .i64 y,.int .i64 (mAt w i),.int .i64 ((j:Int)+1)] true none,.dead]) (B:=[.dead,.cells w true (some 1),boxD ng lg s e g mo [d0,d1] a b c]) (k:=2) (kb:=3) (n:=6) rfl rfl rfl (fun z hz=>by
       simp only [List.mem_cons,List.not_mem_nil,or_false] at hz
       rcases hz with rfl|rfl|rfl
       · exact ⟨rfl,fun i hi=>by cases hi⟩
       · exact wl
       · exact bl) (low_plain (by rw [idsL_app,hids];rfl)) rfl))
     clear hQ go fin hs hids
     rw [hi0,hk,←hA]
     try simp only [cond_true,cond_false]
     clear hA hk
     generalize mAt w i=m at *
     generalize cs++triL y m (fitL d0 d1 j)=C at *
     generalize (fitL d0 d1 j).length=N at *
     simp only [q_all,reduceCtorEq,loK,hiK,ne_eq]
     try simp only [Bool.true_and,Bool.and_true,q_beq_t,q_beq_f,q_ble_t]
     (repeat' first|exact trivial|refine ⟨?_,?_⟩|intro)<;>first|contradiction|omega|assumption|exact go2 (by assumption)|exact fin2 (by omega)|(exfalso;simp_all;done)|(exfalso;simp_all;omega)
   | false=>
     rw [ha] at hs
     have hs:fitL d0 d1 (j+1)=fitL d0 d1 j:=by rw [hs];simp
     have go2:(j:Int)+1≤mlenR y (mAt w i)->Q' (.normal,[.int .i64 y,.ptr 14 0,.slice 17 0 (n+(fitL d0 d1 j).length) (.rest 0),.slice 15 0 nM (.rest 0),.int .i64 (Int.ofNat i),.int .i64 ((j:Int)+1+1)],⟨4,[.cells (cs++triL y (mAt w i) (fitL d0 d1 j)) true (some 3),.dead,.cells w true (some 1),boxD ng lg s e g mo [d0,d1] a b c],[]⟩):=fun h=>hQ (.normal,_,_) (go h _ _ (by
      rw [hs,outX_pos hpos,ownX_pos hpos]
      exact VW.refl))
     clear hQ go fin hs hids
     rw [hi0,hk,←hA]
     try simp only [cond_true,cond_false]
     clear hA hk
     generalize mAt w i=m at *
     generalize cs++triL y m (fitL d0 d1 j)=C at *
     generalize (fitL d0 d1 j).length=N at *
     simp only [q_all,reduceCtorEq,loK,hiK,ne_eq]
     try simp only [Bool.true_and,Bool.and_true,q_beq_t,q_beq_f,q_ble_t]
     (repeat' first|exact trivial|refine ⟨?_,?_⟩|intro)<;>first|contradiction|omega|assumption|exact go2 (by assumption)|exact fin2 (by omega)|(exfalso;simp_all;done)|(exfalso;simp_all;omega)
end Go.Ev
