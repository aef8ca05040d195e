import Derived.Test.YtafekjglclnegaaGreatDoorP35
set_option linter.all false
set_option maxRecDepth 100000
set_option maxHeartbeats 1000000
namespace Go.Ev
open Go Go.Proofs
def P20:Sums:=addG (addP (addP (addP (addS nilS 57 s57) 59 s59) 60 s60) 61 s61) 58 (winS 14 [4] w58)
theorem b20_1s (ng lg:Bool) (s:List UInt8) (e g:Int) (mo da:List UInt8) (x y z p a b c d:Int) (w:List AV) (n:Nat) (K:Cap) {Q:AV->Prop}:askA Q (pW P20 noL [.cells w false none] 20 [.agg [.int .u8 1,.slice 14 0 n K,.bool ng,.bool lg,.str s,.int .i64 e,.int .i64 g,.str mo,.str da,.int .u8 x,.int .u8 y,.int .u8 z,.int .u8 p,.int .i8 a,.int .i64 b,.int .i8 c,.int .i64 d]]) (dtN 100031031111244401400051424240056666)=((fun (u0 u2 u4:Bool) (u5:List AV) (u1 u3 u6:Prop)=>(fun (u7 u9:Bool)=>(u0=true->u0=true/\(u1->u1/\(u2=true->u3)/\(u2=false->(u4=true->Q (AV.int .i64 17))/\(u4=false->(u7=true->(isRs u5=true->(u9=true->Nat.ble n 1000=true/\Q (AV.int .i64 (chkS (unR u5))))/\(u9=false->False))/\(isRs u5=false->False))/\(u7=false->False))))/\(u6->u6/\u3))/\(u0=false->u0=false/\u3)) (and true (and (Nat.ble (HAdd.hAdd 0 (HMul.hMul n 4)) (List.length w)) (belowL 14 u5))) (Nat.beq (List.length (unR u5)) n)) (and (and (boolEq ng false) (and (boolEq lg false) (and (bytesEq s []) (and (intEq e 0) (and (intEq g 0) true))))) (and (bytesEq mo []) (and (bytesEq da []) (and (and (intEq x 0) (and (intEq y 0) (and (intEq z 0) true))) true)))) (not (and (and (intEq a 0) (and (intEq b 0) true)) (and (and (intEq c 0) (and (intEq d 0) true)) true))) (intEq (Int.ofNat n) 0) (winOf w 0 (HMul.hMul n 4)) (intEq p 0=true) (Q (AV.int .i64 5)) (intEq p 0=false)):=by kernel_rfl
theorem b20_1n (ng lg:Bool) (s:List UInt8) (e g:Int) (mo da:List UInt8) (x y z p a b c d:Int) {Q:AV->Prop}:askA Q (pW P20 noL [] 20 [.agg [.int .u8 1,.nilslice,.bool ng,.bool lg,.str s,.int .i64 e,.int .i64 g,.str mo,.str da,.int .u8 x,.int .u8 y,.int .u8 z,.int .u8 p,.int .i8 a,.int .i64 b,.int .i8 c,.int .i64 d]]) (dtN 100031031551424240056666)=((fun (u0 u2:Bool) (u1 u3 u4:Prop)=>(u0=true->u0=true/\(u1->u1/\(u2=true->u3)/\(u2=false->Q (AV.int .i64 17)))/\(u4->u4/\u3))/\(u0=false->u0=false/\u3)) (and (and (boolEq ng false) (and (boolEq lg false) (and (bytesEq s []) (and (intEq e 0) (and (intEq g 0) true))))) (and (bytesEq mo []) (and (bytesEq da []) (and (and (intEq x 0) (and (intEq y 0) (and (intEq z 0) true))) true)))) (not (and (and (intEq a 0) (and (intEq b 0) true)) (and (and (intEq c 0) (and (intEq d 0) true)) true))) (intEq p 0=true) (Q (AV.int .i64 5)) (intEq p 0=false)):=by kernel_rfl
theorem b20_2s (ng lg:Bool) (s:List UInt8) (e g:Int) (mo da:List UInt8) (x y z p a b c d:Int) (w:List AV) (n:Nat) (K:Cap) {Q:AV->Prop}:askA Q (pW P20 noL [.cells w false none] 20 [.agg [.int .u8 2,.slice 14 0 n K,.bool ng,.bool lg,.str s,.int .i64 e,.int .i64 g,.str mo,.str da,.int .u8 x,.int .u8 y,.int .u8 z,.int .u8 p,.int .i8 a,.int .i64 b,.int .i8 c,.int .i64 d]]) (dtN 100031031000581033811470002242702062401422776614242400056666)=((fun (u0 u2 ua ub:Bool) (u7:Int) (u1 u3 u4 u5 u6 u9 uc ud ue:Prop)=>(fun (uf:Bool) (ug uh:Prop)=>(u0=true->u0=true/\(u1->u1/\(u2=true->u3)/\(u2=false->u4/\u5/\u6/\inR .i64 e=true/\inR .i64 g=true/\inR .u8 x=true/\inR .u8 y=true/\inR .u8 z=true/\(uf=true->Q (AV.int .i64 u7))/\(uf=false->(u9->u9/\u9/\u4/\u5/\u6/\u9/\(ug->ug/\ug/\ug/\ug/\ug/\(ub=true->uc)/\(ub=false->Q (AV.int .i64 0)))/\(uh->uh/\uh/\uh/\uh/\uh/\uc))/\(ud->ud/\ud/\ud/\uc))))/\(ue->ue/\u3))/\(u0=false->u0=false/\u3)) (not (intEq u7 0)) (ua=true) (ua=false)) (intEq (Int.ofNat n) 0) (not (and (and (intEq a 0) (and (intEq b 0) true)) (and (and (intEq c 0) (and (intEq d 0) true)) true))) (hasXB (HAppend.hAppend (HAppend.hAppend s mo) da)) (not (and (intEq x 0) (and (intEq y 0) (and (intEq z 0) true)))) (errF ng lg s e g mo da x y z) (intEq p 0=true) (Q (AV.int .i64 5)) (Nat.ble (List.length s) 1000=true) (Nat.ble (List.length mo) 1000=true) (Nat.ble (List.length da) 1000=true) (intEq g 0=true) (Q (AV.int .i64 1)) (intEq g 0=false) (intEq p 0=false)):=by kernel_rfl
theorem b20_2n (ng lg:Bool) (s:List UInt8) (e g:Int) (mo da:List UInt8) (x y z p a b c d:Int) {Q:AV->Prop}:askA Q (pW P20 noL [] 20 [.agg [.int .u8 2,.nilslice,.bool ng,.bool lg,.str s,.int .i64 e,.int .i64 g,.str mo,.str da,.int .u8 x,.int .u8 y,.int .u8 z,.int .u8 p,.int .i8 a,.int .i64 b,.int .i8 c,.int .i64 d]]) (dtN 10310005810338114700022427020624014227766142466666)=((fun (u1 u9 ua:Bool) (u6:Int) (u0 u2 u3 u4 u5 u7 ub uc ud:Prop)=>(fun (ue:Bool) (uf ug:Prop)=>(u0->u0/\(u1=true->u2)/\(u1=false->u3/\u4/\u5/\inR .i64 e=true/\inR .i64 g=true/\inR .u8 x=true/\inR .u8 y=true/\inR .u8 z=true/\(ue=true->Q (AV.int .i64 u6))/\(ue=false->(u7->u7/\u7/\u3/\u4/\u5/\u7/\(uf->uf/\uf/\uf/\uf/\uf/\(ua=true->ub)/\(ua=false->Q (AV.int .i64 0)))/\(ug->ug/\ug/\ug/\ug/\ug/\ub))/\(uc->uc/\uc/\uc/\ub))))/\(ud->ud/\u2)) (not (intEq u6 0)) (u9=true) (u9=false)) (not (and (and (intEq a 0) (and (intEq b 0) true)) (and (and (intEq c 0) (and (intEq d 0) true)) true))) (hasXB (HAppend.hAppend (HAppend.hAppend s mo) da)) (not (and (intEq x 0) (and (intEq y 0) (and (intEq z 0) true)))) (errF ng lg s e g mo da x y z) (intEq p 0=true) (Q (AV.int .i64 5)) (Nat.ble (List.length s) 1000=true) (Nat.ble (List.length mo) 1000=true) (Nat.ble (List.length da) 1000=true) (intEq g 0=true) (Q (AV.int .i64 1)) (intEq g 0=false) (intEq p 0=false)):=by kernel_rfl
theorem b20_3s (ng lg:Bool) (s:List UInt8) (e g:Int) (mo da:List UInt8) (x y z p a b c d:Int) (w:List AV) (n:Nat) (K:Cap) {Q:AV->Prop}:askA Q (pW P20 noL [.cells w false none] 20 [.agg [.int .u8 3,.slice 14 0 n K,.bool ng,.bool lg,.str s,.int .i64 e,.int .i64 g,.str mo,.str da,.int .u8 x,.int .u8 y,.int .u8 z,.int .u8 p,.int .i8 a,.int .i64 b,.int .i8 c,.int .i64 d]]) (dtN 1031023311477005143202461424556666)=((fun (u0 u1 u3 u4 u6:Bool) (u2 u5:Prop)=>(fun (u7 u9:Prop)=>(u0=true->u0=true/\(u1=true->u2)/\(u1=false->(u7->u7/\u7/\u3=false/\(u4=true->u5)/\(u4=false->inR .i8 a=true/\inR .i64 b=true/\inR .i8 c=true/\inR .i64 d=true/\intLe 1 p=true/\intLe p 3=true/\(u6=true->Q (AV.int .i64 1))/\(u6=false->Q (AV.int .i64 0))))/\(u9->u9/\u9/\u3=true/\u5)))/\(u0=false->u0=false/\u2)) (not u3=true) (not u3=false)) (intEq (Int.ofNat n) 0) (not (and (and (boolEq ng false) (and (boolEq lg false) (and (bytesEq s []) (and (intEq e 0) (and (intEq g 0) true))))) (and (bytesEq mo []) (and (bytesEq da []) (and (and (intEq x 0) (and (intEq y 0) (and (intEq z 0) true))) true))))) (not (intLe 1 p)) (not (intLe p 3)) (not (fitB a b c d p)) (Q (AV.int .i64 5)) (Q (AV.int .i64 18))):=by kernel_rfl
theorem b20_3n (ng lg:Bool) (s:List UInt8) (e g:Int) (mo da:List UInt8) (x y z p a b c d:Int) {Q:AV->Prop}:askA Q (pW P20 noL [] 20 [.agg [.int .u8 3,.nilslice,.bool ng,.bool lg,.str s,.int .i64 e,.int .i64 g,.str mo,.str da,.int .u8 x,.int .u8 y,.int .u8 z,.int .u8 p,.int .i8 a,.int .i64 b,.int .i8 c,.int .i64 d]]) (dtN 10233114770051432024614066666)=((fun (u0 u1 u2 u4:Bool) (u3:Prop)=>(fun (u5 u6:Prop)=>(u0=true->Q (AV.int .i64 5))/\(u0=false->(u5->u5/\u5/\u1=false/\(u2=true->u3)/\(u2=false->inR .i8 a=true/\inR .i64 b=true/\inR .i8 c=true/\inR .i64 d=true/\intLe 1 p=true/\intLe p 3=true/\(u4=true->Q (AV.int .i64 1))/\(u4=false->Q (AV.int .i64 0))))/\(u6->u6/\u6/\u1=true/\u3))) (not u1=true) (not u1=false)) (not (and (and (boolEq ng false) (and (boolEq lg false) (and (bytesEq s []) (and (intEq e 0) (and (intEq g 0) true))))) (and (bytesEq mo []) (and (bytesEq da []) (and (and (intEq x 0) (and (intEq y 0) (and (intEq z 0) true))) true))))) (not (intLe 1 p)) (not (intLe p 3)) (not (fitB a b c d p)) (Q (AV.int .i64 18))):=by kernel_rfl
theorem b20_4s (ng lg:Bool) (s:List UInt8) (e g:Int) (mo da:List UInt8) (x y z p a b c d:Int) (w:List AV) (n:Nat) (K:Cap) {Q:AV->Prop}:askA Q (pW P20 noL [.cells w false none] 20 [.agg [.int .u8 4,.slice 14 0 n K,.bool ng,.bool lg,.str s,.int .i64 e,.int .i64 g,.str mo,.str da,.int .u8 x,.int .u8 y,.int .u8 z,.int .u8 p,.int .i8 a,.int .i64 b,.int .i8 c,.int .i64 d]]) (dtN 10003103100053381033811422074220746142424556666)=((fun (u0 u1 u2 u4 u5 u6:Bool) (u3 u7:Prop)=>(fun (u9 ua ub uc:Prop)=>(u0=true->u0=true/\(u1=true->u1=true/\(u2=true->u3)/\(u2=false->(u9->u9/\u9/\u9/\u9/\u9/\(ua->ua/\ua/\ua/\ua/\ua/\(u6=true->u7)/\(u6=false->Q (AV.int .i64 0)))/\(ub->ub/\ub/\ub/\ub/\ub/\u7))/\(uc->uc/\uc/\uc/\uc/\uc/\u7)))/\(u1=false->u1=false/\u3))/\(u0=false->u0=false/\u3)) (u4=true) (u5=true) (u5=false) (u4=false)) (intEq (Int.ofNat n) 0) (and (and (boolEq ng false) (and (boolEq lg false) (and (bytesEq s []) (and (intEq e 0) (and (intEq g 0) true))))) (and (bytesEq mo []) (and (bytesEq da []) (and (and (intEq x 0) (and (intEq y 0) (and (intEq z 0) true))) true)))) (not (intEq p 0)) (intEq (rChk a b c d) 0) (intEq a (Neg.neg 1)) (not (intEq c 0)) (Q (AV.int .i64 5)) (Q (AV.int .i64 1))):=by kernel_rfl
theorem b20_4n (ng lg:Bool) (s:List UInt8) (e g:Int) (mo da:List UInt8) (x y z p a b c d:Int) {Q:AV->Prop}:askA Q (pW P20 noL [] 20 [.agg [.int .u8 4,.nilslice,.bool ng,.bool lg,.str s,.int .i64 e,.int .i64 g,.str mo,.str da,.int .u8 x,.int .u8 y,.int .u8 z,.int .u8 p,.int .i8 a,.int .i64 b,.int .i8 c,.int .i64 d]]) (dtN 1031000533810338114220742207461424066666)=((fun (u0 u1 u3 u4 u5:Bool) (u2 u6:Prop)=>(fun (u7 u9 ua ub:Prop)=>(u0=true->u0=true/\(u1=true->u2)/\(u1=false->(u7->u7/\u7/\u7/\u7/\u7/\(u9->u9/\u9/\u9/\u9/\u9/\(u5=true->u6)/\(u5=false->Q (AV.int .i64 0)))/\(ua->ua/\ua/\ua/\ua/\ua/\u6))/\(ub->ub/\ub/\ub/\ub/\ub/\u6)))/\(u0=false->u0=false/\u2)) (u3=true) (u4=true) (u4=false) (u3=false)) (and (and (boolEq ng false) (and (boolEq lg false) (and (bytesEq s []) (and (intEq e 0) (and (intEq g 0) true))))) (and (bytesEq mo []) (and (bytesEq da []) (and (and (intEq x 0) (and (intEq y 0) (and (intEq z 0) true))) true)))) (not (intEq p 0)) (intEq (rChk a b c d) 0) (intEq a (Neg.neg 1)) (not (intEq c 0)) (Q (AV.int .i64 5)) (Q (AV.int .i64 1))):=by kernel_rfl
theorem b20_5s (ng lg:Bool) (s:List UInt8) (e g:Int) (mo da:List UInt8) (x y z p a b c d:Int) (w:List AV) (n:Nat) (K:Cap) {Q:AV->Prop}:askA Q (pW P20 noL [.cells w false none] 20 [.agg [.int .u8 5,.slice 14 0 n K,.bool ng,.bool lg,.str s,.int .i64 e,.int .i64 g,.str mo,.str da,.int .u8 x,.int .u8 y,.int .u8 z,.int .u8 p,.int .i8 a,.int .i64 b,.int .i8 c,.int .i64 d]]) (dtN 100031031000533810338114220742207406142424556666)=((fun (u0 u1 u2 u4 u6:Bool) (u3 u5 u7 u9:Prop)=>(fun (ua ub:Prop)=>(u0=true->u0=true/\(u1=true->u1=true/\(u2=true->u3)/\(u2=false->(ua->ua/\ua/\ua/\ua/\ua/\(u5->u5/\u5/\u5/\u5/\u5/\(u6=true->u7)/\(u6=false->Q (AV.int .i64 0)))/\(u9->u9/\u9/\u9/\u9/\u9/\u7))/\(ub->ub/\ub/\ub/\ub/\ub/\u7)))/\(u1=false->u1=false/\u3))/\(u0=false->u0=false/\u3)) (u4=true) (u4=false)) (intEq (Int.ofNat n) 0) (and (and (boolEq ng false) (and (boolEq lg false) (and (bytesEq s []) (and (intEq e 0) (and (intEq g 0) true))))) (and (bytesEq mo []) (and (bytesEq da []) (and (and (intEq x 0) (and (intEq y 0) (and (intEq z 0) true))) true)))) (not (intEq p 0)) (intEq (rChk a b c d) 0) (not (intEq c 1)) (Q (AV.int .i64 5)) (intEq a 0=true) (Q (AV.int .i64 1)) (intEq a 0=false)):=by kernel_rfl
theorem b20_5n (ng lg:Bool) (s:List UInt8) (e g:Int) (mo da:List UInt8) (x y z p a b c d:Int) {Q:AV->Prop}:askA Q (pW P20 noL [] 20 [.agg [.int .u8 5,.nilslice,.bool ng,.bool lg,.str s,.int .i64 e,.int .i64 g,.str mo,.str da,.int .u8 x,.int .u8 y,.int .u8 z,.int .u8 p,.int .i8 a,.int .i64 b,.int .i8 c,.int .i64 d]]) (dtN 10310005338103381142207422074061424066666)=((fun (u0 u1 u3 u5:Bool) (u2 u4 u6 u7:Prop)=>(fun (u9 ua:Prop)=>(u0=true->u0=true/\(u1=true->u2)/\(u1=false->(u9->u9/\u9/\u9/\u9/\u9/\(u4->u4/\u4/\u4/\u4/\u4/\(u5=true->u6)/\(u5=false->Q (AV.int .i64 0)))/\(u7->u7/\u7/\u7/\u7/\u7/\u6))/\(ua->ua/\ua/\ua/\ua/\ua/\u6)))/\(u0=false->u0=false/\u2)) (u3=true) (u3=false)) (and (and (boolEq ng false) (and (boolEq lg false) (and (bytesEq s []) (and (intEq e 0) (and (intEq g 0) true))))) (and (bytesEq mo []) (and (bytesEq da []) (and (and (intEq x 0) (and (intEq y 0) (and (intEq z 0) true))) true)))) (not (intEq p 0)) (intEq (rChk a b c d) 0) (not (intEq c 1)) (Q (AV.int .i64 5)) (intEq a 0=true) (Q (AV.int .i64 1)) (intEq a 0=false)):=by kernel_rfl
theorem b20_0s (ng lg:Bool) (s:List UInt8) (e g:Int) (mo da:List UInt8) (x y z p a b c d:Int) (w:List AV) (n:Nat) (K:Cap) (kd:Int) {Q:AV->Prop}:askA Q (pW P20 noL [.cells w false none] 20 [.agg [.int .u8 kd,.slice 14 0 n K,.bool ng,.bool lg,.str s,.int .i64 e,.int .i64 g,.str mo,.str da,.int .u8 x,.int .u8 y,.int .u8 z,.int .u8 p,.int .i8 a,.int .i64 b,.int .i8 c,.int .i64 d]]) (dtN 1023312320240)=((fun (u0:Bool) (u1:Prop)=>(fun (u2 u3:Prop)=>(u2->u2/\u2/\u0=false/\not (intLe kd 5)=true/\u1)/\(u3->u3/\u3/\u0=true/\u1)) (not u0=true) (not u0=false)) (not (intLe 1 kd)) (Q (AV.int .i64 18))):=by kernel_rfl
theorem b20_0n (ng lg:Bool) (s:List UInt8) (e g:Int) (mo da:List UInt8) (x y z p a b c d kd:Int) {Q:AV->Prop}:askA Q (pW P20 noL [] 20 [.agg [.int .u8 kd,.nilslice,.bool ng,.bool lg,.str s,.int .i64 e,.int .i64 g,.str mo,.str da,.int .u8 x,.int .u8 y,.int .u8 z,.int .u8 p,.int .i8 a,.int .i64 b,.int .i8 c,.int .i64 d]]) (dtN 1023312320240)=((fun (u0:Bool) (u1:Prop)=>(fun (u2 u3:Prop)=>(u2->u2/\u2/\u0=false/\not (intLe kd 5)=true/\u1)/\(u3->u3/\u3/\u0=true/\u1)) (not u0=true) (not u0=false)) (not (intLe 1 kd)) (Q (AV.int .i64 18))):=by kernel_rfl
theorem body20:bodyOf tab 20=some (fnOf 20,codeOf 20):=by kernel_rfl
theorem P20_ok:SumsOK Tryz.prog cfg P20:=add58 (add61 (add60 (add59 (sums_add sums_nil s57_ok))))
theorem f20s {ng lg:Bool} {s:List UInt8} {e g:Int} {mo da:List UInt8} {x y z p a b c d:Int} {kd:Int} {R:List Rn} {K:Cap} (hR:inRs R) (hn:R.length≤1000) (hs:s.length≤1000) (hm:mo.length≤1000) (hda:da.length≤1000) (he : -9223372036854775808≤e/\e≤9223372036854775807) (hg : -9223372036854775808≤g/\g≤9223372036854775807) (hb : -9223372036854775808≤b/\b≤9223372036854775807) (hd : -9223372036854775808≤d/\d≤9223372036854775807) (ha : -128≤a/\a≤127) (hc : -128≤c/\c≤127) (hx:0≤x/\x≤255) (hy:0≤y/\y≤255) (hz:0≤z/\z≤255) (hp:0≤p/\p≤255):FactW Tryz.prog cfg 20 [.agg [.int .u8 kd,.slice 14 0 R.length K,.bool ng,.bool lg,.str s,.int .i64 e,.int .i64 g,.str mo,.str da,.int .u8 x,.int .u8 y,.int .u8 z,.int .u8 p,.int .i8 a,.int .i64 b,.int .i8 c,.int .i64 d]] [.cells (flat R) false none] (.int .i64 (famE kd R.length (chkS R) (dZ ng lg s e g mo da x y z) p (sZ a b c d) (errF ng lg s e g mo da x y z) g (hasXB (s++mo++da)) (mZ x y z) (fitB a b c d p) (rChk a b c d) a c)) []:=by
 have hk:¬(1≤kd/\kd≤5)∨kd=1∨kd=2∨kd=3∨kd=4∨kd=5:=by omega
 rcases hk with hk|rfl|rfl|rfl|rfl|rfl
 · refine fpwOK P20_ok (L:=noL) flat_low body20 (by simp) lok_none (wp_gen fun Q' hQ=>askA_wp ((b20_0s ng lg s e g mo da x y z p a b c d (flat R) R.length K kd).mpr ?_)) (by simp [idsA])
   dsimp only
   have fin:∀v,famE kd R.length (chkS R) (dZ ng lg s e g mo da x y z) p (sZ a b c d) (errF ng lg s e g mo da x y z) g (hasXB (s++mo++da)) (mZ x y z) (fitB a b c d p) (rChk a b c d) a c=v->Q' (.int .i64 v):=fun v h=>hQ _ (by rw [h])
   clear hQ
   have fin:=fin 18 (by unfold famE;grind)
   simp only [q_all,reduceCtorEq,loK,hiK,ne_eq]
   (repeat' first|exact trivial|refine ⟨?_,?_⟩|intro)<;>first|contradiction|omega|assumption
 · refine fpwOK P20_ok (L:=noL) flat_low body20 (by simp) lok_none (wp_gen fun Q' hQ=>askA_wp ((b20_1s ng lg s e g mo da x y z p a b c d (flat R) R.length K).mpr ?_)) (by simp [idsA])
   dsimp only
   have fin:∀v,famE 1 R.length (chkS R) (dZ ng lg s e g mo da x y z) p (sZ a b c d) (errF ng lg s e g mo da x y z) g (hasXB (s++mo++da)) (mZ x y z) (fitB a b c d p) (rChk a b c d) a c=v->Q' (.int .i64 v):=fun v h=>hQ _ (by rw [h])
   clear hQ
   try simp only [dZ_eq]
   try simp only [sZ_eq]
   try simp only [mZ_eq]
   have bl:Nat.ble (R.length*4) (R.length*4)=true:=q_ble_t.mpr (Nat.le_refl _)
   have ir:=isRs_flat hR
   simp only [win_flat,unR_flat,belowL_flat,flat_len,Nat.zero_add,bl,ir,Bool.and_true,Bool.true_and]
   generalize chkS R=ch at *
   unfold famE at fin
   generalize dZ ng lg s e g mo da x y z=dz at *
   generalize sZ a b c d=sz at *
   generalize mZ x y z=mz at *
   generalize hasXB (s++mo++da)=xb at *
   generalize errF ng lg s e g mo da x y z=ef at *
   generalize fitB a b c d p=ft at *
   generalize rChk a b c d=rk at *
   simp only [q_all,reduceCtorEq,loK,hiK,ne_eq]
   (repeat' first|exact trivial|refine ⟨?_,?_⟩|intro)<;>first|contradiction|omega|assumption|(apply fin;grind)|(exfalso;grind)|grind
 · refine fpwOK P20_ok (L:=noL) flat_low body20 (by simp) lok_none (wp_gen fun Q' hQ=>askA_wp ((b20_2s ng lg s e g mo da x y z p a b c d (flat R) R.length K).mpr ?_)) (by simp [idsA])
   dsimp only
   have fin:∀v,famE 2 R.length (chkS R) (dZ ng lg s e g mo da x y z) p (sZ a b c d) (errF ng lg s e g mo da x y z) g (hasXB (s++mo++da)) (mZ x y z) (fitB a b c d p) (rChk a b c d) a c=v->Q' (.int .i64 v):=fun v h=>hQ _ (by rw [h])
   clear hQ
   try simp only [dZ_eq]
   try simp only [sZ_eq]
   try simp only [mZ_eq]
   unfold famE at fin
   generalize dZ ng lg s e g mo da x y z=dz at *
   generalize sZ a b c d=sz at *
   generalize mZ x y z=mz at *
   generalize hasXB (s++mo++da)=xb at *
   generalize errF ng lg s e g mo da x y z=ef at *
   generalize fitB a b c d p=ft at *
   generalize rChk a b c d=rk at *
   simp only [q_all,reduceCtorEq,loK,hiK,ne_eq]
   (repeat' first|exact trivial|refine ⟨?_,?_⟩|intro)<;>first|contradiction|omega|assumption|(apply fin;grind)|(exfalso;grind)|grind
 · refine fpwOK P20_ok (L:=noL) flat_low body20 (by simp) lok_none (wp_gen fun Q' hQ=>askA_wp ((b20_3s ng lg s e g mo da x y z p a b c d (flat R) R.length K).mpr ?_)) (by simp [idsA])
   dsimp only
   have fin:∀v,famE 3 R.length (chkS R) (dZ ng lg s e g mo da x y z) p (sZ a b c d) (errF ng lg s e g mo da x y z) g (hasXB (s++mo++da)) (mZ x y z) (fitB a b c d p) (rChk a b c d) a c=v->Q' (.int .i64 v):=fun v h=>hQ _ (by rw [h])
   clear hQ
   try simp only [dZ_eq]
   try simp only [sZ_eq]
   try simp only [mZ_eq]
   unfold famE at fin
   generalize dZ ng lg s e g mo da x y z=dz at *
   generalize sZ a b c d=sz at *
   generalize mZ x y z=mz at *
   generalize hasXB (s++mo++da)=xb at *
   generalize errF ng lg s e g mo da x y z=ef at *
   generalize fitB a b c d p=ft at *
   generalize rChk a b c d=rk at *
   simp only [q_all,reduceCtorEq,loK,hiK,ne_eq]
   (repeat' first|exact trivial|refine ⟨?_,?_⟩|intro)<;>first|contradiction|omega|assumption|(apply fin;grind)|(exfalso;grind)|grind
 · refine fpwOK P20_ok (L:=noL) flat_low body20 (by simp) lok_none (wp_gen fun Q' hQ=>askA_wp ((b20_4s ng lg s e g mo da x y z p a b c d (flat R) R.length K).mpr ?_)) (by simp [idsA])
   dsimp only
   have fin:∀v,famE 4 R.length (chkS R) (dZ ng lg s e g mo da x y z) p (sZ a b c d) (errF ng lg s e g mo da x y z) g (hasXB (s++mo++da)) (mZ x y z) (fitB a b c d p) (rChk a b c d) a c=v->Q' (.int .i64 v):=fun v h=>hQ _ (by rw [h])
   clear hQ
   try simp only [dZ_eq]
   try simp only [sZ_eq]
   try simp only [mZ_eq]
   unfold famE at fin
   generalize dZ ng lg s e g mo da x y z=dz at *
   generalize sZ a b c d=sz at *
   generalize mZ x y z=mz at *
   generalize hasXB (s++mo++da)=xb at *
   generalize errF ng lg s e g mo da x y z=ef at *
   generalize fitB a b c d p=ft at *
   generalize rChk a b c d=rk at *
   simp only [q_all,reduceCtorEq,loK,hiK,ne_eq]
   (repeat' first|exact trivial|refine ⟨?_,?_⟩|intro)<;>first|contradiction|omega|assumption|(apply fin;grind)|(exfalso;grind)|grind
 · refine fpwOK P20_ok (L:=noL) flat_low body20 (by simp) lok_none (wp_gen fun Q' hQ=>askA_wp ((b20_5s ng lg s e g mo da x y z p a b c d (flat R) R.length K).mpr ?_)) (by simp [idsA])
   dsimp only
   have fin:∀v,famE 5 R.length (chkS R) (dZ ng lg s e g mo da x y z) p (sZ a b c d) (errF ng lg s e g mo da x y z) g (hasXB (s++mo++da)) (mZ x y z) (fitB a b c d p) (rChk a b c d) a c=v->Q' (.int .i64 v):=fun v h=>hQ _ (by rw [h])
   clear hQ
   try simp only [dZ_eq]
   try simp only [sZ_eq]
   try simp only [mZ_eq]
   unfold famE at fin
   generalize dZ ng lg s e g mo da x y z=dz at *
   generalize sZ a b c d=sz at *
   generalize mZ x y z=mz at *
   generalize hasXB (s++mo++da)=xb at *
   generalize errF ng lg s e g mo da x y z=ef at *
   generalize fitB a b c d p=ft at *
   generalize rChk a b c d=rk at *
   simp only [q_all,reduceCtorEq,loK,hiK,ne_eq]
   (repeat' first|exact trivial|refine ⟨?_,?_⟩|intro)<;>first|contradiction|omega|assumption|(apply fin;grind)|(exfalso;grind)|grind
theorem f20n {ng lg:Bool} {s:List UInt8} {e g:Int} {mo da:List UInt8} {x y z p a b c d:Int} {kd:Int} (hs:s.length≤1000) (hm:mo.length≤1000) (hda:da.length≤1000) (he : -9223372036854775808≤e/\e≤9223372036854775807) (hg : -9223372036854775808≤g/\g≤9223372036854775807) (hb : -9223372036854775808≤b/\b≤9223372036854775807) (hd : -9223372036854775808≤d/\d≤9223372036854775807) (ha : -128≤a/\a≤127) (hc : -128≤c/\c≤127) (hx:0≤x/\x≤255) (hy:0≤y/\y≤255) (hz:0≤z/\z≤255) (hp:0≤p/\p≤255):FactW Tryz.prog cfg 20 [.agg [.int .u8 kd,.nilslice,.bool ng,.bool lg,.str s,.int .i64 e,.int .i64 g,.str mo,.str da,.int .u8 x,.int .u8 y,.int .u8 z,.int .u8 p,.int .i8 a,.int .i64 b,.int .i8 c,.int .i64 d]] [] (.int .i64 (famE kd 0 0 (dZ ng lg s e g mo da x y z) p (sZ a b c d) (errF ng lg s e g mo da x y z) g (hasXB (s++mo++da)) (mZ x y z) (fitB a b c d p) (rChk a b c d) a c)) []:=by
 have hk:¬(1≤kd/\kd≤5)∨kd=1∨kd=2∨kd=3∨kd=4∨kd=5:=by omega
 rcases hk with hk|rfl|rfl|rfl|rfl|rfl
 · refine fpwOK P20_ok (L:=noL) (fun x hx=>by cases hx) body20 (by simp) lok_none (wp_gen fun Q' hQ=>askA_wp ((b20_0n ng lg s e g mo da x y z p a b c d kd).mpr ?_)) (by simp [idsA])
   dsimp only
   have fin:∀v,famE kd 0 0 (dZ ng lg s e g mo da x y z) p (sZ a b c d) (errF ng lg s e g mo da x y z) g (hasXB (s++mo++da)) (mZ x y z) (fitB a b c d p) (rChk a b c d) a c=v->Q' (.int .i64 v):=fun v h=>hQ _ (by rw [h])
   clear hQ
   have fin:=fin 18 (by unfold famE;grind)
   simp only [q_all,reduceCtorEq,loK,hiK,ne_eq]
   (repeat' first|exact trivial|refine ⟨?_,?_⟩|intro)<;>first|contradiction|omega|assumption
 · refine fpwOK P20_ok (L:=noL) (fun x hx=>by cases hx) body20 (by simp) lok_none (wp_gen fun Q' hQ=>askA_wp ((b20_1n ng lg s e g mo da x y z p a b c d).mpr ?_)) (by simp [idsA])
   dsimp only
   have fin:∀v,famE 1 0 0 (dZ ng lg s e g mo da x y z) p (sZ a b c d) (errF ng lg s e g mo da x y z) g (hasXB (s++mo++da)) (mZ x y z) (fitB a b c d p) (rChk a b c d) a c=v->Q' (.int .i64 v):=fun v h=>hQ _ (by rw [h])
   clear hQ
   try simp only [dZ_eq]
   try simp only [sZ_eq]
   try simp only [mZ_eq]
   unfold famE at fin
   generalize dZ ng lg s e g mo da x y z=dz at *
   generalize sZ a b c d=sz at *
   generalize mZ x y z=mz at *
   generalize hasXB (s++mo++da)=xb at *
   generalize errF ng lg s e g mo da x y z=ef at *
   generalize fitB a b c d p=ft at *
   generalize rChk a b c d=rk at *
   simp only [q_all,reduceCtorEq,loK,hiK,ne_eq]
   (repeat' first|exact trivial|refine ⟨?_,?_⟩|intro)<;>first|contradiction|omega|assumption|(apply fin;grind)|(exfalso;grind)|grind
 · refine fpwOK P20_ok (L:=noL) (fun x hx=>by cases hx) body20 (by simp) lok_none (wp_gen fun Q' hQ=>askA_wp ((b20_2n ng lg s e g mo da x y z p a b c d).mpr ?_)) (by simp [idsA])
   dsimp only
   have fin:∀v,famE 2 0 0 (dZ ng lg s e g mo da x y z) p (sZ a b c d) (errF ng lg s e g mo da x y z) g (hasXB (s++mo++da)) (mZ x y z) (fitB a b c d p) (rChk a b c d) a c=v->Q' (.int .i64 v):=fun v h=>hQ _ (by rw [h])
   clear hQ
   try simp only [dZ_eq]
   try simp only [sZ_eq]
   try simp only [mZ_eq]
   unfold famE at fin
   generalize dZ ng lg s e g mo da x y z=dz at *
   generalize sZ a b c d=sz at *
   generalize mZ x y z=mz at *
   generalize hasXB (s++mo++da)=xb at *
   generalize errF ng lg s e g mo da x y z=ef at *
   generalize fitB a b c d p=ft at *
   generalize rChk a b c d=rk at *
   simp only [q_all,reduceCtorEq,loK,hiK,ne_eq]
   (repeat' first|exact trivial|refine ⟨?_,?_⟩|intro)<;>first|contradiction|omega|assumption|(apply fin;grind)|(exfalso;grind)|grind
 · refine fpwOK P20_ok (L:=noL) (fun x hx=>by cases hx) body20 (by simp) lok_none (wp_gen fun Q' hQ=>askA_wp ((b20_3n ng lg s e g mo da x y z p a b c d).mpr ?_)) (by simp [idsA])
   dsimp only
   have fin:∀v,famE 3 0 0 (dZ ng lg s e g mo da x y z) p (sZ a b c d) (errF ng lg s e g mo da x y z) g (hasXB (s++mo++da)) (mZ x y z) (fitB a b c d p) (rChk a b c d) a c=v->Q' (.int .i64 v):=fun v h=>hQ _ (by rw [h])
   clear hQ
   try simp only [dZ_eq]
   try simp only [sZ_eq]
   try simp only [mZ_eq]
   unfold famE at fin
   generalize dZ ng lg s e g mo da x y z=dz at *
   generalize sZ a b c d=sz at *
   generalize mZ x y z=mz at *
   generalize hasXB (s++mo++da)=xb at *
   generalize errF ng lg s e g mo da x y z=ef at *
   generalize fitB a b c d p=ft at *
   generalize rChk a b c d=rk at *
   simp only [q_all,reduceCtorEq,loK,hiK,ne_eq]
   (repeat' first|exact trivial|refine ⟨?_,?_⟩|intro)<;>first|contradiction|omega|assumption|(apply fin;grind)|(exfalso;grind)|grind
 · refine fpwOK P20_ok (L:=noL) (fun x hx=>by cases hx) body20 (by simp) lok_none (wp_gen fun Q' hQ=>askA_wp ((b20_4n ng lg s e g mo da x y z p a b c d).mpr ?_)) (by simp [idsA])
   dsimp only
   have fin:∀v,famE 4 0 0 (dZ ng lg s e g mo da x y z) p (sZ a b c d) (errF ng lg s e g mo da x y z) g (hasXB (s++mo++da)) (mZ x y z) (fitB a b c d p) (rChk a b c d) a c=v->Q' (.int .i64 v):=fun v h=>hQ _ (by rw [h])
   clear hQ
   try simp only [dZ_eq]
   try simp only [sZ_eq]
   try simp only [mZ_eq]
   unfold famE at fin
   generalize dZ ng lg s e g mo da x y z=dz at *
   generalize sZ a b c d=sz at *
   generalize mZ x y z=mz at *
   generalize hasXB (s++mo++da)=xb at *
   generalize errF ng lg s e g mo da x y z=ef at *
   generalize fitB a b c d p=ft at *
   generalize rChk a b c d=rk at *
   simp only [q_all,reduceCtorEq,loK,hiK,ne_eq]
   (repeat' first|exact trivial|refine ⟨?_,?_⟩|intro)<;>first|contradiction|omega|assumption|(apply fin;grind)|(exfalso;grind)|grind
 · refine fpwOK P20_ok (L:=noL) (fun x hx=>by cases hx) body20 (by simp) lok_none (wp_gen fun Q' hQ=>askA_wp ((b20_5n ng lg s e g mo da x y z p a b c d).mpr ?_)) (by simp [idsA])
   dsimp only
   have fin:∀v,famE 5 0 0 (dZ ng lg s e g mo da x y z) p (sZ a b c d) (errF ng lg s e g mo da x y z) g (hasXB (s++mo++da)) (mZ x y z) (fitB a b c d p) (rChk a b c d) a c=v->Q' (.int .i64 v):=fun v h=>hQ _ (by rw [h])
   clear hQ
   try simp only [dZ_eq]
   try simp only [sZ_eq]
   try simp only [mZ_eq]
   unfold famE at fin
   generalize dZ ng lg s e g mo da x y z=dz at *
   generalize sZ a b c d=sz at *
   generalize mZ x y z=mz at *
   generalize hasXB (s++mo++da)=xb at *
   generalize errF ng lg s e g mo da x y z=ef at *
   generalize fitB a b c d p=ft at *
   generalize rChk a b c d=rk at *
   simp only [q_all,reduceCtorEq,loK,hiK,ne_eq]
   (repeat' first|exact trivial|refine ⟨?_,?_⟩|intro)<;>first|contradiction|omega|assumption|(apply fin;grind)|(exfalso;grind)|grind
def w20:WSum:=fun args ws=>match args,ws with
 | [.agg [.int .u8 k,.slice 14 0 n K,.bool ng,.bool lg,.str s,.int .i64 e,.int .i64 g,.str mo,.str da,.int .u8 x,.int .u8 y,.int .u8 z,.int .u8 p,.int .i8 a,.int .i64 b,.int .i8 c,.int .i64 d]],[.cells w false none]=>some (asrts [Nat.ble s.length 1000,Nat.ble mo.length 1000,Nat.ble da.length 1000,inR .i64 e,inR .i64 g,inR .i64 b,inR .i64 d,inR .i8 a,inR .i8 c,inR .u8 x,inR .u8 y,inR .u8 z,inR .u8 p,isRs w,Nat.beq (unR w).length n,Nat.ble n 1000] (.ret (.int .i64 (famE k n (chkS (unR w)) (dZ ng lg s e g mo da x y z) p (sZ a b c d) (errF ng lg s e g mo da x y z) g (hasXB (s++mo++da)) (mZ x y z) (fitB a b c d p) (rChk a b c d) a c),[])))
 | [.agg [.int .u8 k,.nilslice,.bool ng,.bool lg,.str s,.int .i64 e,.int .i64 g,.str mo,.str da,.int .u8 x,.int .u8 y,.int .u8 z,.int .u8 p,.int .i8 a,.int .i64 b,.int .i8 c,.int .i64 d]],[]=>some (asrts [Nat.ble s.length 1000,Nat.ble mo.length 1000,Nat.ble da.length 1000,inR .i64 e,inR .i64 g,inR .i64 b,inR .i64 d,inR .i8 a,inR .i8 c,inR .u8 x,inR .u8 y,inR .u8 z,inR .u8 p] (.ret (.int .i64 (famE k 0 0 (dZ ng lg s e g mo da x y z) p (sZ a b c d) (errF ng lg s e g mo da x y z) g (hasXB (s++mo++da)) (mZ x y z) (fitB a b c d p) (rChk a b c d) a c),[])))
 | _,_=>none
def s22:Sum:=fun args=>match args with
 | []=>some (.ret (.bool true))
 | _=>none
theorem isRs_rs:∀{w:List AV},isRs w=true->inRs (unR w)
 | [],_=>fun i hi=>absurd hi (Nat.not_lt_zero _)
 | .int .i8 a::.int .i64 b::.int .i8 c::.int .i64 d::r,h=>fun i hi=>by
   simp only [isRs,Bool.and_eq_true,q_inR_t,loK,hiK] at h
   cases i with
   | zero=>exact ⟨h.1,h.2.1⟩
   | succ i=>exact isRs_rs h.2.2 i (by simpa [unR] using hi)
theorem add20 {S:Sums} (hS:SumsOK Tryz.prog cfg S):SumsOK Tryz.prog cfg (addG S 20 (winS 14 [4] w20)):=by
 refine sums_addG hS (win_ok good0.lv ro0 fun args ws t r he hr=>?_)
 unfold w20 at he
 split at he
 · rename_i k n K ng lg s e g mo da x y z p a b c d w
   cases he
   obtain ⟨h1,hr'⟩:=asrts_run hr;clear hr;have hr:=hr';clear hr'
   obtain ⟨h2,hr'⟩:=asrts_run hr;clear hr;have hr:=hr';clear hr'
   obtain ⟨h3,hr'⟩:=asrts_run hr;clear hr;have hr:=hr';clear hr'
   obtain ⟨h4,hr'⟩:=asrts_run hr;clear hr;have hr:=hr';clear hr'
   obtain ⟨h5,hr'⟩:=asrts_run hr;clear hr;have hr:=hr';clear hr'
   obtain ⟨h6,hr'⟩:=asrts_run hr;clear hr;have hr:=hr';clear hr'
   obtain ⟨h7,hr'⟩:=asrts_run hr;clear hr;have hr:=hr';clear hr'
   obtain ⟨h8,hr'⟩:=asrts_run hr;clear hr;have hr:=hr';clear hr'
   obtain ⟨h9,hr'⟩:=asrts_run hr;clear hr;have hr:=hr';clear hr'
   obtain ⟨h10,hr'⟩:=asrts_run hr;clear hr;have hr:=hr';clear hr'
   obtain ⟨h11,hr'⟩:=asrts_run hr;clear hr;have hr:=hr';clear hr'
   obtain ⟨h12,hr'⟩:=asrts_run hr;clear hr;have hr:=hr';clear hr'
   obtain ⟨h13,hr'⟩:=asrts_run hr;clear hr;have hr:=hr';clear hr'
   obtain ⟨h14,hr'⟩:=asrts_run hr;clear hr;have hr:=hr';clear hr'
   obtain ⟨h15,hr'⟩:=asrts_run hr;clear hr;have hr:=hr';clear hr'
   obtain ⟨h16,hr'⟩:=asrts_run hr;clear hr;have hr:=hr';clear hr'
   rw [q_ble_t] at h1 h2 h3
   rw [q_inR_t] at h4 h5 h6 h7 h8 h9 h10 h11 h12 h13
   simp only [loK,hiK] at h4 h5 h6 h7 h8 h9 h10 h11 h12 h13
   rw [q_beq_t] at h15
   rw [q_ble_t] at h16
   subst h15
   cases hr
   have key:=f20s (ng:=ng) (lg:=lg) (s:=s) (e:=e) (g:=g) (mo:=mo) (da:=da) (x:=x) (y:=y) (z:=z) (p:=p) (a:=a) (b:=b) (c:=c) (d:=d) (kd:=k) (R:=unR w) (K:=K) (isRs_rs h14) h16 h1 h2 h3 h4 h5 h6 h7 h8 h9 h10 h11 h12 h13
   rw [flat_unR h14] at key
   exact ⟨key,fun x hx=>by cases hx⟩
 · rename_i k ng lg s e g mo da x y z p a b c d
   cases he
   obtain ⟨h1,hr'⟩:=asrts_run hr;clear hr;have hr:=hr';clear hr'
   obtain ⟨h2,hr'⟩:=asrts_run hr;clear hr;have hr:=hr';clear hr'
   obtain ⟨h3,hr'⟩:=asrts_run hr;clear hr;have hr:=hr';clear hr'
   obtain ⟨h4,hr'⟩:=asrts_run hr;clear hr;have hr:=hr';clear hr'
   obtain ⟨h5,hr'⟩:=asrts_run hr;clear hr;have hr:=hr';clear hr'
   obtain ⟨h6,hr'⟩:=asrts_run hr;clear hr;have hr:=hr';clear hr'
   obtain ⟨h7,hr'⟩:=asrts_run hr;clear hr;have hr:=hr';clear hr'
   obtain ⟨h8,hr'⟩:=asrts_run hr;clear hr;have hr:=hr';clear hr'
   obtain ⟨h9,hr'⟩:=asrts_run hr;clear hr;have hr:=hr';clear hr'
   obtain ⟨h10,hr'⟩:=asrts_run hr;clear hr;have hr:=hr';clear hr'
   obtain ⟨h11,hr'⟩:=asrts_run hr;clear hr;have hr:=hr';clear hr'
   obtain ⟨h12,hr'⟩:=asrts_run hr;clear hr;have hr:=hr';clear hr'
   obtain ⟨h13,hr'⟩:=asrts_run hr;clear hr;have hr:=hr';clear hr'
   rw [q_ble_t] at h1 h2 h3
   rw [q_inR_t] at h4 h5 h6 h7 h8 h9 h10 h11 h12 h13
   simp only [loK,hiK] at h4 h5 h6 h7 h8 h9 h10 h11 h12 h13
   cases hr
   exact ⟨f20n h1 h2 h3 h4 h5 h6 h7 h8 h9 h10 h11 h12 h13,fun x hx=>by cases hx⟩
 · cases he
end Go.Ev
