import Derived.Test.YtafekjglclnegaaGreatDoorP30
set_option linter.all false
section
set_option maxRecDepth 100000
set_option maxHeartbeats 1000000
namespace Go.Ev
open Go Go.Proofs
def B8:bq:=gu (bw (bw (bw (j1 dF 57 J9) 59 U0) 60 Xt) 61 Vb) 58 (gD 14 [4] UO)
theorem No(ng lg:Bool)(s:List UInt8)(e g:Int)(mo da:List UInt8)(x y z p a b c d:Int)(w:List AV)(n:Nat)(K:dv){Q:AV->Prop}:aO Q (pW B8 aW [.cells w false none] 20 [.agg [.int .u8 1,.slice 14 0 n K,.bool ng,.bool lg,.str s,.int .i64 e,.int .i64 g,.str mo,.str da,.int .u8 x,.int .u8 y,.int .u8 z,.int .u8 p,.int .i8 a,.int .i64 b,.int .i8 c,.int .i64 d]]) (b_ 100031031111244401400051424240056666)=((λ(u0 u2 u4:Bool)(u5:List AV)(u1 u3 u6:Prop)=>(λ(u7 u9:Bool)=>(u0=true->u0=true/\(u1->u1/\(u2=true->u3)/\(u2=false->(u4=true->Q (AV.int .i64 17))/\(u4=false->(u7=true->(aZ u5=true->(u9=true->Nat.ble n 1000=true/\Q (AV.int .i64 (eY (b8 u5))))/\(u9=false->False))/\(aZ u5=false->False))/\(u7=false->False))))/\(u6->u6/\u3))/\(u0=false->u0=false/\u3)) (and true (and (Nat.ble (HAdd.hAdd 0 (HMul.hMul n 4)) (List.length w)) (aG 14 u5))) (Nat.beq (List.length (b8 u5)) n)) (and (and (aL ng false) (and (aL lg false) (and (af s []) (and (aa e 0) (and (aa g 0) true))))) (and (af mo []) (and (af da []) (and (and (aa x 0) (and (aa y 0) (and (aa z 0) true))) true)))) (not (and (and (aa a 0) (and (aa b 0) true)) (and (and (aa c 0) (and (aa d 0) true)) true))) (aa (Int.ofNat n) 0) (aY w 0 (HMul.hMul n 4)) (aa p 0=true) (Q (AV.int .i64 5)) (aa p 0=false)):=by kernel_rfl
theorem K9(ng lg:Bool)(s:List UInt8)(e g:Int)(mo da:List UInt8)(x y z p a b c d:Int){Q:AV->Prop}:aO Q (pW B8 aW [] 20 [.agg [.int .u8 1,.nilslice,.bool ng,.bool lg,.str s,.int .i64 e,.int .i64 g,.str mo,.str da,.int .u8 x,.int .u8 y,.int .u8 z,.int .u8 p,.int .i8 a,.int .i64 b,.int .i8 c,.int .i64 d]]) (b_ 100031031551424240056666)=((λ(u0 u2:Bool)(u1 u3 u4:Prop)=>(u0=true->u0=true/\(u1->u1/\(u2=true->u3)/\(u2=false->Q (AV.int .i64 17)))/\(u4->u4/\u3))/\(u0=false->u0=false/\u3)) (and (and (aL ng false) (and (aL lg false) (and (af s []) (and (aa e 0) (and (aa g 0) true))))) (and (af mo []) (and (af da []) (and (and (aa x 0) (and (aa y 0) (and (aa z 0) true))) true)))) (not (and (and (aa a 0) (and (aa b 0) true)) (and (and (aa c 0) (and (aa d 0) true)) true))) (aa p 0=true) (Q (AV.int .i64 5)) (aa p 0=false)):=by kernel_rfl
theorem KF(ng lg:Bool)(s:List UInt8)(e g:Int)(mo da:List UInt8)(x y z p a b c d:Int)(w:List AV)(n:Nat)(K:dv){Q:AV->Prop}:aO Q (pW B8 aW [.cells w false none] 20 [.agg [.int .u8 2,.slice 14 0 n K,.bool ng,.bool lg,.str s,.int .i64 e,.int .i64 g,.str mo,.str da,.int .u8 x,.int .u8 y,.int .u8 z,.int .u8 p,.int .i8 a,.int .i64 b,.int .i8 c,.int .i64 d]]) (b_ 100031031000581033811470002242702062401422776614242400056666)=((λ(u0 u2 ua ub:Bool)(u7:Int)(u1 u3 u4 u5 u6 u9 uc ud ue:Prop)=>(λ(uf:Bool)(ug uh:Prop)=>(u0=true->u0=true/\(u1->u1/\(u2=true->u3)/\(u2=false->u4/\u5/\u6/\ae .i64 e=true/\ae .i64 g=true/\ae .u8 x=true/\ae .u8 y=true/\ae .u8 z=true/\(uf=true->Q (AV.int .i64 u7))/\(uf=false->(u9->u9/\u9/\u4/\u5/\u6/\u9/\(ug->ug/\ug/\ug/\ug/\ug/\(ub=true->uc)/\(ub=false->Q (AV.int .i64 0)))/\(uh->uh/\uh/\uh/\uh/\uh/\uc))/\(ud->ud/\ud/\ud/\uc))))/\(ue->ue/\u3))/\(u0=false->u0=false/\u3)) (not (aa u7 0)) (ua=true) (ua=false)) (aa (Int.ofNat n) 0) (not (and (and (aa a 0) (and (aa b 0) true)) (and (and (aa c 0) (and (aa d 0) true)) true))) (bc (HAppend.hAppend (HAppend.hAppend s mo) da)) (not (and (aa x 0) (and (aa y 0) (and (aa z 0) true)))) (cL ng lg s e g mo da x y z) (aa p 0=true) (Q (AV.int .i64 5)) (Nat.ble (List.length s) 1000=true) (Nat.ble (List.length mo) 1000=true) (Nat.ble (List.length da) 1000=true) (aa g 0=true) (Q (AV.int .i64 1)) (aa g 0=false) (aa p 0=false)):=by kernel_rfl
theorem NJ(ng lg:Bool)(s:List UInt8)(e g:Int)(mo da:List UInt8)(x y z p a b c d:Int){Q:AV->Prop}:aO Q (pW B8 aW [] 20 [.agg [.int .u8 2,.nilslice,.bool ng,.bool lg,.str s,.int .i64 e,.int .i64 g,.str mo,.str da,.int .u8 x,.int .u8 y,.int .u8 z,.int .u8 p,.int .i8 a,.int .i64 b,.int .i8 c,.int .i64 d]]) (b_ 10310005810338114700022427020624014227766142466666)=((λ(u1 u9 ua:Bool)(u6:Int)(u0 u2 u3 u4 u5 u7 ub uc ud:Prop)=>(λ(ue:Bool)(uf ug:Prop)=>(u0->u0/\(u1=true->u2)/\(u1=false->u3/\u4/\u5/\ae .i64 e=true/\ae .i64 g=true/\ae .u8 x=true/\ae .u8 y=true/\ae .u8 z=true/\(ue=true->Q (AV.int .i64 u6))/\(ue=false->(u7->u7/\u7/\u3/\u4/\u5/\u7/\(uf->uf/\uf/\uf/\uf/\uf/\(ua=true->ub)/\(ua=false->Q (AV.int .i64 0)))/\(ug->ug/\ug/\ug/\ug/\ug/\ub))/\(uc->uc/\uc/\uc/\ub))))/\(ud->ud/\u2)) (not (aa u6 0)) (u9=true) (u9=false)) (not (and (and (aa a 0) (and (aa b 0) true)) (and (and (aa c 0) (and (aa d 0) true)) true))) (bc (HAppend.hAppend (HAppend.hAppend s mo) da)) (not (and (aa x 0) (and (aa y 0) (and (aa z 0) true)))) (cL ng lg s e g mo da x y z) (aa p 0=true) (Q (AV.int .i64 5)) (Nat.ble (List.length s) 1000=true) (Nat.ble (List.length mo) 1000=true) (Nat.ble (List.length da) 1000=true) (aa g 0=true) (Q (AV.int .i64 1)) (aa g 0=false) (aa p 0=false)):=by kernel_rfl
theorem M0(ng lg:Bool)(s:List UInt8)(e g:Int)(mo da:List UInt8)(x y z p a b c d:Int)(w:List AV)(n:Nat)(K:dv){Q:AV->Prop}:aO Q (pW B8 aW [.cells w false none] 20 [.agg [.int .u8 3,.slice 14 0 n K,.bool ng,.bool lg,.str s,.int .i64 e,.int .i64 g,.str mo,.str da,.int .u8 x,.int .u8 y,.int .u8 z,.int .u8 p,.int .i8 a,.int .i64 b,.int .i8 c,.int .i64 d]]) (b_ 1031023311477005143202461424556666)=((λ(u0 u1 u3 u4 u6:Bool)(u2 u5:Prop)=>(λ(u7 u9:Prop)=>(u0=true->u0=true/\(u1=true->u2)/\(u1=false->(u7->u7/\u7/\u3=false/\(u4=true->u5)/\(u4=false->ae .i8 a=true/\ae .i64 b=true/\ae .i8 c=true/\ae .i64 d=true/\ab 1 p=true/\ab p 3=true/\(u6=true->Q (AV.int .i64 1))/\(u6=false->Q (AV.int .i64 0))))/\(u9->u9/\u9/\u3=true/\u5)))/\(u0=false->u0=false/\u2)) (not u3=true) (not u3=false)) (aa (Int.ofNat n) 0) (not (and (and (aL ng false) (and (aL lg false) (and (af s []) (and (aa e 0) (and (aa g 0) true))))) (and (af mo []) (and (af da []) (and (and (aa x 0) (and (aa y 0) (and (aa z 0) true))) true))))) (not (ab 1 p)) (not (ab p 3)) (not (cI a b c d p)) (Q (AV.int .i64 5)) (Q (AV.int .i64 18))):=by kernel_rfl
theorem My(ng lg:Bool)(s:List UInt8)(e g:Int)(mo da:List UInt8)(x y z p a b c d:Int){Q:AV->Prop}:aO Q (pW B8 aW [] 20 [.agg [.int .u8 3,.nilslice,.bool ng,.bool lg,.str s,.int .i64 e,.int .i64 g,.str mo,.str da,.int .u8 x,.int .u8 y,.int .u8 z,.int .u8 p,.int .i8 a,.int .i64 b,.int .i8 c,.int .i64 d]]) (b_ 10233114770051432024614066666)=((λ(u0 u1 u2 u4:Bool)(u3:Prop)=>(λ(u5 u6:Prop)=>(u0=true->Q (AV.int .i64 5))/\(u0=false->(u5->u5/\u5/\u1=false/\(u2=true->u3)/\(u2=false->ae .i8 a=true/\ae .i64 b=true/\ae .i8 c=true/\ae .i64 d=true/\ab 1 p=true/\ab p 3=true/\(u4=true->Q (AV.int .i64 1))/\(u4=false->Q (AV.int .i64 0))))/\(u6->u6/\u6/\u1=true/\u3))) (not u1=true) (not u1=false)) (not (and (and (aL ng false) (and (aL lg false) (and (af s []) (and (aa e 0) (and (aa g 0) true))))) (and (af mo []) (and (af da []) (and (and (aa x 0) (and (aa y 0) (and (aa z 0) true))) true))))) (not (ab 1 p)) (not (ab p 3)) (not (cI a b c d p)) (Q (AV.int .i64 18))):=by kernel_rfl
theorem Ms(ng lg:Bool)(s:List UInt8)(e g:Int)(mo da:List UInt8)(x y z p a b c d:Int)(w:List AV)(n:Nat)(K:dv){Q:AV->Prop}:aO Q (pW B8 aW [.cells w false none] 20 [.agg [.int .u8 4,.slice 14 0 n K,.bool ng,.bool lg,.str s,.int .i64 e,.int .i64 g,.str mo,.str da,.int .u8 x,.int .u8 y,.int .u8 z,.int .u8 p,.int .i8 a,.int .i64 b,.int .i8 c,.int .i64 d]]) (b_ 10003103100053381033811422074220746142424556666)=((λ(u0 u1 u2 u4 u5 u6:Bool)(u3 u7:Prop)=>(λ(u9 ua ub uc:Prop)=>(u0=true->u0=true/\(u1=true->u1=true/\(u2=true->u3)/\(u2=false->(u9->u9/\u9/\u9/\u9/\u9/\(ua->ua/\ua/\ua/\ua/\ua/\(u6=true->u7)/\(u6=false->Q (AV.int .i64 0)))/\(ub->ub/\ub/\ub/\ub/\ub/\u7))/\(uc->uc/\uc/\uc/\uc/\uc/\u7)))/\(u1=false->u1=false/\u3))/\(u0=false->u0=false/\u3)) (u4=true) (u5=true) (u5=false) (u4=false)) (aa (Int.ofNat n) 0) (and (and (aL ng false) (and (aL lg false) (and (af s []) (and (aa e 0) (and (aa g 0) true))))) (and (af mo []) (and (af da []) (and (and (aa x 0) (and (aa y 0) (and (aa z 0) true))) true)))) (not (aa p 0)) (aa (bH a b c d) 0) (aa a (Neg.neg 1)) (not (aa c 0)) (Q (AV.int .i64 5)) (Q (AV.int .i64 1))):=by kernel_rfl
theorem Me(ng lg:Bool)(s:List UInt8)(e g:Int)(mo da:List UInt8)(x y z p a b c d:Int){Q:AV->Prop}:aO Q (pW B8 aW [] 20 [.agg [.int .u8 4,.nilslice,.bool ng,.bool lg,.str s,.int .i64 e,.int .i64 g,.str mo,.str da,.int .u8 x,.int .u8 y,.int .u8 z,.int .u8 p,.int .i8 a,.int .i64 b,.int .i8 c,.int .i64 d]]) (b_ 1031000533810338114220742207461424066666)=((λ(u0 u1 u3 u4 u5:Bool)(u2 u6:Prop)=>(λ(u7 u9 ua ub:Prop)=>(u0=true->u0=true/\(u1=true->u2)/\(u1=false->(u7->u7/\u7/\u7/\u7/\u7/\(u9->u9/\u9/\u9/\u9/\u9/\(u5=true->u6)/\(u5=false->Q (AV.int .i64 0)))/\(ua->ua/\ua/\ua/\ua/\ua/\u6))/\(ub->ub/\ub/\ub/\ub/\ub/\u6)))/\(u0=false->u0=false/\u2)) (u3=true) (u4=true) (u4=false) (u3=false)) (and (and (aL ng false) (and (aL lg false) (and (af s []) (and (aa e 0) (and (aa g 0) true))))) (and (af mo []) (and (af da []) (and (and (aa x 0) (and (aa y 0) (and (aa z 0) true))) true)))) (not (aa p 0)) (aa (bH a b c d) 0) (aa a (Neg.neg 1)) (not (aa c 0)) (Q (AV.int .i64 5)) (Q (AV.int .i64 1))):=by kernel_rfl
theorem N6(ng lg:Bool)(s:List UInt8)(e g:Int)(mo da:List UInt8)(x y z p a b c d:Int)(w:List AV)(n:Nat)(K:dv){Q:AV->Prop}:aO Q (pW B8 aW [.cells w false none] 20 [.agg [.int .u8 5,.slice 14 0 n K,.bool ng,.bool lg,.str s,.int .i64 e,.int .i64 g,.str mo,.str da,.int .u8 x,.int .u8 y,.int .u8 z,.int .u8 p,.int .i8 a,.int .i64 b,.int .i8 c,.int .i64 d]]) (b_ 100031031000533810338114220742207406142424556666)=((λ(u0 u1 u2 u4 u6:Bool)(u3 u5 u7 u9:Prop)=>(λ(ua ub:Prop)=>(u0=true->u0=true/\(u1=true->u1=true/\(u2=true->u3)/\(u2=false->(ua->ua/\ua/\ua/\ua/\ua/\(u5->u5/\u5/\u5/\u5/\u5/\(u6=true->u7)/\(u6=false->Q (AV.int .i64 0)))/\(u9->u9/\u9/\u9/\u9/\u9/\u7))/\(ub->ub/\ub/\ub/\ub/\ub/\u7)))/\(u1=false->u1=false/\u3))/\(u0=false->u0=false/\u3)) (u4=true) (u4=false)) (aa (Int.ofNat n) 0) (and (and (aL ng false) (and (aL lg false) (and (af s []) (and (aa e 0) (and (aa g 0) true))))) (and (af mo []) (and (af da []) (and (and (aa x 0) (and (aa y 0) (and (aa z 0) true))) true)))) (not (aa p 0)) (aa (bH a b c d) 0) (not (aa c 1)) (Q (AV.int .i64 5)) (aa a 0=true) (Q (AV.int .i64 1)) (aa a 0=false)):=by kernel_rfl
theorem N5(ng lg:Bool)(s:List UInt8)(e g:Int)(mo da:List UInt8)(x y z p a b c d:Int){Q:AV->Prop}:aO Q (pW B8 aW [] 20 [.agg [.int .u8 5,.nilslice,.bool ng,.bool lg,.str s,.int .i64 e,.int .i64 g,.str mo,.str da,.int .u8 x,.int .u8 y,.int .u8 z,.int .u8 p,.int .i8 a,.int .i64 b,.int .i8 c,.int .i64 d]]) (b_ 10310005338103381142207422074061424066666)=((λ(u0 u1 u3 u5:Bool)(u2 u4 u6 u7:Prop)=>(λ(u9 ua:Prop)=>(u0=true->u0=true/\(u1=true->u2)/\(u1=false->(u9->u9/\u9/\u9/\u9/\u9/\(u4->u4/\u4/\u4/\u4/\u4/\(u5=true->u6)/\(u5=false->Q (AV.int .i64 0)))/\(u7->u7/\u7/\u7/\u7/\u7/\u6))/\(ua->ua/\ua/\ua/\ua/\ua/\u6)))/\(u0=false->u0=false/\u2)) (u3=true) (u3=false)) (and (and (aL ng false) (and (aL lg false) (and (af s []) (and (aa e 0) (and (aa g 0) true))))) (and (af mo []) (and (af da []) (and (and (aa x 0) (and (aa y 0) (and (aa z 0) true))) true)))) (not (aa p 0)) (aa (bH a b c d) 0) (not (aa c 1)) (Q (AV.int .i64 5)) (aa a 0=true) (Q (AV.int .i64 1)) (aa a 0=false)):=by kernel_rfl
theorem MS(ng lg:Bool)(s:List UInt8)(e g:Int)(mo da:List UInt8)(x y z p a b c d:Int)(w:List AV)(n:Nat)(K:dv)(kd:Int){Q:AV->Prop}:aO Q (pW B8 aW [.cells w false none] 20 [.agg [.int .u8 kd,.slice 14 0 n K,.bool ng,.bool lg,.str s,.int .i64 e,.int .i64 g,.str mo,.str da,.int .u8 x,.int .u8 y,.int .u8 z,.int .u8 p,.int .i8 a,.int .i64 b,.int .i8 c,.int .i64 d]]) (b_ 1023312320240)=((λ(u0:Bool)(u1:Prop)=>(λ(u2 u3:Prop)=>(u2->u2/\u2/\u0=false/\not (ab kd 5)=true/\u1)/\(u3->u3/\u3/\u0=true/\u1)) (not u0=true) (not u0=false)) (not (ab 1 kd)) (Q (AV.int .i64 18))):=by kernel_rfl
theorem Lr(ng lg:Bool)(s:List UInt8)(e g:Int)(mo da:List UInt8)(x y z p a b c d kd:Int){Q:AV->Prop}:aO Q (pW B8 aW [] 20 [.agg [.int .u8 kd,.nilslice,.bool ng,.bool lg,.str s,.int .i64 e,.int .i64 g,.str mo,.str da,.int .u8 x,.int .u8 y,.int .u8 z,.int .u8 p,.int .i8 a,.int .i64 b,.int .i8 c,.int .i64 d]]) (b_ 1023312320240)=((λ(u0:Bool)(u1:Prop)=>(λ(u2 u3:Prop)=>(u2->u2/\u2/\u0=false/\not (ab kd 5)=true/\u1)/\(u3->u3/\u3/\u0=true/\u1)) (not u0=true) (not u0=false)) (not (ab 1 kd)) (Q (AV.int .i64 18))):=by kernel_rfl
theorem il:aH tab 20=some (bC 20,aE 20):=by kernel_rfl
theorem iq:az Tryz.prog cfg B8:=PL (Qi (Qc (OH (dr aT zx))))
theorem WG{ng lg:Bool}{s:List UInt8}{e g:Int}{mo da:List UInt8}{x y z p a b c d:Int}{kd:Int}{R:List Rn}{K:dv}(hR:n4 R)(hn:R.length<=1000)(hs:s.length<=1000)(hm:mo.length<=1000)(hda:da.length<=1000)(he : -9223372036854775808<=e/\e<=9223372036854775807)(hg : -9223372036854775808<=g/\g<=9223372036854775807)(hb : -9223372036854775808<=b/\b<=9223372036854775807)(hd : -9223372036854775808<=d/\d<=9223372036854775807)(ha : -128<=a/\a<=127)(hc : -128<=c/\c<=127)(hx:0<=x/\x<=255)(hy:0<=y/\y<=255)(hz:0<=z/\z<=255)(hp:0<=p/\p<=255):bR Tryz.prog cfg 20 [.agg [.int .u8 kd,.slice 14 0 R.length K,.bool ng,.bool lg,.str s,.int .i64 e,.int .i64 g,.str mo,.str da,.int .u8 x,.int .u8 y,.int .u8 z,.int .u8 p,.int .i8 a,.int .i64 b,.int .i8 c,.int .i64 d]] [.cells (aJ R) false none] (.int .i64 (cC kd R.length (eY R) (dZ ng lg s e g mo da x y z) p (sZ a b c d) (cL ng lg s e g mo da x y z) g (bc (s++mo++da)) (mZ x y z) (cI a b c d p) (bH a b c d) a c)) []:=by
 have hk:¬(1<=kd/\kd<=5)\/kd=1\/kd=2\/kd=3\/kd=4\/kd=5:=by omega
 rcases hk with hk|rfl|rfl|rfl|rfl|rfl
 · refine bX iq (L:=aW) dE il (by simp) ak (ap λQ' hQ=>al ((MS ng lg s e g mo da x y z p a b c d (aJ R) R.length K kd).mpr ?_)) (by simp[aq])
   dsimp only
   have fin:∀v,cC kd R.length (eY R) (dZ ng lg s e g mo da x y z) p (sZ a b c d) (cL ng lg s e g mo da x y z) g (bc (s++mo++da)) (mZ x y z) (cI a b c d p) (bH a b c d) a c=v->Q' (.int .i64 v):=λv h=>hQ _ (by rw[h])
   clear hQ
   have fin:=fin 18 (by unfold cC;grind)
   simp only[aD,reduceCtorEq,bA,bB,ne_eq]
   (repeat' first|exact trivial|refine⟨?_,?_⟩|intro)<;>first|contradiction|omega|assumption
 · refine bX iq (L:=aW) dE il (by simp) ak (ap λQ' hQ=>al ((No ng lg s e g mo da x y z p a b c d (aJ R) R.length K).mpr ?_)) (by simp[aq])
   dsimp only
   have fin:∀v,cC 1 R.length (eY R) (dZ ng lg s e g mo da x y z) p (sZ a b c d) (cL ng lg s e g mo da x y z) g (bc (s++mo++da)) (mZ x y z) (cI a b c d p) (bH a b c d) a c=v->Q' (.int .i64 v):=λv h=>hQ _ (by rw[h])
   clear hQ
   try simp only[mF]
   try simp only[mE]
   try simp only[mJ]
   have bl:Nat.ble (R.length*4) (R.length*4)=true:=aB.mpr (Nat.le_refl _)
   have ir:=dR hR
   simp only[cz,bv,cQ,dh,Nat.zero_add,bl,ir,Bool.and_true,Bool.true_and]
   generalize eY R=ch at *
   unfold cC at fin
   generalize dZ ng lg s e g mo da x y z=dz at *
   generalize sZ a b c d=sz at *
   generalize mZ x y z=mz at *
   generalize bc (s++mo++da)=xb at *
   generalize cL ng lg s e g mo da x y z=ef at *
   generalize cI a b c d p=ft at *
   generalize bH a b c d=rk at *
   simp only[aD,reduceCtorEq,bA,bB,ne_eq]
   (repeat' first|exact trivial|refine⟨?_,?_⟩|intro)<;>first|contradiction|omega|assumption|(apply fin;grind)|(exfalso;grind)|grind
 · refine bX iq (L:=aW) dE il (by simp) ak (ap λQ' hQ=>al ((KF ng lg s e g mo da x y z p a b c d (aJ R) R.length K).mpr ?_)) (by simp[aq])
   dsimp only
   have fin:∀v,cC 2 R.length (eY R) (dZ ng lg s e g mo da x y z) p (sZ a b c d) (cL ng lg s e g mo da x y z) g (bc (s++mo++da)) (mZ x y z) (cI a b c d p) (bH a b c d) a c=v->Q' (.int .i64 v):=λv h=>hQ _ (by rw[h])
   clear hQ
   try simp only[mF]
   try simp only[mE]
   try simp only[mJ]
   unfold cC at fin
   generalize dZ ng lg s e g mo da x y z=dz at *
   generalize sZ a b c d=sz at *
   generalize mZ x y z=mz at *
   generalize bc (s++mo++da)=xb at *
   generalize cL ng lg s e g mo da x y z=ef at *
   generalize cI a b c d p=ft at *
   generalize bH a b c d=rk at *
   simp only[aD,reduceCtorEq,bA,bB,ne_eq]
   (repeat' first|exact trivial|refine⟨?_,?_⟩|intro)<;>first|contradiction|omega|assumption|(apply fin;grind)|(exfalso;grind)|grind
 · refine bX iq (L:=aW) dE il (by simp) ak (ap λQ' hQ=>al ((M0 ng lg s e g mo da x y z p a b c d (aJ R) R.length K).mpr ?_)) (by simp[aq])
   dsimp only
   have fin:∀v,cC 3 R.length (eY R) (dZ ng lg s e g mo da x y z) p (sZ a b c d) (cL ng lg s e g mo da x y z) g (bc (s++mo++da)) (mZ x y z) (cI a b c d p) (bH a b c d) a c=v->Q' (.int .i64 v):=λv h=>hQ _ (by rw[h])
   clear hQ
   try simp only[mF]
   try simp only[mE]
   try simp only[mJ]
   unfold cC at fin
   generalize dZ ng lg s e g mo da x y z=dz at *
   generalize sZ a b c d=sz at *
   generalize mZ x y z=mz at *
   generalize bc (s++mo++da)=xb at *
   generalize cL ng lg s e g mo da x y z=ef at *
   generalize cI a b c d p=ft at *
   generalize bH a b c d=rk at *
   simp only[aD,reduceCtorEq,bA,bB,ne_eq]
   (repeat' first|exact trivial|refine⟨?_,?_⟩|intro)<;>first|contradiction|omega|assumption|(apply fin;grind)|(exfalso;grind)|grind
 · refine bX iq (L:=aW) dE il (by simp) ak (ap λQ' hQ=>al ((Ms ng lg s e g mo da x y z p a b c d (aJ R) R.length K).mpr ?_)) (by simp[aq])
   dsimp only
   have fin:∀v,cC 4 R.length (eY R) (dZ ng lg s e g mo da x y z) p (sZ a b c d) (cL ng lg s e g mo da x y z) g (bc (s++mo++da)) (mZ x y z) (cI a b c d p) (bH a b c d) a c=v->Q' (.int .i64 v):=λv h=>hQ _ (by rw[h])
   clear hQ
   try simp only[mF]
   try simp only[mE]
   try simp only[mJ]
   unfold cC at fin
   generalize dZ ng lg s e g mo da x y z=dz at *
   generalize sZ a b c d=sz at *
   generalize mZ x y z=mz at *
   generalize bc (s++mo++da)=xb at *
   generalize cL ng lg s e g mo da x y z=ef at *
   generalize cI a b c d p=ft at *
   generalize bH a b c d=rk at *
   simp only[aD,reduceCtorEq,bA,bB,ne_eq]
   (repeat' first|exact trivial|refine⟨?_,?_⟩|intro)<;>first|contradiction|omega|assumption|(apply fin;grind)|(exfalso;grind)|grind
 · refine bX iq (L:=aW) dE il (by simp) ak (ap λQ' hQ=>al ((N6 ng lg s e g mo da x y z p a b c d (aJ R) R.length K).mpr ?_)) (by simp[aq])
   dsimp only
   have fin:∀v,cC 5 R.length (eY R) (dZ ng lg s e g mo da x y z) p (sZ a b c d) (cL ng lg s e g mo da x y z) g (bc (s++mo++da)) (mZ x y z) (cI a b c d p) (bH a b c d) a c=v->Q' (.int .i64 v):=λv h=>hQ _ (by rw[h])
   clear hQ
   try simp only[mF]
   try simp only[mE]
   try simp only[mJ]
   unfold cC at fin
   generalize dZ ng lg s e g mo da x y z=dz at *
   generalize sZ a b c d=sz at *
   generalize mZ x y z=mz at *
   generalize bc (s++mo++da)=xb at *
   generalize cL ng lg s e g mo da x y z=ef at *
   generalize cI a b c d p=ft at *
   generalize bH a b c d=rk at *
   simp only[aD,reduceCtorEq,bA,bB,ne_eq]
   (repeat' first|exact trivial|refine⟨?_,?_⟩|intro)<;>first|contradiction|omega|assumption|(apply fin;grind)|(exfalso;grind)|grind
theorem Wb{ng lg:Bool}{s:List UInt8}{e g:Int}{mo da:List UInt8}{x y z p a b c d:Int}{kd:Int}(hs:s.length<=1000)(hm:mo.length<=1000)(hda:da.length<=1000)(he : -9223372036854775808<=e/\e<=9223372036854775807)(hg : -9223372036854775808<=g/\g<=9223372036854775807)(hb : -9223372036854775808<=b/\b<=9223372036854775807)(hd : -9223372036854775808<=d/\d<=9223372036854775807)(ha : -128<=a/\a<=127)(hc : -128<=c/\c<=127)(hx:0<=x/\x<=255)(hy:0<=y/\y<=255)(hz:0<=z/\z<=255)(hp:0<=p/\p<=255):bR Tryz.prog cfg 20 [.agg [.int .u8 kd,.nilslice,.bool ng,.bool lg,.str s,.int .i64 e,.int .i64 g,.str mo,.str da,.int .u8 x,.int .u8 y,.int .u8 z,.int .u8 p,.int .i8 a,.int .i64 b,.int .i8 c,.int .i64 d]] [] (.int .i64 (cC kd 0 0 (dZ ng lg s e g mo da x y z) p (sZ a b c d) (cL ng lg s e g mo da x y z) g (bc (s++mo++da)) (mZ x y z) (cI a b c d p) (bH a b c d) a c)) []:=by
 have hk:¬(1<=kd/\kd<=5)\/kd=1\/kd=2\/kd=3\/kd=4\/kd=5:=by omega
 rcases hk with hk|rfl|rfl|rfl|rfl|rfl
 · refine bX iq (L:=aW) (λx hx=>by cases hx) il (by simp) ak (ap λQ' hQ=>al ((Lr ng lg s e g mo da x y z p a b c d kd).mpr ?_)) (by simp[aq])
   dsimp only
   have fin:∀v,cC kd 0 0 (dZ ng lg s e g mo da x y z) p (sZ a b c d) (cL ng lg s e g mo da x y z) g (bc (s++mo++da)) (mZ x y z) (cI a b c d p) (bH a b c d) a c=v->Q' (.int .i64 v):=λv h=>hQ _ (by rw[h])
   clear hQ
   have fin:=fin 18 (by unfold cC;grind)
   simp only[aD,reduceCtorEq,bA,bB,ne_eq]
   (repeat' first|exact trivial|refine⟨?_,?_⟩|intro)<;>first|contradiction|omega|assumption
 · refine bX iq (L:=aW) (λx hx=>by cases hx) il (by simp) ak (ap λQ' hQ=>al ((K9 ng lg s e g mo da x y z p a b c d).mpr ?_)) (by simp[aq])
   dsimp only
   have fin:∀v,cC 1 0 0 (dZ ng lg s e g mo da x y z) p (sZ a b c d) (cL ng lg s e g mo da x y z) g (bc (s++mo++da)) (mZ x y z) (cI a b c d p) (bH a b c d) a c=v->Q' (.int .i64 v):=λv h=>hQ _ (by rw[h])
   clear hQ
   try simp only[mF]
   try simp only[mE]
   try simp only[mJ]
   unfold cC at fin
   generalize dZ ng lg s e g mo da x y z=dz at *
   generalize sZ a b c d=sz at *
   generalize mZ x y z=mz at *
   generalize bc (s++mo++da)=xb at *
   generalize cL ng lg s e g mo da x y z=ef at *
   generalize cI a b c d p=ft at *
   generalize bH a b c d=rk at *
   simp only[aD,reduceCtorEq,bA,bB,ne_eq]
   (repeat' first|exact trivial|refine⟨?_,?_⟩|intro)<;>first|contradiction|omega|assumption|(apply fin;grind)|(exfalso;grind)|grind
 · refine bX iq (L:=aW) (λx hx=>by cases hx) il (by simp) ak (ap λQ' hQ=>al ((NJ ng lg s e g mo da x y z p a b c d).mpr ?_)) (by simp[aq])
   dsimp only
   have fin:∀v,cC 2 0 0 (dZ ng lg s e g mo da x y z) p (sZ a b c d) (cL ng lg s e g mo da x y z) g (bc (s++mo++da)) (mZ x y z) (cI a b c d p) (bH a b c d) a c=v->Q' (.int .i64 v):=λv h=>hQ _ (by rw[h])
   clear hQ
   try simp only[mF]
   try simp only[mE]
   try simp only[mJ]
   unfold cC at fin
   generalize dZ ng lg s e g mo da x y z=dz at *
   generalize sZ a b c d=sz at *
   generalize mZ x y z=mz at *
   generalize bc (s++mo++da)=xb at *
   generalize cL ng lg s e g mo da x y z=ef at *
   generalize cI a b c d p=ft at *
   generalize bH a b c d=rk at *
   simp only[aD,reduceCtorEq,bA,bB,ne_eq]
   (repeat' first|exact trivial|refine⟨?_,?_⟩|intro)<;>first|contradiction|omega|assumption|(apply fin;grind)|(exfalso;grind)|grind
 · refine bX iq (L:=aW) (λx hx=>by cases hx) il (by simp) ak (ap λQ' hQ=>al ((My ng lg s e g mo da x y z p a b c d).mpr ?_)) (by simp[aq])
   dsimp only
   have fin:∀v,cC 3 0 0 (dZ ng lg s e g mo da x y z) p (sZ a b c d) (cL ng lg s e g mo da x y z) g (bc (s++mo++da)) (mZ x y z) (cI a b c d p) (bH a b c d) a c=v->Q' (.int .i64 v):=λv h=>hQ _ (by rw[h])
   clear hQ
   try simp only[mF]
   try simp only[mE]
   try simp only[mJ]
   unfold cC at fin
   generalize dZ ng lg s e g mo da x y z=dz at *
   generalize sZ a b c d=sz at *
   generalize mZ x y z=mz at *
   generalize bc (s++mo++da)=xb at *
   generalize cL ng lg s e g mo da x y z=ef at *
   generalize cI a b c d p=ft at *
   generalize bH a b c d=rk at *
   simp only[aD,reduceCtorEq,bA,bB,ne_eq]
   (repeat' first|exact trivial|refine⟨?_,?_⟩|intro)<;>first|contradiction|omega|assumption|(apply fin;grind)|(exfalso;grind)|grind
 · refine bX iq (L:=aW) (λx hx=>by cases hx) il (by simp) ak (ap λQ' hQ=>al ((Me ng lg s e g mo da x y z p a b c d).mpr ?_)) (by simp[aq])
   dsimp only
   have fin:∀v,cC 4 0 0 (dZ ng lg s e g mo da x y z) p (sZ a b c d) (cL ng lg s e g mo da x y z) g (bc (s++mo++da)) (mZ x y z) (cI a b c d p) (bH a b c d) a c=v->Q' (.int .i64 v):=λv h=>hQ _ (by rw[h])
   clear hQ
   try simp only[mF]
   try simp only[mE]
   try simp only[mJ]
   unfold cC at fin
   generalize dZ ng lg s e g mo da x y z=dz at *
   generalize sZ a b c d=sz at *
   generalize mZ x y z=mz at *
   generalize bc (s++mo++da)=xb at *
   generalize cL ng lg s e g mo da x y z=ef at *
   generalize cI a b c d p=ft at *
   generalize bH a b c d=rk at *
   simp only[aD,reduceCtorEq,bA,bB,ne_eq]
   (repeat' first|exact trivial|refine⟨?_,?_⟩|intro)<;>first|contradiction|omega|assumption|(apply fin;grind)|(exfalso;grind)|grind
 · refine bX iq (L:=aW) (λx hx=>by cases hx) il (by simp) ak (ap λQ' hQ=>al ((N5 ng lg s e g mo da x y z p a b c d).mpr ?_)) (by simp[aq])
   dsimp only
   have fin:∀v,cC 5 0 0 (dZ ng lg s e g mo da x y z) p (sZ a b c d) (cL ng lg s e g mo da x y z) g (bc (s++mo++da)) (mZ x y z) (cI a b c d p) (bH a b c d) a c=v->Q' (.int .i64 v):=λv h=>hQ _ (by rw[h])
   clear hQ
   try simp only[mF]
   try simp only[mE]
   try simp only[mJ]
   unfold cC at fin
   generalize dZ ng lg s e g mo da x y z=dz at *
   generalize sZ a b c d=sz at *
   generalize mZ x y z=mz at *
   generalize bc (s++mo++da)=xb at *
   generalize cL ng lg s e g mo da x y z=ef at *
   generalize cI a b c d p=ft at *
   generalize bH a b c d=rk at *
   simp only[aD,reduceCtorEq,bA,bB,ne_eq]
   (repeat' first|exact trivial|refine⟨?_,?_⟩|intro)<;>first|contradiction|omega|assumption|(apply fin;grind)|(exfalso;grind)|grind
def UX:lq:=λargs ws=>match args,ws with
 | [.agg [.int .u8 k,.slice 14 0 n K,.bool ng,.bool lg,.str s,.int .i64 e,.int .i64 g,.str mo,.str da,.int .u8 x,.int .u8 y,.int .u8 z,.int .u8 p,.int .i8 a,.int .i64 b,.int .i8 c,.int .i64 d]],[.cells w false none]=>some (aN [Nat.ble s.length 1000,Nat.ble mo.length 1000,Nat.ble da.length 1000,ae .i64 e,ae .i64 g,ae .i64 b,ae .i64 d,ae .i8 a,ae .i8 c,ae .u8 x,ae .u8 y,ae .u8 z,ae .u8 p,aZ w,Nat.beq (b8 w).length n,Nat.ble n 1000] (.ret (.int .i64 (cC k n (eY (b8 w)) (dZ ng lg s e g mo da x y z) p (sZ a b c d) (cL ng lg s e g mo da x y z) g (bc (s++mo++da)) (mZ x y z) (cI a b c d p) (bH a b c d) a c),[])))
 | [.agg [.int .u8 k,.nilslice,.bool ng,.bool lg,.str s,.int .i64 e,.int .i64 g,.str mo,.str da,.int .u8 x,.int .u8 y,.int .u8 z,.int .u8 p,.int .i8 a,.int .i64 b,.int .i8 c,.int .i64 d]],[]=>some (aN [Nat.ble s.length 1000,Nat.ble mo.length 1000,Nat.ble da.length 1000,ae .i64 e,ae .i64 g,ae .i64 b,ae .i64 d,ae .i8 a,ae .i8 c,ae .u8 x,ae .u8 y,ae .u8 z,ae .u8 p] (.ret (.int .i64 (cC k 0 0 (dZ ng lg s e g mo da x y z) p (sZ a b c d) (cL ng lg s e g mo da x y z) g (bc (s++mo++da)) (mZ x y z) (cI a b c d p) (bH a b c d) a c),[])))
 | _,_=>none
def Vr:dM:=λargs=>match args with
 | []=>some (.ret (.bool true))
 | _=>none
theorem gC:∀{w:List AV},aZ w=true->n4 (b8 w)
 | [],_=>λi hi=>absurd hi (Nat.not_lt_zero _)
 | .int .i8 a::.int .i64 b::.int .i8 c::.int .i64 d::r,h=>λi hi=>by
   simp only[aZ,Bool.and_eq_true,aQ,bA,bB]at h
   cases i with
   | zero=>exact⟨h.1,h.2.1⟩
   | succ i=>exact gC h.2.2 i (by simpa [b8]using hi)
theorem Pw{S:bq}(hS:az Tryz.prog cfg S):az Tryz.prog cfg (gu S 20 (gD 14 [4] UX)):=by
 refine bK hS (gy d4.lv zG λargs ws t r he hr=>?_)
 unfold UX at he
 split at he
 · rename_i k n K ng lg s e g mo da x y z p a b c d w
   cases he
   replace hr:=aI hr;obtain⟨⟨h1,h2,h3,h4,h5,h6,h7,h8,h9,h10,h11,h12,h13,h14,h15,h16,-⟩,hr⟩:=hr
   rw[aB]at h1 h2 h3
   rw[aQ]at h4 h5 h6 h7 h8 h9 h10 h11 h12 h13
   simp only[bA,bB]at h4 h5 h6 h7 h8 h9 h10 h11 h12 h13
   rw[bW]at h15
   rw[aB]at h16
   subst h15
   cases hr
   have key:=WG (ng:=ng) (lg:=lg) (s:=s) (e:=e) (g:=g) (mo:=mo) (da:=da) (x:=x) (y:=y) (z:=z) (p:=p) (a:=a) (b:=b) (c:=c) (d:=d) (kd:=k) (R:=b8 w) (K:=K) (gC h14) h16 h1 h2 h3 h4 h5 h6 h7 h8 h9 h10 h11 h12 h13
   rw[cA h14]at key
   exact⟨key,λx hx=>by cases hx⟩
 · rename_i k ng lg s e g mo da x y z p a b c d
   cases he
   replace hr:=aI hr;obtain⟨⟨h1,h2,h3,h4,h5,h6,h7,h8,h9,h10,h11,h12,h13,-⟩,hr⟩:=hr
   rw[aB]at h1 h2 h3
   rw[aQ]at h4 h5 h6 h7 h8 h9 h10 h11 h12 h13
   simp only[bA,bB]at h4 h5 h6 h7 h8 h9 h10 h11 h12 h13
   cases hr
   exact⟨Wb h1 h2 h3 h4 h5 h6 h7 h8 h9 h10 h11 h12 h13,λx hx=>by cases hx⟩
 · cases he
end Go.Ev
end
section
namespace Go.Ev
open Go Go.Proofs
set_option maxRecDepth 100000
abbrev iA(n:Int):AV:=.int .i64 n
abbrev dA(s:List UInt8)(e g:Int)(mo da:List UInt8):AV:=.agg [.bool false,.bool false,.str s,iA e,iA g,.str mo,.str da,.int .u8 0,.int .u8 0,.int .u8 0]
abbrev rA(a b c d:Int):AV:=.agg [.int .i8 a,iA b,.int .i8 c,iA d]
def Lf:List AV×AV:=([dA [48,48,48,48] 0 0 [48,50] []],.tuple [iA 0,.bool false])
theorem W4:dn tab cfg 10000 172 Lf.1 Lf.2=true:=by kernel_rfl
def K0:List AV×AV:=([.str [48,48,48,48],.str [88,48,49,50,51,52,53,54,55,56,57]],.bool true)
theorem VJ:dn tab cfg 10000 205 K0.1 K0.2=true:=by kernel_rfl
def KQ:List AV×AV:=([iA 0,iA 1],.tuple [iA 0,iA 0])
theorem WE:dn tab cfg 10000 213 KQ.1 KQ.2=true:=by kernel_rfl
def L_:List AV×AV:=([iA 0],iA 0)
theorem XE:dn tab cfg 10000 321 L_.1 L_.2=true:=by kernel_rfl
def KG:List AV×AV:=([iA 1],iA 1)
theorem WU:dn tab cfg 10000 321 KG.1 KG.2=true:=by kernel_rfl
def NW:List AV×AV:=([.str [48,48,48,88],.str [88,48,49,50,51,52,53,54,55,56,57]],.bool true)
theorem W6:dn tab cfg 10000 205 NW.1 NW.2=true:=by kernel_rfl
def Mn:List AV×AV:=([.str [48,48,48,50],.str [88,48,49,50,51,52,53,54,55,56,57]],.bool true)
theorem UH:dn tab cfg 10000 205 Mn.1 Mn.2=true:=by kernel_rfl
def KW:List AV×AV:=([iA 2,iA 1],.tuple [iA 2,iA 0])
theorem WO:dn tab cfg 10000 213 KW.1 KW.2=true:=by kernel_rfl
def LK:List AV×AV:=([iA 9],iA 3)
theorem Wf:dn tab cfg 10000 321 LK.1 LK.2=true:=by kernel_rfl
def Oj:List AV×AV:=([iA 10],iA 3)
theorem XA:dn tab cfg 10000 321 Oj.1 Oj.2=true:=by kernel_rfl
def GJ:List AV×AV:=([dA [48,48,48,49] 0 0 [48,49] []],.tuple [iA 0,.bool false])
theorem Qw:dn tab cfg 10000 172 GJ.1 GJ.2=true:=by kernel_rfl
def C_:List AV×AV:=([.str [48,48,48,49],.str [88,48,49,50,51,52,53,54,55,56,57]],.bool true)
theorem Pb:dn tab cfg 10000 205 C_.1 C_.2=true:=by kernel_rfl
def F9:List AV×AV:=([dA [48,48,48,48] 0 0 [] []],.int .u8 1)
theorem Pc:dn tab cfg 10000 242 F9.1 F9.2=true:=by kernel_rfl
def DK:List AV×AV:=([iA 1,iA 1],.tuple [iA 1,iA 0])
theorem RX:dn tab cfg 10000 213 DK.1 DK.2=true:=by kernel_rfl
def F4:List AV×AV:=([iA 2],iA 1)
theorem SU:dn tab cfg 10000 321 F4.1 F4.2=true:=by kernel_rfl
def Fo:List AV×AV:=([dA [48,48,48,48] 0 0 [48,49] []],.tuple [iA 0,.bool false])
theorem Tz:dn tab cfg 10000 172 Fo.1 Fo.2=true:=by kernel_rfl
def F5:List AV×AV:=([dA [48,48,48,48] 0 0 [48,51] []],.tuple [iA 0,.bool false])
theorem OG:dn tab cfg 10000 172 F5.1 F5.2=true:=by kernel_rfl
def Fs:List AV×AV:=([.str [48,51],iA 12],.bool true)
theorem O_:dn tab cfg 10000 174 Fs.1 Fs.2=true:=by kernel_rfl
def GF:List AV×AV:=([dA [48,48,48,48] 0 0 [48,52] []],.tuple [iA 0,.bool false])
theorem SV:dn tab cfg 10000 172 GF.1 GF.2=true:=by kernel_rfl
def DD:List AV×AV:=([.str [48,52],iA 12],.bool true)
theorem Qr:dn tab cfg 10000 174 DD.1 DD.2=true:=by kernel_rfl
def GG:List AV×AV:=([dA [48,48,48,48] 0 0 [48,50] [48,49]],.tuple [iA 0,.bool false])
theorem O5:dn tab cfg 10000 172 GG.1 GG.2=true:=by kernel_rfl
def GO:List AV×AV:=([dA [48,48,48,48] 0 0 [48,50] [48,57]],.tuple [iA 0,.bool false])
theorem PZ:dn tab cfg 10000 172 GO.1 GO.2=true:=by kernel_rfl
def Ea:List AV×AV:=([.str [48,57],iA 31],.bool true)
theorem Sb:dn tab cfg 10000 174 Ea.1 Ea.2=true:=by kernel_rfl
def Gj:List AV×AV:=([rA 0 0 0 30],iA 0)
theorem Rr:dn tab cfg 10000 57 Gj.1 Gj.2=true:=by kernel_rfl
def Fi:List AV×AV:=([rA 0 60 0 90],iA 0)
theorem Oy:dn tab cfg 10000 57 Fi.1 Fi.2=true:=by kernel_rfl
def Gl:List AV×AV:=([rA 0 31 0 39],iA 0)
theorem PK:dn tab cfg 10000 57 Gl.1 Gl.2=true:=by kernel_rfl
def F6:List AV×AV:=([rA 0 60 0 90,rA 0 0 0 30],iA 1)
theorem Rq:dn tab cfg 10000 105 F6.1 F6.2=true:=by kernel_rfl
def DU:List AV×AV:=([rA 0 31 0 39,rA 0 60 0 90],iA (-1))
theorem Ph:dn tab cfg 10000 105 DU.1 DU.2=true:=by kernel_rfl
def D7:List AV×AV:=([rA 0 31 0 39,rA 0 0 0 30],iA 1)
theorem QM:dn tab cfg 10000 105 D7.1 D7.2=true:=by kernel_rfl
def Ep:List AV×AV:=([.agg [.int .i8 0,iA 0],.agg [.int .i8 0,iA 31]],.agg [.int .i8 0,iA 0])
theorem OD:dn tab cfg 10000 82 Ep.1 Ep.2=true:=by kernel_rfl
def FZ:List AV×AV:=([.agg [.int .i8 0,iA 30],.agg [.int .i8 0,iA 39]],.agg [.int .i8 0,iA 39])
theorem QA:dn tab cfg 10000 83 FZ.1 FZ.2=true:=by kernel_rfl
def DZ:List AV×AV:=([rA 0 0 0 39],iA 0)
theorem Ql:dn tab cfg 10000 57 DZ.1 DZ.2=true:=by kernel_rfl
def FL:List AV×AV:=([rA 0 0 0 31],iA 0)
theorem RU:dn tab cfg 10000 57 FL.1 FL.2=true:=by kernel_rfl
def Eu:List AV×AV:=([iA 201],iA 49)
theorem Pf:dn tab cfg 10000 321 Eu.1 Eu.2=true:=by kernel_rfl
def G2:List AV×AV:=([iA 101],iA 25)
theorem RV:dn tab cfg 10000 321 G2.1 G2.2=true:=by kernel_rfl
def DA:List AV×AV:=([iA 51],iA 13)
theorem RS:dn tab cfg 10000 321 DA.1 DA.2=true:=by kernel_rfl
def F_:List AV×AV:=([iA 26],iA 7)
theorem Sh:dn tab cfg 10000 321 F_.1 F_.2=true:=by kernel_rfl
def Gh:List AV×AV:=([iA 13],iA 4)
theorem OC:dn tab cfg 10000 321 Gh.1 Gh.2=true:=by kernel_rfl
def Gi:List AV×AV:=([iA 7],iA 2)
theorem PT:dn tab cfg 10000 321 Gi.1 Gi.2=true:=by kernel_rfl
def Fw:List AV×AV:=([iA 4],iA 1)
theorem S0:dn tab cfg 10000 321 Fw.1 Fw.2=true:=by kernel_rfl
def Eh:List AV×AV:=([rA 0 0 0 0],iA 0)
theorem QY:dn tab cfg 10000 57 Eh.1 Eh.2=true:=by kernel_rfl
noncomputable def JY:rf:=(.node none (.node none (.node none .nil (.node none (.node none .nil (.node none (.node (some [FZ]) .nil .nil) .nil)) .nil)) (.node none (.node none (.node none (.node none (.node none .nil (.node none (.node (some [L_,KG,LK,Oj,F4,Eu,G2,DA,F_,Gh,Gi,Fw]) .nil .nil) .nil)) .nil) .nil) (.node none (.node none .nil (.node (some [F6,DU,D7]) .nil .nil)) (.node (some [Gj,Fi,Gl,DZ,FL,Eh]) .nil .nil))) (.node none (.node none .nil (.node none (.node none .nil (.node (some [KQ,KW,DK]) .nil .nil)) .nil)) (.node none (.node none (.node none .nil (.node (some [K0,NW,Mn,C_]) .nil .nil)) .nil) .nil)))) (.node none (.node none .nil (.node none .nil (.node none (.node none .nil (.node none (.node (some [Lf,GJ,Fo,F5,GF,GG,GO]) .nil .nil) .nil)) .nil))) (.node none (.node none (.node none .nil (.node none (.node (some [Ep]) .nil .nil) (.node none .nil (.node (some [F9]) .nil .nil)))) .nil) (.node none .nil (.node none (.node none .nil (.node none (.node (some [Fs,DD,Ea]) .nil .nil) .nil)) .nil)))))
noncomputable def gk:cx:=q8 cfg JY
theorem Fh(g:fV Tryz.prog tab cfg):i6 (λf l=>∀e∈l,ey Tryz.prog cfg f e.1 e.2) (λi=>i) JY:=⟨ai,⟨ai,⟨ai,trivial,⟨ai,⟨ai,trivial,⟨ai,⟨(a_ (ao (g.fact 10000 QA) bh)),trivial,trivial⟩,trivial⟩⟩,trivial⟩⟩,⟨ai,⟨ai,⟨ai,⟨ai,⟨ai,trivial,⟨ai,⟨(a_ (ao (g.fact 10000 XE) (ao (g.fact 10000 WU) (ao (g.fact 10000 Wf) (ao (g.fact 10000 XA) (ao (g.fact 10000 SU) (ao (g.fact 10000 Pf) (ao (g.fact 10000 RV) (ao (g.fact 10000 RS) (ao (g.fact 10000 Sh) (ao (g.fact 10000 OC) (ao (g.fact 10000 PT) (ao (g.fact 10000 S0) bh))))))))))))),trivial,trivial⟩,trivial⟩⟩,trivial⟩,trivial⟩,⟨ai,⟨ai,trivial,⟨(a_ (ao (g.fact 10000 Rq) (ao (g.fact 10000 Ph) (ao (g.fact 10000 QM) bh)))),trivial,trivial⟩⟩,⟨(a_ (ao (g.fact 10000 Rr) (ao (g.fact 10000 Oy) (ao (g.fact 10000 PK) (ao (g.fact 10000 Ql) (ao (g.fact 10000 RU) (ao (g.fact 10000 QY) bh))))))),trivial,trivial⟩⟩⟩,⟨ai,⟨ai,trivial,⟨ai,⟨ai,trivial,⟨(a_ (ao (g.fact 10000 WE) (ao (g.fact 10000 WO) (ao (g.fact 10000 RX) bh)))),trivial,trivial⟩⟩,trivial⟩⟩,⟨ai,⟨ai,⟨ai,trivial,⟨(a_ (ao (g.fact 10000 VJ) (ao (g.fact 10000 W6) (ao (g.fact 10000 UH) (ao (g.fact 10000 Pb) bh))))),trivial,trivial⟩⟩,trivial⟩,trivial⟩⟩⟩⟩,⟨ai,⟨ai,trivial,⟨ai,trivial,⟨ai,⟨ai,trivial,⟨ai,⟨(a_ (ao (g.fact 10000 W4) (ao (g.fact 10000 Qw) (ao (g.fact 10000 Tz) (ao (g.fact 10000 OG) (ao (g.fact 10000 SV) (ao (g.fact 10000 O5) (ao (g.fact 10000 PZ) bh)))))))),trivial,trivial⟩,trivial⟩⟩,trivial⟩⟩⟩,⟨ai,⟨ai,⟨ai,trivial,⟨ai,⟨(a_ (ao (g.fact 10000 OD) bh)),trivial,trivial⟩,⟨ai,trivial,⟨(a_ (ao (g.fact 10000 Pc) bh)),trivial,trivial⟩⟩⟩⟩,trivial⟩,⟨ai,trivial,⟨ai,⟨ai,trivial,⟨ai,⟨(a_ (ao (g.fact 10000 O_) (ao (g.fact 10000 Qr) (ao (g.fact 10000 Sb) bh)))),trivial,trivial⟩,trivial⟩⟩,trivial⟩⟩⟩⟩⟩
theorem Te(g:fV Tryz.prog tab cfg):fV Tryz.prog tab gk:=g.memo λf l h=>(Fh g).get f l h
end Go.Ev
end
