import Derived.Test.YtafekjglclnegaaGreatDoorP41
import Derived.Test.YtafekjglclnegaaGreatDoorP42
import Derived.Test.YtafekjglclnegaaGreatDoorP43
set_option linter.all false
section
set_option maxRecDepth 100000
set_option maxHeartbeats 4000000
namespace Go.Ev
open Go Go.Proofs
theorem Og(k p op f:Int)(ng:Bool)(n z0 z1 m d x y z fr ma k2 p2 op2 f2:Int)(ng2:Bool)(n2 z02 z12 m2 d2 x2 y2 z2 fr2 ma2 i:Int)(w:List AV)(l:Nat)(K:dv)(w2:List AV)(l2:Nat)(K2:dv){Q:AV->Prop}:aO Q (pW Y8 aW [.cells w false none,.cells w2 false none] 8 [.agg [.int .u8 k,.int .u8 p,.int .u8 op,.int .u8 f,.bool ng,.int .u16 n,.int .u8 z0,.int .u8 z1,.int .u8 m,.int .u8 d,.int .u8 x,.int .u8 y,.int .u8 z,.int .i16 fr,.int .u8 ma,.slice 14 0 l K],.agg [.int .u8 k2,.int .u8 p2,.int .u8 op2,.int .u8 f2,.bool ng2,.int .u16 n2,.int .u8 z02,.int .u8 z12,.int .u8 m2,.int .u8 d2,.int .u8 x2,.int .u8 y2,.int .u8 z2,.int .i16 fr2,.int .u8 ma2,.slice 15 0 l2 K2],.int .u8 i]) (b_ 111111111110233111111111662816238811028811111110238110143277422777777000562556474244000566671111023811014327742277777700056255647424400056667444420202033220702432777556255627742556255643777556255647424455666247556143244456425564444564066244227777400056244227777400056)=((λ(uj ul uo up:Bool)(ui uk um:Int)(u0:List AV)(uh:Nat)(u1 u2 u3 u4 u5 u6 u7 u9 ua ub uc ud ue uf ug un:Prop)=>(λ(uq us:Bool)(ut uv:List AV)(uu:Nat)(ur:Prop)=>(λ(uy uz uB:Bool)(uE:Int)(uD:List AV)(uA uC:Nat)(uw ux:Prop)=>(λ(uJ:Bool)(uK:Int)(uG:List AV)(uF uI:Nat)(uH:Prop)=>(λ(uL uT:Bool)(uO uR:List AV)(uN:List Rn)(uQ uU:Nat)(uM uP uS:Prop)=>(λ(u19:AV)(uV uW uX uY u10 u11 u12 u14 u15 u17 u1b:Bool)(uZ u13 u18 u1a:Prop)=>(λ(u1e u1g u1h u1i u1j u1l:Bool)(u1k:Int)(u1c u1d u1f u1m u1n:Prop)=>(λ(u1r u1t:List AV)(u1o u1p u1q u1s u1u u1v u1w:Prop)=>(λ(u1x u1y:List AV)=>(λ(u1z u1A u1B u1C u1D u1E:Bool)=>(λ(u1F u1G u1H u1I:Prop)=>(uw->u1/\u2/\u3/\u4/\u5/\u6/\u7/\u9/\ua/\ub/\uc/\ud/\ue/\uf/\(ur->(ux->ug/\(uy=true->ae .u8 k2=true/\ae .u8 p2=true/\ae .u8 op2=true/\ae .u8 f2=true/\ae .u16 n2=true/\ae .u8 z02=true/\ae .u8 z12=true/\ae .u8 m2=true/\ae .u8 d2=true/\ae .u8 x2=true/\ae .u8 y2=true/\ae .u8 z2=true/\ae .i16 fr2=true/\ae .u8 ma2=true/\(d_ ut=true->(uz=true->cN k2 f2 n2 z02 z12 m2 d2=true/\(uV=true->(uM->(u1c->(uH->(u1d->u1d/\(u1e=true->(uZ->(u1f->(uP->u1d/\uX=false/\(u11=true->un)/\(u11=false->uV=true/\uM/\u1c/\(Nat.ble 1 uu=true->uH/\(u12=true->(u13->uM/\(u14=true->u1c/\uH/\uH/\(u1o->u1o/\u1o/\u12=true/\u13/\uM/\u14=true/\u1c/\uH/\uH/\u1o/\u1g=false/\(u1p->u1p/\u1p/\(u1i=true->uM/\uZ/\u1c/\u1f/\uH/\uP/\u1p/\u1p/\u1p/\u1i=true/\uM/\uZ/\u1c/\u1f/\uH/\uP/\u1p/\u1p/\u1h=false/\(u1q->u1q/\u1q/\u1q/\u1q/\u1q/\u1q/\u1j=false/\not (aa uE uE)=false/\not (ab uE 0)=true/\ae .i64 i=true/\not (aa uE 0)=true/\(uS->(u18->(bM .i64 u19=true->(ae .i64 u1k=true->uS/\u18/\u1a/\(u1z=true->(aZ u1x=true->uM/\(u1A=true->u1c/\uH/\uH/\(u1F->u1F/\u1F/\uw/\u1/\u2/\u3/\u4/\u5/\u6/\u7/\u9/\ua/\ub/\uc/\ud/\ue/\uf/\ur/\ux/\ug/\u1F/\(u1l=true->uM/\uM/\u1c/\u1c/\uH/\uH/\u1F/\u1B=false/\u1m)/\u1s)/\(u1G->u1G/\u1G/\u1G/\u1G/\u1B=true/\un))/\(u1A=false->False))/\(aZ u1x=false->False))/\(u1z=false->False))/\(ae .i64 u1k=false->uS/\u18/\u1a/\(u1C=true->(aZ u1y=true->uM/\(u1D=true->u1c/\uH/\uH/\(u1H->u1H/\u1H/\uw/\u1/\u2/\u3/\u4/\u5/\u6/\u7/\u9/\ua/\ub/\uc/\ud/\ue/\uf/\ur/\ux/\ug/\u1H/\(u1l=true->uM/\uM/\u1c/\u1c/\uH/\uH/\u1H/\u1E=false/\u1m)/\u1s)/\(u1I->u1I/\u1I/\u1I/\u1I/\u1E=true/\un))/\(u1D=false->False))/\(aZ u1y=false->False))/\(u1C=false->False)))/\(bM .i64 u19=false->False))/\(uT=false->False))/\(ab 0 uK=false->False))/\(u1u->u1u/\u1u/\u1u/\u1u/\u1u/\u1u/\u1j=true/\un))/\(u1i=false->False))/\(u1v->u1v/\u1v/\u1v/\u1v/\u1v/\u1v/\u1v/\u1h=true/\un))/\(u1w->u1w/\u1w/\u1w/\u1g=true/\un))/\(u14=false->False))/\(aZ uR=false->False))/\(u12=false->False))/\(Nat.ble 1 uu=false->False)))/\(uJ=false->False))/\(u10=false->False))/\(aZ uO=false->False))/\(u1e=false->False))/\(u1n->u1n/\u1n/\uX=true/\un))/\(uB=false->False))/\(uW=false->False))/\(aZ uG=false->False))/\(uV=false->False))/\(uz=false->False))/\(d_ ut=false->False))/\(uy=false->False))/\(us=false->False))/\(d_ u0=false->False))/\(uq=false->False)) (not u1B=true) (not u1B=false) (not u1E=true) (not u1E=false)) (and (and true (and (Nat.ble uF (List.length u1r)) (aG 14 u1x))) uL) (Nat.beq (List.length (b8 u1x)) uu) (sF 1 1 0 0 uo up (b8 u1x) uN) (and (and true (and (Nat.ble uF (List.length u1t)) (aG 14 u1y))) uL) (Nat.beq (List.length (b8 u1y)) uu) (sF 1 1 0 0 uo up (b8 u1y) uN)) (aY u1r 0 uA) (aY u1t 0 uA)) (gP uG uU [AV.int .i64 u1k]) (gP uG uU [AV.int .i64 (IntKind.wrap .i64 u1k)]) (not u1g=true) (not u1h=true) (not u1j=true) (u1l=false->False) (not u1j=false) (not u1h=false) (not u1g=false)) (and true uY) (aa (bI u15) 0) (not u15) (and uV uY) (not (aL u17 (aa (bI u17) 1))) (and uV uL) (Int.add (bL u19) 1) (uW=true) (not uX=true) (u10=true) ((u1b=true->un)/\(u1b=false->Q (AV.bool true))) (not uX=false)) (List.getD uG uU (AV.tuple [])) (and true uL) (Nat.beq (List.length uN) uu) (not (aa (cC 1 uu (eY uN) uj 0 (sZ 0 0 0 0) uk 0 (bc []) (mZ 0 0 0) ul (bH 0 0 0 0) 0 0) 0)) (and (Nat.ble (HAdd.hAdd 0 uI) (List.length uD)) (aG 14 uO)) (Nat.beq (List.length (b8 uO)) uC) (not (aa (cC 1 uC (eY (b8 uO)) uj 0 (sZ 0 0 0 0) uk 0 (bc []) (mZ 0 0 0) ul (bH 0 0 0 0) 0 0) 0)) (and (and true (and (Nat.ble uF uQ) (aG 14 uR))) uL) (Nat.beq (List.length (b8 uR)) uu) (sF 1 1 0 0 uo up (b8 uR) uN) (sF 1 1 0 0 uo up uN (b8 uO)) (aa (bI (sF 1 1 0 0 uo up uN uN)) 0) (aZ uO=true) (aZ uR=true) (uT=true) (Nat.ble (HAdd.hAdd uU 1) uQ=true)) (and (Nat.ble uF (List.length uv)) (aG 14 uG)) (bm (Int.toNat uK) uu) (aY uD 0 uI) (aY uG 0 uA) (b8 uG) (List.length uG) (HAdd.hAdd (HAdd.hAdd (HAdd.hAdd 0 (HMul.hMul (Int.toNat uK) 4)) 0) 1) (aZ uG=true) (uJ=true) (ab 0 uK=true)) (Nat.ble uC 1000) (Int.tmod i uE) (aY uv 0 uA) (HAdd.hAdd 0 uA) (HMul.hMul uC 4) (uB=true)) (and true (and (Nat.ble (HAdd.hAdd 0 uh) (List.length w2)) (aG 14 ut))) (Nat.beq (List.length (gm ut)) l2) (Nat.ble uu 1000) (Int.ofNat uu) (aJ (bY fr2 ma2 (aa um 1) (aa um 2) (gm ut))) (HMul.hMul uu 4) (fu (bY fr2 ma2 (aa um 1) (aa um 2) (gm ut))) (uq=true) (us=true)) (and true (and (Nat.ble (HAdd.hAdd 0 (HMul.hMul l 2)) (List.length w)) (aG 14 u0))) (Nat.beq (List.length (gm u0)) l) (aY w2 0 uh) (aJ (bY fr ma (aa ui 1) (aa ui 2) (gm u0))) (fu (bY fr ma (aa ui 1) (aa ui 2) (gm u0))) (d_ u0=true)) (dZ false false [] 0 0 [] [] 0 0 0) (cI 0 0 0 0 0) (fW false false [] 0 0 [] [] 0 0 0 false false [] 0 0 [] [] 0 0 0) (fT 0 0 0 0 0 0 0 0) (HMod.hMod op 4) (cL false false [] 0 0 [] [] 0 0 0) (HMod.hMod op2 4) (aY w 0 (HMul.hMul l 2)) (HMul.hMul l2 2) (ae .u8 k=true) (ae .u8 p=true) (ae .u8 op=true) (ae .u8 f=true) (ae .u16 n=true) (ae .u8 z0=true) (ae .u8 z1=true) (ae .u8 m=true) (ae .u8 d=true) (ae .u8 x=true) (ae .u8 y=true) (ae .u8 z=true) (ae .i16 fr=true) (ae .u8 ma=true) (cN k f n z0 z1 m d=true) (Q (AV.bool false))):=by kernel_rfl
theorem LY(k p op f:Int)(ng:Bool)(n z0 z1 m d x y z fr ma k2 p2 op2 f2:Int)(ng2:Bool)(n2 z02 z12 m2 d2 x2 y2 z2 fr2 ma2 i:Int)(w:List AV)(l:Nat)(K:dv)(w2:List AV)(l2:Nat)(K2:dv){Q:AV->Prop}:aO Q (pW Y8 aW [.cells w false none,.cells w2 false none] 8 [.agg [.int .u8 k,.int .u8 p,.int .u8 op,.int .u8 f,.bool ng,.int .u16 n,.int .u8 z0,.int .u8 z1,.int .u8 m,.int .u8 d,.int .u8 x,.int .u8 y,.int .u8 z,.int .i16 fr,.int .u8 ma,.slice 14 0 l K],.agg [.int .u8 k2,.int .u8 p2,.int .u8 op2,.int .u8 f2,.bool ng2,.int .u16 n2,.int .u8 z02,.int .u8 z12,.int .u8 m2,.int .u8 d2,.int .u8 x2,.int .u8 y2,.int .u8 z2,.int .i16 fr2,.int .u8 ma2,.slice 15 0 l2 K2],.int .u8 i]) (b_ 111111111110233111116628162388102881111111023811014327742277777700056255647424400056667111102381101432774227777770005625564742440005666744442020203322070243227755625562775562556437775562556474244556662475561432200027027025564444564066344227777400056244227777400056)=((λ(ut uu uw ux:Bool)(ui um un uo up uq ur us:Int)(u0:List AV)(uj uk ul:List UInt8)(uh:Nat)(u1 u2 u3 u4 u5 u6 u7 u9 ua ub uc ud ue uf ug uv:Prop)=>(λ(uy uA uE:Bool)(uB uD:List AV)(uC:Nat)(uz:Prop)=>(λ(uH uI uK:Bool)(uM:Int)(uJ:Nat)(uF uG uL:Prop)=>(λ(uQ:Int)(uO:List AV)(uN:Nat)(uP:Prop)=>(λ(uR uX:Bool)(uV:List AV)(uT:List Rn)(uU uY:Nat)(uS uW:Prop)=>(λ(u19:AV)(uZ u10 u11 u12 u14 u15 u17 u1b:Bool)(u13 u18 u1a:Prop)=>(λ(u1f u1g u1h u1j:Bool)(u1i:Int)(u1c u1d u1e u1k u1l:Prop)=>(λ(u1p u1r:List AV)(u1m u1n u1o u1q u1s u1t u1u:Prop)=>(λ(u1v u1w:List AV)=>(λ(u1x u1y u1z u1A u1B u1C:Bool)=>(λ(u1D u1E u1F u1G:Prop)=>(uF->u1/\u2/\u3/\u4/\u5/\u6/\u7/\u9/\ua/\ub/\uc/\ud/\ue/\uf/\(uz->(uG->ug/\(uH=true->ae .u8 k2=true/\ae .u8 p2=true/\ae .u8 op2=true/\ae .u8 f2=true/\ae .u16 n2=true/\ae .u8 z02=true/\ae .u8 z12=true/\ae .u8 m2=true/\ae .u8 d2=true/\ae .u8 x2=true/\ae .u8 y2=true/\ae .u8 z2=true/\ae .i16 fr2=true/\ae .u8 ma2=true/\(d_ uB=true->(uI=true->cN k2 f2 n2 z02 z12 m2 d2=false/\(u1c->(uS->(u1d->(uP->(u1e->u1e/\Nat.ble (List.length uj) 1000=true/\Nat.ble (List.length uk) 1000=true/\Nat.ble (List.length ul) 1000=true/\ae .i64 um=true/\ae .i64 un=true/\ae .i64 uo=true/\ae .i8 up=true/\ae .i8 uq=true/\ae .u8 ur=true/\u1e/\u11=false/\(uE=true->uv)/\(uE=false->u1c/\uS/\u1d/\(uL->uP/\(u12=true->(u13->uS/\(u14=true->u1d/\uP/\uP/\(u1m->u1m/\u1m/\u12=true/\u13/\uS/\u14=true/\u1d/\uP/\uP/\u1m/\u1f=false/\(u1n->u1n/\u1n/\u1c/\uL/\uS/\u1d/\uP/\u1n/\u1n/\u1n/\u1c/\uL/\uS/\u1d/\uP/\u1n/\u1n/\u1g=false/\(u1o->u1o/\u1o/\u1o/\u1o/\u1o/\u1o/\u1h=false/\not (aa uM uM)=false/\not (ab uM 0)=true/\ae .i64 i=true/\not (aa uM 0)=true/\(uW->(u18->(bM .i64 u19=true->(ae .i64 u1i=true->uW/\u18/\u1a/\(u1x=true->(aZ u1v=true->uS/\(u1y=true->u1d/\uP/\uP/\(u1D->u1D/\u1D/\uF/\u1/\u2/\u3/\u4/\u5/\u6/\u7/\u9/\ua/\ub/\uc/\ud/\ue/\uf/\uz/\uG/\ug/\u1D/\(u1j=true->uS/\uS/\u1d/\u1d/\uP/\uP/\u1D/\u1z=false/\u1k)/\u1q)/\(u1E->u1E/\u1E/\u1E/\u1E/\u1z=true/\uv))/\(u1y=false->False))/\(aZ u1v=false->False))/\(u1x=false->False))/\(ae .i64 u1i=false->uW/\u18/\u1a/\(u1A=true->(aZ u1w=true->uS/\(u1B=true->u1d/\uP/\uP/\(u1F->u1F/\u1F/\uF/\u1/\u2/\u3/\u4/\u5/\u6/\u7/\u9/\ua/\ub/\uc/\ud/\ue/\uf/\uz/\uG/\ug/\u1F/\(u1j=true->uS/\uS/\u1d/\u1d/\uP/\uP/\u1F/\u1C=false/\u1k)/\u1q)/\(u1G->u1G/\u1G/\u1G/\u1G/\u1C=true/\uv))/\(u1B=false->False))/\(aZ u1w=false->False))/\(u1A=false->False)))/\(bM .i64 u19=false->False))/\(uX=false->False))/\(ab 0 uQ=false->False))/\(u1s->u1s/\u1s/\u1s/\u1s/\u1s/\u1s/\u1h=true/\uv))/\(u1t->u1t/\u1t/\u1t/\u1t/\u1t/\u1t/\u1t/\u1g=true/\uv))/\(u1u->u1u/\u1u/\u1u/\u1f=true/\uv))/\(u14=false->False))/\(aZ uV=false->False))/\(u12=false->False))/\(Nat.ble 1 uC=false->False)))/\(u1l->u1l/\u1l/\u11=true/\uv))/\(uK=false->False))/\(u10=false->False))/\(aZ uO=false->False))/\(uZ=false->False))/\(uI=false->False))/\(d_ uB=false->False))/\(uH=false->False))/\(uA=false->False))/\(d_ u0=false->False))/\(uy=false->False)) (not u1z=true) (not u1z=false) (not u1C=true) (not u1C=false)) (and (and true (and (Nat.ble uN (List.length u1p)) (aG 14 u1v))) uR) (Nat.beq (List.length (b8 u1v)) uC) (sF 1 1 0 0 uw ux (b8 u1v) uT) (and (and true (and (Nat.ble uN (List.length u1r)) (aG 14 u1w))) uR) (Nat.beq (List.length (b8 u1w)) uC) (sF 1 1 0 0 uw ux (b8 u1w) uT)) (aY u1p 0 uJ) (aY u1r 0 uJ)) (gP uO uY [AV.int .i64 u1i]) (gP uO uY [AV.int .i64 (IntKind.wrap .i64 u1i)]) (not u1f=true) (not u1g=true) (not u1h=true) (u1j=false->False) (not u1h=false) (not u1g=false) (not u1f=false)) (aa (bI u15) 0) (not u15) (not (aL u17 (aa (bI u17) 1))) (and uZ uR) (Int.add (bL u19) 1) (uZ=true) (u10=true) (not u11=true) ((u1b=true->uv)/\(u1b=false->Q (AV.bool true))) (not u11=false)) (List.getD uO uY (AV.tuple [])) (and true uR) (Nat.beq (List.length uT) uC) (not (aa (cC 1 uC (eY uT) (dZ false false [] 0 0 [] [] 0 0 0) 0 (sZ 0 0 0 0) (cL false false [] 0 0 [] [] 0 0 0) 0 (bc []) (mZ 0 0 0) (cI 0 0 0 0 0) (bH 0 0 0 0) 0 0) 0)) (and (and true (and (Nat.ble uN uU) (aG 14 uV))) uR) (Nat.beq (List.length (b8 uV)) uC) (sF 1 1 0 0 uw ux (b8 uV) uT) (sF 1 us 0 ur (fW false false [] 0 0 [] [] 0 0 0 ut uu uj um 0 uk ul 0 0 0) (fT 0 0 0 0 up un uq uo) uT []) (aa (bI (sF 1 1 0 0 uw ux uT uT)) 0) (aZ uV=true) (uX=true) (Nat.ble (HAdd.hAdd uY 1) uU=true)) (and (Nat.ble uN (List.length uD)) (aG 14 uO)) (bm (Int.toNat uQ) uC) (aY uO 0 uJ) (b8 uO) (List.length uO) (HAdd.hAdd (HAdd.hAdd (HAdd.hAdd 0 (HMul.hMul (Int.toNat uQ) 4)) 0) 1) (aZ uO=true) (ab 0 uQ=true)) (Int.tmod i uM) (aY uD 0 uJ) (HAdd.hAdd 0 uJ) (uK=true)) (and true (and (Nat.ble (HAdd.hAdd 0 uh) (List.length w2)) (aG 14 uB))) (Nat.beq (List.length (gm uB)) l2) (Nat.ble uC 1000) (Int.ofNat uC) (HMul.hMul uC 4) (uy=true) (uA=true) (Nat.ble 1 uC=true)) (and true (and (Nat.ble (HAdd.hAdd 0 (HMul.hMul l 2)) (List.length w)) (aG 14 u0))) (Nat.beq (List.length (gm u0)) l) (not (aa (cC us 0 0 (dZ ut uu uj um 0 uk ul 0 0 0) ur (sZ up un uq uo) (cL ut uu uj um 0 uk ul 0 0 0) 0 (bc (HAppend.hAppend (HAppend.hAppend uj uk) ul)) (mZ 0 0 0) (cI up un uq uo ur) (bH up un uq uo) up uq) 0)) (aY w2 0 uh) (aJ (bY fr ma (aa ui 1) (aa ui 2) (gm u0))) (fu (bY fr ma (aa ui 1) (aa ui 2) (gm u0))) (d_ u0=true)) (mw k2 f2 ng2 n2 z02 z12 m2 d2) (mr k2 f2 n2 z02 z12 m2 d2) (fW false false [] 0 0 [] [] 0 0 0 false false [] 0 0 [] [] 0 0 0) (fT 0 0 0 0 0 0 0 0) (HMod.hMod op 4) (fE k2 f2 n2 z02 z12 m2 d2) (fB k2 p2 op2 fr2) (fD k2 p2 op2 fr2 ma2) (fA k2 op2) (fC k2 op2) (fP k2 p2) (fK k2 f2 n2 z02 z12 m2 d2) (aY w 0 (HMul.hMul l 2)) (fS k2 f2 n2 z02 z12 m2 d2) (kz k2 f2 n2 z02 z12 m2 d2) (kw k2 f2 n2 z02 z12 m2 d2) (HMul.hMul l2 2) (ae .u8 k=true) (ae .u8 p=true) (ae .u8 op=true) (ae .u8 f=true) (ae .u16 n=true) (ae .u8 z0=true) (ae .u8 z1=true) (ae .u8 m=true) (ae .u8 d=true) (ae .u8 x=true) (ae .u8 y=true) (ae .u8 z=true) (ae .i16 fr=true) (ae .u8 ma=true) (cN k f n z0 z1 m d=true) (Q (AV.bool false))):=by kernel_rfl
theorem KU(k p op f:Int)(ng:Bool)(n z0 z1 m d x y z fr ma k2 p2 op2 f2:Int)(ng2:Bool)(n2 z02 z12 m2 d2 x2 y2 z2 fr2 ma2 i:Int)(w:List AV)(l:Nat)(K:dv)(w2:List AV)(l2:Nat)(K2:dv){Q:AV->Prop}:aO Q (pW Y8 aW [.cells w false none,.cells w2 false none] 8 [.agg [.int .u8 k,.int .u8 p,.int .u8 op,.int .u8 f,.bool ng,.int .u16 n,.int .u8 z0,.int .u8 z1,.int .u8 m,.int .u8 d,.int .u8 x,.int .u8 y,.int .u8 z,.int .i16 fr,.int .u8 ma,.slice 14 0 l K],.agg [.int .u8 k2,.int .u8 p2,.int .u8 op2,.int .u8 f2,.bool ng2,.int .u16 n2,.int .u8 z02,.int .u8 z12,.int .u8 m2,.int .u8 d2,.int .u8 x2,.int .u8 y2,.int .u8 z2,.int .i16 fr2,.int .u8 ma2,.slice 15 0 l2 K2],.int .u8 i]) (b_ 11111110233111116628162388110288153220702432277556255627422556255643202556255646666661432444564255642000270270066244227777400056344227777400056)=((λ(ud ue:Bool)(u5 u6 u7 u9 ua ub uc uf:Int)(u0:List AV)(u2 u3 u4:List UInt8)(u1:Nat)(ug:Prop)=>(λ(uh ui uk ul:Bool)(uj:List AV)=>(λ(um un ur us:Bool)(uq:List AV)(up:Nat)(uo ut:Prop)=>(λ(uv:Bool)(uu:Nat)(uw ux uy uz uA:Prop)=>(λ(uB:List AV)(uC:Prop)=>(λ(uD uF uG uH:Bool)(uE:Prop)=>(λ(uK:Bool)(uI uJ:Prop)=>(λ(uL uM:Prop)=>(uh=true->ae .u8 k=true/\ae .u8 p=true/\ae .u8 op=true/\ae .u8 f=true/\ae .u16 n=true/\ae .u8 z0=true/\ae .u8 z1=true/\ae .u8 m=true/\ae .u8 d=true/\ae .u8 x=true/\ae .u8 y=true/\ae .u8 z=true/\ae .i16 fr=true/\ae .u8 ma=true/\(d_ u0=true->(ui=true->cN k f n z0 z1 m d=false/\(um=true->ae .u8 k2=true/\ae .u8 p2=true/\ae .u8 op2=true/\ae .u8 f2=true/\ae .u16 n2=true/\ae .u8 z02=true/\ae .u8 z12=true/\ae .u8 m2=true/\ae .u8 d2=true/\ae .u8 x2=true/\ae .u8 y2=true/\ae .u8 z2=true/\ae .i16 fr2=true/\ae .u8 ma2=true/\(d_ uj=true->(un=true->cN k2 f2 n2 z02 z12 m2 d2=true/\Nat.ble (List.length u2) 1000=true/\Nat.ble (List.length u3) 1000=true/\Nat.ble (List.length u4) 1000=true/\ae .i64 u5=true/\ae .i64 u6=true/\ae .i64 u7=true/\ae .i8 u9=true/\ae .i8 ua=true/\ae .u8 ub=true/\(uo->uo/\(uI->(uE->(uJ->(uC->uo/\uk=false/\(uG=true->ug)/\(uG=false->(uw->uw/\uw/\uw/\ur=false/\(ux->ux/\ux/\uI/\(uy->uE/\uJ/\uC/\ux/\ux/\ux/\uI/\uy/\uE/\uJ/\uC/\ux/\ux/\us=false/\(uL->uL/\uL/\uL/\uL/\uL/\uL/\uK=false/\Q (AV.bool true))/\(uM->uM/\uM/\uM/\uM/\uM/\uM/\uK=true/\ug))/\(Nat.ble 1 up=false->False))/\(uz->uz/\uz/\uz/\uz/\uz/\uz/\uz/\us=true/\ug))/\(uA->uA/\uA/\uA/\ur=true/\ug)))/\(uv=false->False))/\(uF=false->False))/\(aZ uB=false->False))/\(uD=false->False))/\(ut->ut/\ut/\uk=true/\ug))/\(un=false->False))/\(d_ uj=false->False))/\(um=false->False))/\(ui=false->False))/\(d_ u0=false->False))/\(uh=false->False)) (not uK=true) (not uK=false)) (not (aL uH (aa (bI uH) 1))) (uD=true) (uF=true)) (and true (and (Nat.ble (HAdd.hAdd 0 uu) (List.length uq)) (aG 14 uB))) (Nat.beq (List.length (b8 uB)) up) (not (aa (cC 1 up (eY (b8 uB)) (dZ false false [] 0 0 [] [] 0 0 0) 0 (sZ 0 0 0 0) (cL false false [] 0 0 [] [] 0 0 0) 0 (bc []) (mZ 0 0 0) (cI 0 0 0 0 0) (bH 0 0 0 0) 0 0) 0)) (sF uc 1 ub 0 (fW ud ue u2 u5 0 u3 u4 0 0 0 false false [] 0 0 [] [] 0 0 0) (fT u9 u6 ua u7 0 0 0 0) [] (b8 uB)) (aZ uB=true)) (aY uq 0 uu) (uv=true)) (Nat.ble up 1000) (HMul.hMul up 4) (not ur=true) (not us=true) (Nat.ble 1 up=true) (not us=false) (not ur=false)) (and true (and (Nat.ble (HAdd.hAdd 0 u1) (List.length w2)) (aG 14 uj))) (Nat.beq (List.length (gm uj)) l2) (aa (bI ul) 0) (not ul) (aJ (bY fr2 ma2 (aa uf 1) (aa uf 2) (gm uj))) (fu (bY fr2 ma2 (aa uf 1) (aa uf 2) (gm uj))) (not uk=true) (not uk=false)) (and true (and (Nat.ble (HAdd.hAdd 0 (HMul.hMul l 2)) (List.length w)) (aG 14 u0))) (Nat.beq (List.length (gm u0)) l) (not (aa (cC uc 0 0 (dZ ud ue u2 u5 0 u3 u4 0 0 0) ub (sZ u9 u6 ua u7) (cL ud ue u2 u5 0 u3 u4 0 0 0) 0 (bc (HAppend.hAppend (HAppend.hAppend u2 u3) u4)) (mZ 0 0 0) (cI u9 u6 ua u7 ub) (bH u9 u6 ua u7) u9 ua) 0)) (sF uc uc ub ub (fW ud ue u2 u5 0 u3 u4 0 0 0 ud ue u2 u5 0 u3 u4 0 0 0) (fT u9 u6 ua u7 u9 u6 ua u7) [] []) (aY w2 0 u1)) (mw k f ng n z0 z1 m d) (mr k f n z0 z1 m d) (fE k f n z0 z1 m d) (fB k p op fr) (fD k p op fr ma) (fA k op) (fC k op) (fP k p) (fK k f n z0 z1 m d) (HMod.hMod op2 4) (aY w 0 (HMul.hMul l 2)) (fS k f n z0 z1 m d) (kz k f n z0 z1 m d) (kw k f n z0 z1 m d) (HMul.hMul l2 2) (Q (AV.bool false))):=by kernel_rfl
theorem L9(k p op f:Int)(ng:Bool)(n z0 z1 m d x y z fr ma k2 p2 op2 f2:Int)(ng2:Bool)(n2 z02 z12 m2 d2 x2 y2 z2 fr2 ma2 i:Int)(w:List AV)(l:Nat)(K:dv)(w2:List AV)(l2:Nat)(K2:dv){Q:AV->Prop}:aO Q (pW Y8 aW [.cells w false none,.cells w2 false none] 8 [.agg [.int .u8 k,.int .u8 p,.int .u8 op,.int .u8 f,.bool ng,.int .u16 n,.int .u8 z0,.int .u8 z1,.int .u8 m,.int .u8 d,.int .u8 x,.int .u8 y,.int .u8 z,.int .i16 fr,.int .u8 ma,.slice 14 0 l K],.agg [.int .u8 k2,.int .u8 p2,.int .u8 op2,.int .u8 f2,.bool ng2,.int .u16 n2,.int .u8 z02,.int .u8 z12,.int .u8 m2,.int .u8 d2,.int .u8 x2,.int .u8 y2,.int .u8 z2,.int .i16 fr2,.int .u8 ma2,.slice 15 0 l2 K2],.int .u8 i]) (b_ 11111110233166281623881028815322070243220255625562025562556432025562556466666614322000270270255642000270270066344227777400056344227777400056)=((λ(ud ue up uq:Bool)(u5 u6 u7 u9 ua ub uc ui uj uk ul um un uo:Int)(u0:List AV)(u2 u3 u4 uf ug uh:List UInt8)(u1:Nat)(ur:Prop)=>(λ(us ut uv uw ux uy:Bool)(uu:List AV)=>(λ(uz uA uC uD uE:Bool)(uB uF:Prop)=>(λ(uG uH uI uJ uK uL:Prop)=>(us=true->ae .u8 k=true/\ae .u8 p=true/\ae .u8 op=true/\ae .u8 f=true/\ae .u16 n=true/\ae .u8 z0=true/\ae .u8 z1=true/\ae .u8 m=true/\ae .u8 d=true/\ae .u8 x=true/\ae .u8 y=true/\ae .u8 z=true/\ae .i16 fr=true/\ae .u8 ma=true/\(d_ u0=true->(ut=true->cN k f n z0 z1 m d=false/\(uz=true->ae .u8 k2=true/\ae .u8 p2=true/\ae .u8 op2=true/\ae .u8 f2=true/\ae .u16 n2=true/\ae .u8 z02=true/\ae .u8 z12=true/\ae .u8 m2=true/\ae .u8 d2=true/\ae .u8 x2=true/\ae .u8 y2=true/\ae .u8 z2=true/\ae .i16 fr2=true/\ae .u8 ma2=true/\(d_ uu=true->(uA=true->cN k2 f2 n2 z02 z12 m2 d2=false/\Nat.ble (List.length u2) 1000=true/\Nat.ble (List.length u3) 1000=true/\Nat.ble (List.length u4) 1000=true/\ae .i64 u5=true/\ae .i64 u6=true/\ae .i64 u7=true/\ae .i8 u9=true/\ae .i8 ua=true/\ae .u8 ub=true/\(uB->uB/\Nat.ble (List.length uf) 1000=true/\Nat.ble (List.length ug) 1000=true/\Nat.ble (List.length uh) 1000=true/\ae .i64 ui=true/\ae .i64 uj=true/\ae .i64 uk=true/\ae .i8 ul=true/\ae .i8 um=true/\ae .u8 un=true/\uB/\uv=false/\(uw=true->ur)/\(uw=false->(uG->uG/\uG/\uG/\uC=false/\(uH->uH/\uH/\uH/\uH/\uH/\uH/\uH/\uD=false/\(uI->uI/\uI/\uI/\uI/\uI/\uI/\uE=false/\Q (AV.bool true))/\(uJ->uJ/\uJ/\uJ/\uJ/\uJ/\uJ/\uE=true/\ur))/\(uK->uK/\uK/\uK/\uK/\uK/\uK/\uK/\uD=true/\ur))/\(uL->uL/\uL/\uL/\uC=true/\ur)))/\(uF->uF/\uF/\uv=true/\ur))/\(uA=false->False))/\(d_ uu=false->False))/\(uz=false->False))/\(ut=false->False))/\(d_ u0=false->False))/\(us=false->False)) (not uC=true) (not uD=true) (not uE=true) (not uE=false) (not uD=false) (not uC=false)) (and true (and (Nat.ble (HAdd.hAdd 0 u1) (List.length w2)) (aG 14 uu))) (Nat.beq (List.length (gm uu)) l2) (aa (bI ux) 0) (not ux) (not (aL uy (aa (bI uy) 1))) (not uv=true) (not uv=false)) (and true (and (Nat.ble (HAdd.hAdd 0 (HMul.hMul l 2)) (List.length w)) (aG 14 u0))) (Nat.beq (List.length (gm u0)) l) (not (aa (cC uc 0 0 (dZ ud ue u2 u5 0 u3 u4 0 0 0) ub (sZ u9 u6 ua u7) (cL ud ue u2 u5 0 u3 u4 0 0 0) 0 (bc (HAppend.hAppend (HAppend.hAppend u2 u3) u4)) (mZ 0 0 0) (cI u9 u6 ua u7 ub) (bH u9 u6 ua u7) u9 ua) 0)) (not (aa (cC uo 0 0 (dZ up uq uf ui 0 ug uh 0 0 0) un (sZ ul uj um uk) (cL up uq uf ui 0 ug uh 0 0 0) 0 (bc (HAppend.hAppend (HAppend.hAppend uf ug) uh)) (mZ 0 0 0) (cI ul uj um uk un) (bH ul uj um uk) ul um) 0)) (sF uc uc ub ub (fW ud ue u2 u5 0 u3 u4 0 0 0 ud ue u2 u5 0 u3 u4 0 0 0) (fT u9 u6 ua u7 u9 u6 ua u7) [] []) (sF uc uo ub un (fW ud ue u2 u5 0 u3 u4 0 0 0 up uq uf ui 0 ug uh 0 0 0) (fT u9 u6 ua u7 ul uj um uk) [] []) (aY w2 0 u1)) (mw k f ng n z0 z1 m d) (mr k f n z0 z1 m d) (mw k2 f2 ng2 n2 z02 z12 m2 d2) (mr k2 f2 n2 z02 z12 m2 d2) (fE k f n z0 z1 m d) (fB k p op fr) (fD k p op fr ma) (fA k op) (fC k op) (fP k p) (fK k f n z0 z1 m d) (fE k2 f2 n2 z02 z12 m2 d2) (fB k2 p2 op2 fr2) (fD k2 p2 op2 fr2 ma2) (fA k2 op2) (fC k2 op2) (fP k2 p2) (fK k2 f2 n2 z02 z12 m2 d2) (aY w 0 (HMul.hMul l 2)) (fS k f n z0 z1 m d) (kz k f n z0 z1 m d) (kw k f n z0 z1 m d) (fS k2 f2 n2 z02 z12 m2 d2) (kz k2 f2 n2 z02 z12 m2 d2) (kw k2 f2 n2 z02 z12 m2 d2) (HMul.hMul l2 2) (Q (AV.bool false))):=by kernel_rfl
theorem Vj{q0 q1:FP}{i:Int}{gs:List (Int×Int)}{K:dv}{gs2:List (Int×Int)}{K2:dv}(k0:q0.ok)(k1:q1.ok)(hi:0<=i/\i<=255)(hin:∀p∈gs,(0<=p.1/\p.1<=255)/\(0<=p.2/\p.2<=255))(hin2:∀p∈gs2,(0<=p.1/\p.1<=255)/\(0<=p.2/\p.2<=255)):bR Tryz.prog cfg 8 [q0.a (.slice 14 0 gs.length K),q1.a (.slice 15 0 gs2.length K2),.int .u8 i] [.cells (eZ gs) false none,.cells (eZ gs2) false none] (.bool true) []:=by
 have r0:=pX k0
 have r1:=pX k1
 have hw:∀x∈[aw.cells (eZ gs) false none,aw.cells (eZ gs2) false none],eG 14 x:=λx hx=>by
  simp only[List.mem_cons,List.not_mem_nil,or_false]at hx;rcases hx with rfl|rfl<;>exact dw jm
 obtain⟨k,p,op,f,ng,n,z0,z1,m,d,x,y,z,fr,ma⟩:=q0
 obtain⟨k2,p2,op2,f2,ng2,n2,z02,z12,m2,d2,x2,y2,z2,fr2,ma2⟩:=q1
 dsimp only at r0 r1
 obtain⟨ka,_,ko,_,_,kz0,kz1,_,_,_,_,_,kf,km⟩:=k0
 obtain⟨la,_,lo,_,_,lz0,lz1,_,_,_,_,_,lf,lm⟩:=k1
 dsimp only at ka ko kz0 kz1 kf km la lo lz0 lz1 lf lm
 show bR Tryz.prog cfg 8 [.agg [.int .u8 k,.int .u8 p,.int .u8 op,.int .u8 f,.bool ng,.int .u16 n,.int .u8 z0,.int .u8 z1,.int .u8 m,.int .u8 d,.int .u8 x,.int .u8 y,.int .u8 z,.int .i16 fr,.int .u8 ma,.slice 14 0 gs.length K],.agg [.int .u8 k2,.int .u8 p2,.int .u8 op2,.int .u8 f2,.bool ng2,.int .u16 n2,.int .u8 z02,.int .u8 z12,.int .u8 m2,.int .u8 d2,.int .u8 x2,.int .u8 y2,.int .u8 z2,.int .i16 fr2,.int .u8 ma2,.slice 15 0 gs2.length K2],.int .u8 i] [.cells (eZ gs) false none,.cells (eZ gs2) false none] (.bool true) []
 cases ho:cN k f n z0 z1 m d with
 | true=>
   cases ho2:cN k2 f2 n2 z02 z12 m2 d2 with
   | true=>
     refine bX iC (L:=aW) hw iz (by simp) ak (ap λQ' hQ=>al ((Og k p op f ng n z0 z1 m d x y z fr ma k2 p2 op2 f2 ng2 n2 z02 z12 m2 d2 x2 y2 z2 fr2 ma2 i (eZ gs) gs.length K (eZ gs2) gs2.length K2).mpr ?_)) (by simp[aq])
     dsimp only
     have hQ:=hQ _ rfl
     try dsimp only
     simp only[iw hin]
     simp only[iw hin2]
     have hs:=dO (fr:=fr) (b1:=aa (op%4) 1) (b2:=aa (op%4) 2) (gs:=gs) km.1 hin
     have hm:=cE (b1:=aa (op%4) 1) (b2:=aa (op%4) 2) (gs:=gs) kf km hin
     have hl:=@dL fr ma (aa (op%4) 1) (aa (op%4) 2) gs
     generalize bY fr ma (aa (op%4) 1) (aa (op%4) 2) gs=R at *
     have hs2:=dO (fr:=fr2) (b1:=aa (op2%4) 1) (b2:=aa (op2%4) 2) (gs:=gs2) lm.1 hin2
     have hm2:=cE (b1:=aa (op2%4) 1) (b2:=aa (op2%4) 2) (gs:=gs2) lf lm hin2
     have hl2:=@dL fr2 ma2 (aa (op2%4) 1) (aa (op2%4) 2) gs2
     generalize bY fr2 ma2 (aa (op2%4) 1) (aa (op2%4) 2) gs2=R2 at *
     simp only[fO,cz,bv]
     simp only[iE hi hm hl,kU,jo]
     simp only[r0,r1,ho,ho2,iD hs hm hl,iE hi hm hl,bv,iD hs2 hm2 hl2,List.append_nil,ep,th,qe,hJ,gb,reduceCtorEq,false_implies,true_implies,and_true,true_and,Bool.not_true,Bool.not_false,Bool.and_true,Bool.true_and,cond_true,cond_false]
     exact hQ
   | false=>
     refine bX iC (L:=aW) hw iz (by simp) ak (ap λQ' hQ=>al ((LY k p op f ng n z0 z1 m d x y z fr ma k2 p2 op2 f2 ng2 n2 z02 z12 m2 d2 x2 y2 z2 fr2 ma2 i (eZ gs) gs.length K (eZ gs2) gs2.length K2).mpr ?_)) (by simp[aq])
     dsimp only
     have hQ:=hQ _ rfl
     try dsimp only
     simp only[iw hin]
     simp only[iw hin2]
     have hs:=dO (fr:=fr) (b1:=aa (op%4) 1) (b2:=aa (op%4) 2) (gs:=gs) km.1 hin
     have hm:=cE (b1:=aa (op%4) 1) (b2:=aa (op%4) 2) (gs:=gs) kf km hin
     have hl:=@dL fr ma (aa (op%4) 1) (aa (op%4) 2) gs
     generalize bY fr ma (aa (op%4) 1) (aa (op%4) 2) gs=R at *
     simp only[fO,cz,bv]
     simp only[iE hi hm hl,kU,jo]
     have n2f:=@iB k2 p2 op2 f2 ng2 n2 z02 z12 m2 d2 fr2 ma2 lz0 lz1 la lf lm ho2
     simp only[r0,r1,ho,ho2,iD hs hm hl,iE hi hm hl,bv,n2f,List.append_nil,ep,th,qe,hJ,gb,reduceCtorEq,false_implies,true_implies,and_true,true_and,Bool.not_true,Bool.not_false,Bool.and_true,Bool.true_and,cond_true,cond_false]
     exact hQ
 | false=>
   cases ho2:cN k2 f2 n2 z02 z12 m2 d2 with
   | true=>
     refine bX iC (L:=aW) hw iz (by simp) ak (ap λQ' hQ=>al ((KU k p op f ng n z0 z1 m d x y z fr ma k2 p2 op2 f2 ng2 n2 z02 z12 m2 d2 x2 y2 z2 fr2 ma2 i (eZ gs) gs.length K (eZ gs2) gs2.length K2).mpr ?_)) (by simp[aq])
     dsimp only
     have hQ:=hQ _ rfl
     try dsimp only
     simp only[iw hin]
     simp only[iw hin2]
     have hs2:=dO (fr:=fr2) (b1:=aa (op2%4) 1) (b2:=aa (op2%4) 2) (gs:=gs2) lm.1 hin2
     have hm2:=cE (b1:=aa (op2%4) 1) (b2:=aa (op2%4) 2) (gs:=gs2) lf lm hin2
     have hl2:=@dL fr2 ma2 (aa (op2%4) 1) (aa (op2%4) 2) gs2
     generalize bY fr2 ma2 (aa (op2%4) 1) (aa (op2%4) 2) gs2=R2 at *
     simp only[fO,cz,bv]
     have n1:=@iB k p op f ng n z0 z1 m d fr ma kz0 kz1 ka kf km ho
     simp only[r0,r1,ho,ho2,n1,iD hs2 hm2 hl2,List.append_nil,ep,th,qe,hJ,gb,reduceCtorEq,false_implies,true_implies,and_true,true_and,Bool.not_true,Bool.not_false,Bool.and_true,Bool.true_and,cond_true,cond_false]
     exact hQ
   | false=>
     refine bX iC (L:=aW) hw iz (by simp) ak (ap λQ' hQ=>al ((L9 k p op f ng n z0 z1 m d x y z fr ma k2 p2 op2 f2 ng2 n2 z02 z12 m2 d2 x2 y2 z2 fr2 ma2 i (eZ gs) gs.length K (eZ gs2) gs2.length K2).mpr ?_)) (by simp[aq])
     dsimp only
     have hQ:=hQ _ rfl
     try dsimp only
     simp only[iw hin]
     simp only[iw hin2]
     have n1:=@iB k p op f ng n z0 z1 m d fr ma kz0 kz1 ka kf km ho
     have n2f:=@iB k2 p2 op2 f2 ng2 n2 z02 z12 m2 d2 fr2 ma2 lz0 lz1 la lf lm ho2
     simp only[r0,r1,ho,ho2,n1,n2f,ep,th,qe,hJ,gb,reduceCtorEq,false_implies,true_implies,and_true,true_and,Bool.not_true,Bool.not_false,Bool.and_true,Bool.true_and,cond_true,cond_false]
     exact hQ
end Go.Ev
end
section
set_option maxRecDepth 100000
set_option maxHeartbeats 1000000
namespace Go.Ev
open Go Go.Proofs
theorem calls8{H:Type}{enc:TypeId×Value->H}{w:World}{r:Reach}{b0:Nat}{v0 v1 v2:Value}{d0 d1:DataW H}{p0 p1:List MemPlace}(hL:laidMetH Tryz.prog mM w)(h0:Value.okWide Tryz.prog w r b0 81 v0)(h1:Value.okWide Tryz.prog w r b0 81 v1)(h2:Value.okWide Tryz.prog w r b0 5 v2)(t0:DataW.Trod enc Tryz.prog w 0 (λ_=>true) true 81 v0 d0 p0)(t1:DataW.Trod enc Tryz.prog w 0 (λ_=>true) true 81 v1 d1 p1) :
 Calls Tryz.prog 8 #[v0,v1,v2] w λe w'=>e=.returned (.bool true)/\RowKit.Below w.heap.size w w':=by
 obtain⟨m,hi⟩:=Gs (Gz hL)
 obtain⟨q0,s0,rfl,k0,c0⟩:=FC h0
 obtain⟨q1,s1,rfl,k1,c1⟩:=FC h1
 have h2':Cell.okWide Tryz.prog w r b0 5 v2:=by
  unfold Value.okWide at h2
  rw[Tryz.underlying5]at h2
  exact h2
 obtain⟨i,rfl,hr⟩:=dS Tryz.underlying5 h2'
 have hr:0<=i/\i<=255:=hr
 rcases nk Tryz.underlying79 c0 with rfl|⟨bk,o,len,cap,cc,el,fz,rfl,hh⟩
 · rcases nk Tryz.underlying79 c1 with rfl|⟨bk1,o1,len1,cap1,cc1,el1,fz1,rfl,hh1⟩
   · have:=nF Tryz.func8 (by kernel_rfl) (by kernel_rfl) (WP (i:=i) k0 k1 hr) (xf (L:=[]) (ws:=[]) hi ⟨rfl,λj x l hx=>by cases hx⟩) (by simp[FP.a,eI,bG,aq])
     simpa only[FP.a,FP.v,ar,aj]using this
   · obtain⟨gs,hg,hin,hc⟩:=xk t1
     have:=nF Tryz.func8 (by kernel_rfl) (by kernel_rfl) (WA (i:=i) (gs:=gs) (K:=.known cap1) k0 k1 hr hin) (xf (L:=[⟨bk1,o1,0⟩]) hi ⟨rfl,λj x l hx hl=>by
      match j with
      | 0=>cases hx;cases hl;exact qD ⟨cc1,el1,fz1,hh1⟩ hc
      | j+1=>cases hx⟩) (by simp[FP.a,eI,bG,aq,d6])
     rw[hg]at this
     simpa only[FP.a,FP.v,ar,aj,gI,An,Nat.add_zero]using this
 · obtain⟨gs,hg,hin,hc⟩:=xk t0
   rcases nk Tryz.underlying79 c1 with rfl|⟨bk1,o1,len1,cap1,cc1,el1,fz1,rfl,hh1⟩
   · have:=nF Tryz.func8 (by kernel_rfl) (by kernel_rfl) (Wt (i:=i) (gs:=gs) (K:=.known cap) k0 k1 hr hin) (xf (L:=[⟨bk,o,0⟩]) hi ⟨rfl,λj x l hx hl=>by
      match j with
      | 0=>cases hx;cases hl;exact qD ⟨cc,el,fz,hh⟩ hc
      | j+1=>cases hx⟩) (by simp[FP.a,eI,bG,aq,d6])
     rw[hg]at this
     simpa only[FP.a,FP.v,ar,aj,gI,An,Nat.add_zero]using this
   · obtain⟨gs1,hg1,hin1,hc1⟩:=xk t1
     have:=nF Tryz.func8 (by kernel_rfl) (by kernel_rfl) (Vj (i:=i) (gs:=gs) (gs2:=gs1) (K:=.known cap) (K2:=.known cap1) k0 k1 hr hin hin1) (xf (L:=[⟨bk,o,0⟩,⟨bk1,o1,0⟩]) hi ⟨rfl,λj x l hx hl=>by
      match j with
      | 0=>cases hx;cases hl;exact qD ⟨cc,el,fz,hh⟩ hc
      | 1=>cases hx;cases hl;exact qD ⟨cc1,el1,fz1,hh1⟩ hc1
      | j+2=>cases hx⟩) (by simp[FP.a,eI,bG,aq,d6])
     rw[hg,hg1]at this
     simpa only[FP.a,FP.v,ar,aj,gI,An,Lu,Nat.add_zero]using this
end Go.Ev
end
section
namespace Go.Proofs.YtafekjglclnegaaGreatDoor.fnFamiliesCopy
open Go.ChangeShapes Go.WideShapes Go.ChangeAt Go.RowKit
set_option maxRecDepth 100000
theorem recP:Tryz.prog.readableRec 81=true:=by kernel_rfl
theorem rowP:81 < Tryz.prog.types.size:=of_decide_eq_true (by kernel_rfl)
theorem rec5:Tryz.prog.readableRec 5=true:=by kernel_rfl
theorem row5:5 < Tryz.prog.types.size:=of_decide_eq_true (by kernel_rfl)
theorem contract(H:Type)(enc:TypeId×Value->H)(W:World)(args:Array Value)(ds gs:List (DataW H))(before:List MemPlace)(r:Reach)(b0:Nat)
 (hval:∀(j:Nat) (t:TypeId) (v:Value),Tryz.f8.params[j]? = some t->args[j]? = some v->Value.okWide Tryz.prog W r b0 t v)
 (hW:DataW.Whole enc Tryz.prog Tryz.f8.params.toList Rows.familiesCopySpec.vars false W args.toList ds gs before) (hL:laidMetH Tryz.prog Rows.familiesCopyRow.laid W) :
 Calls Tryz.prog 8 args W λe W'=>∃v,e=.returned v/\Rows.familiesCopySpec.post enc Tryz.prog Tryz.f8 false true false false W args v W':=by
 have hW':=hW
 obtain⟨p,q,hA0,hV,rfl,hfz,hnd⟩:=hW
 have hA:DataW.TrodAll enc Tryz.prog W 0 (λ_=>true) true Tryz.f8.params.toList args.toList ds p:=hA0
 rw[Tryz.params8]at hA hval
 obtain⟨v0,v1,v2,d0,d1,d2,p0,p1,p2,rfl,rfl,rfl,hd0,hd1,hd2⟩:=trodAll_three hA
 obtain⟨rfl,rfl⟩:=trodVars_none hV
 clear hA0
 refine(Go.Ev.calls8 hL (hval 0 81 v0 rfl rfl) (hval 1 81 v1 rfl rfl) (hval 2 5 v2 rfl rfl) hd0 hd1).mono λe W' ⟨he,hb⟩=>?_
 subst he
 refine⟨_,rfl,Go.Ev.post_of_below (pa:=p0++(p1++p2)) (pv:=[]) hW' (λ_ _ _=>trodAll_cons_mk (shut_bool Tryz.underlying4 _) trodAll_mk0) (λsp hsp=>?_) (λ_ _=>rfl) (by simp) hb (ok_one (by kernel_rfl) rfl (okWide_bool_mk Tryz.underlying4 _))⟩
 rw[Tryz.params8]
 have same:∀x,x∈(p0++p1++p2)++[]->W.sameAt W' x:=λx hx=>Go.Ev.below_place hb (hW'.lt x (by simpa using hx))
 exact trodAll_mk3 (Go.WideElems.Trod_stays Go.Ev.laidOut recP rowP hd0 (λx hx=>same x (by simp[hx])) λx hx=>hsp x (by simp[hx])) (Go.WideElems.Trod_stays Go.Ev.laidOut recP rowP hd1 (λx hx=>same x (by simp[hx])) λx hx=>hsp x (by simp[hx])) (Go.WideElems.Trod_stays Go.Ev.laidOut rec5 row5 hd2 (λx hx=>same x (by simp[hx])) λx hx=>hsp x (by simp[hx]))
noncomputable abbrev Fa(x:Program->FuncId->Func->ChangeSpec->OpenClaim->Bool):Bool:=x Tryz.prog 8 Tryz.f8 Rows.familiesCopySpec Rows.familiesCopyRow
theorem fa0:(Fa λP f fn s c=>c.wf (OpenSpec.ofChange s))=true:=by kernel_rfl
theorem fa1:(Fa λP f fn s c=>laidOutB P)=true:=by kernel_rfl
theorem fa2:(Fa λP f fn s c=>mapsRowed P)=true:=by kernel_rfl
theorem fa3:(Fa λP f fn s c=>fn.params.all (P.readableRec ·))=true:=by kernel_rfl
theorem fa4:(Fa λP f fn s c=>namedTie P c.named s.vars)=true:=by kernel_rfl
theorem fa5:(Fa λP f fn s c=>(c.stops==[]))=true:=by kernel_rfl
theorem fa6:(Fa λP f fn s c=>(P.stops==[]))=true:=by kernel_rfl
theorem fa7:(Fa λP f fn s c=>(c.knobs==[]))=true:=by kernel_rfl
theorem fa8:(Fa λP f fn s c=>(P.stopKnobs==[]))=true:=by kernel_rfl
theorem fa9:(Fa λP f fn s c=>(c.inPlace==P.inPlace f))=true:=by kernel_rfl
theorem fa10:(Fa λP f fn s c=>(c.unfollowed==P.unfollowed f))=true:=by kernel_rfl
theorem fa11:(Fa λP f fn s c=>(c.recurses==P.recurses f))=true:=by kernel_rfl
theorem fa12:(Fa λP f fn s c=>(c.named==P.varsNamed f))=true:=by kernel_rfl
theorem fa13:(Fa λP f fn s c=>(c.maps==(fn.params.toList++s.plain.varTypes P).any (P.mapsRec ·)))=true:=by kernel_rfl
theorem fa14:(Fa λP f fn s c=>(c.ifaces==(fn.params.toList++s.plain.varTypes P).any (P.ifacesRec ·)))=true:=by kernel_rfl
theorem fa15:(Fa λP f fn s c=>(c.mapsOut==P.mapsAmong fn.resultTypes.toList))=true:=by kernel_rfl
theorem fa16:(Fa λP f fn s c=>(c.loops==(fn.params.toList++s.plain.varTypes P).any (P.loopsFrom ·)))=true:=by kernel_rfl
theorem fa17:(Fa λP f fn s c=>(c.wideKeys==(fn.params.toList++s.plain.varTypes P++fn.resultTypes.toList).any (P.wideKeysFrom ·)))=true:=by kernel_rfl
theorem fa18:(Fa λP f fn s c=>s.vars.all (P.varReadable ·))=true:=by kernel_rfl
theorem fa19:(Fa λP f fn s c=>fn.resultTypes.all (λt=>P.readableRec t&&decide (t<P.types.size)))=true:=by kernel_rfl
theorem fa20:(Fa λP f fn s c=>(c.ifacesOut==fn.resultTypes.toList.any (P.ifacesRec ·)))=true:=by kernel_rfl
theorem fa21:(Fa λP f fn s c=>(c.loopsOut==fn.resultTypes.toList.any (P.loopsFrom ·)))=true:=by kernel_rfl
theorem fa22:(Fa λP f fn s c=>(c.plainKeys==P.plainKeys))=true:=by kernel_rfl
theorem fa23:(Fa λP f fn s c=>c.shortTexts.isNone)=true:=by kernel_rfl
theorem fa24:(Fa λP f fn s c=>P.stopsHeard)=true:=by kernel_rfl
theorem fa25:(Fa λP f fn s c=>P.mayEnter)=true:=by kernel_rfl
theorem fa26:(Fa λP f fn s c=>(c.lifted==P.liftsFinal))=true:=by kernel_rfl
theorem fa27:(Fa λP f fn s c=>(P.make==some c.make))=true:=by kernel_rfl
theorem fa28:(Fa λP f fn s c=>(c.kinds==(if c.domain.isEmpty then[]else fn.params.toList.map λt=>match P.underlying t with|some (.int k)=>some k|_=>none)))=true:=by kernel_rfl
theorem fa29:(Fa λP f fn s c=>(c.pinned==c.pinnedBy))=true:=by kernel_rfl
theorem fa30:(Fa λP f fn s c=>(c.veiled==(fn.params.toList++s.plain.varTypes P++fn.resultTypes.toList).any (P.veiledRec ·)))=true:=by kernel_rfl
theorem fa31:(Fa λP f fn s c=>c.veiledFits P fn.params.toList (fn.params.toList++s.plain.varTypes P++fn.resultTypes.toList))=true:=by kernel_rfl
theorem facts:joinedFacts Tryz.prog 8 Tryz.f8 Rows.familiesCopySpec Rows.familiesCopyRow=true:=by
 unfold joinedFacts
 simp only[Bool.and_eq_true]
 exact⟨⟨⟨⟨⟨⟨⟨⟨⟨⟨⟨⟨⟨⟨⟨⟨⟨⟨⟨⟨⟨⟨⟨⟨⟨⟨⟨⟨⟨⟨⟨fa0,fa1⟩,fa2⟩,fa3⟩,fa4⟩,fa5⟩,fa6⟩,fa7⟩,fa8⟩,fa9⟩,fa10⟩,fa11⟩,fa12⟩,fa13⟩,fa14⟩,fa15⟩,fa16⟩,fa17⟩,fa18⟩,fa19⟩,fa20⟩,fa21⟩,fa22⟩,fa23⟩,fa24⟩,fa25⟩,fa26⟩,fa27⟩,fa28⟩,fa29⟩,fa30⟩,fa31⟩
end Go.Proofs.YtafekjglclnegaaGreatDoor.fnFamiliesCopy
end
