import Derived.Test.YtcffhjfdlflbgaaGreatDoorP29
set_option linter.all false
open Bool renaming not->ν,and->σ,false->ω,not_eq_true'->Β,not_true->Γ,true->Δ
open HAppend renaming hAppend->ξ
open Int renaming ofNat->ο,ofNat_eq_natCast->χ
open HAdd renaming hAdd->π
open List renaming getD->ς,length->τ,nil->υ
open HMul renaming hMul->ψ
open Nat renaming ble->Α
set_option linter.all false
set_option maxRecDepth 100000
set_option maxHeartbeats 4000000
namespace Go.Ev
open Go Go.Proofs
variable{Q:AV->Prop}{S:aQ}{n:Nat}{k:Int}{ea la:Bool}{K:fg}
structure Da where
 ng:Bool
 lg:Bool
 s:List UInt8
 e:Int
 g:Int
 mo:List UInt8
 da:List UInt8
 a:Int
 b:Int
 c:Int
def Da.cs(x:Da):List AV:=[.b x.ng,.b x.lg,.e x.s,.a .i64 x.e,.a .i64 x.g,.e x.mo,.e x.da,.a .u8 x.a,.a .u8 x.b,.a .u8 x.c]
def CC:dP:=λ
 | [.g [.b ng,.b lg,.e s,.a .i64 e,.a .i64 g,.e mo,.e da,.a .u8 a,.a .u8 b,.a .u8 c]]=>some (aH [wa ng lg s e g mo da a b c] (.a0 (.a .u8 (bif aa (aR mo) 0 then dq mo da else 0))))
 | _=>none
def mV(s:List UInt8)(ng:Bool)(e g:Int)(mo da:List UInt8)(s':List UInt8)(ng':Bool)(e' g':Int)(mo' da':List UInt8):Bool:=eX s g mo da&&(eX s' g' mo' da'&&(aa (dq mo da) (dq mo' da')&&ab (aP ng s e mo da) (aP ng' s' e' mo' da')))
def Cz:dP:=λ
 | [.g [.b ng,.b lg,.e s,.a .i64 e,.a .i64 g,.e mo,.e da,.a .u8 a,.a .u8 b,.a .u8 c],.g [.b ng',.b lg',.e s',.a .i64 e',.a .i64 g',.e mo',.e da',.a .u8 a',.a .u8 b',.a .u8 c']]=>some (aH [wa ng lg s e g mo da a b c,wa ng' lg' s' e' g' mo' da' a' b' c',mV s ng e g mo da s' ng' e' g' mo' da'] (.a0 (.b true)))
 | _=>none
def TD:aQ:=pX (aK (aK (aK gZ 265 yc) 259 CC) 205 xY) 92 FB
def tz:dP:=λ
 | [.g [.b ng,.b lg,.e s,.a .i64 e,.a .i64 g,.e mo,.e da,.a .u8 a,.a .u8 b,.a .u8 c]]=>some (aH [wa ng lg s e g mo da a b c] (.a0 (.b (cK s g mo da))))
 | _=>none
def sFv:dP:=λ
 | [.g [.b ng,.b lg,.e s,.a .i64 e,.a .i64 g,.e mo,.e da,.a .u8 a,.a .u8 b,.a .u8 c]]=>some (aH [wa ng lg s e g mo da a b c] (.a0 (.a .i64 0)))
 | _=>none
def TF:aQ:=aK (aK (aK gZ 42 sFv) 262 Cz) 264 tz
def mB(r k:Bool)(va va' or dz no:Bool):Bool:=va&&((bif r then va'&&or else dz)&&(!k || no))
def Cu:dP:=λ
 | [.g [.b ng,.b lg,.e s,.a .i64 e,.a .i64 g,.e mo,.e da,.a .u8 a,.a .u8 b,.a .u8 c,.b r,.b ng',.b lg',.e s',.a .i64 e',.a .i64 g',.e mo',.e da',.a .u8 a',.a .u8 b',.a .u8 c'],.a .u8 k]=>some (aH [aa k 3 || aa k 4,mB r (aa k 4) (wa ng lg s e g mo da a b c) (wa ng' lg' s' e' g' mo' da' a' b' c') (mV s ng e g mo da s' ng' e' g' mo' da') (dZ ng' lg' s' e' g' mo' da' a' b' c') (cK s g mo da)] (.a0 (.a .i64 0)))
 | _=>none
theorem Px(ng lg:Bool)(s:List UInt8)(e g:Int)(mo da:List UInt8)(a b c:Int):gG Q (pT TC jE 259 [.g [.b ng,.b lg,.e s,.a .i64 e,.a .i64 g,.e mo,.e da,.a .u8 a,.a .u8 b,.a .u8 c]]) (bE 1140141402277006)=(Α (τ s) 1000/\(Α (τ mo) 1000/\(Α (τ da) 1000/\(af .i64 e/\(af .i64 g/\(af .u8 a/\(af .u8 b/\(af .u8 c/\((ν (ae da υ)->Q (AV.a .u8 3))/\(ν (ae da υ)=false->((ν (aa (aR mo) 0)->Q (AV.a .u8 0))/\(ν (aa (aR mo) 0)=false->((ν (ae mo υ)->Q (AV.a .u8 2))/\(ν (ae mo υ)=false->Q (AV.a .u8 1))))))))))))))):=κ
def Pi(x y:Da):gG Q (pT TD jE 262 [.g x.cs,.g y.cs]) (bE 1052000620061432202062202062322020622006)=(wa x.1 x.2 x.3 x.4 x.5 x.6 x.7 x.8 x.9 x.10/\(ν (ν (eX x.3 x.5 x.6 x.7))/\(ν (ν (eX x.3 x.5 x.6 x.7))/\(wa y.1 y.2 y.3 y.4 y.5 y.6 y.7 y.8 y.9 y.10/\(ν (ν (eX x.3 x.5 x.6 x.7))/\(ν (eX x.3 x.5 x.6 x.7)=false/\(ν (ν (eX y.3 y.5 y.6 y.7))/\(ν (ν (eX y.3 y.5 y.6 y.7))/\(wa x.1 x.2 x.3 x.4 x.5 x.6 x.7 x.8 x.9 x.10/\(ν (ν (eX y.3 y.5 y.6 y.7))/\(ν (ν (eX y.3 y.5 y.6 y.7))/\(wa y.1 y.2 y.3 y.4 y.5 y.6 y.7 y.8 y.9 y.10/\(ν (ν (eX y.3 y.5 y.6 y.7))/\(ν (eX y.3 y.5 y.6 y.7)=false/\((ν (aa (cond (aa (aR x.6) 0) (dq x.6 x.7) 0) (cond (aa (aR y.6) 0) (dq y.6 y.7) 0))->Q (AV.b ω))/\(ν (aa (cond (aa (aR x.6) 0) (dq x.6 x.7) 0) (cond (aa (aR y.6) 0) (dq y.6 y.7) 0))=false->(fL x.1 x.2 x.3 x.4 x.5 x.6 x.7 x.8 x.9 x.10/\(fL y.1 y.2 y.3 y.4 y.5 y.6 y.7 y.8 y.9 y.10/\Q (AV.b (ab (gc 0 (aP x.1 x.3 x.4 x.6 x.7) 0 (aP y.1 y.3 y.4 y.6 y.7)) 0)))))))))))))))))))):=ε
theorem OE(ng lg:Bool)(s:List UInt8)(e g:Int)(mo da:List UInt8)(a b c:Int):gG Q (pT TC jE 264 [.g [.b ng,.b lg,.e s,.a .i64 e,.a .i64 g,.e mo,.e da,.a .u8 a,.a .u8 b,.a .u8 c]]) (bE 13812202242002020006)=(Α (π (τ s) (τ mo)) 1000000/\(Α (π (τ (ξ s mo)) (τ da)) 1000000/\(Α (τ (ξ (ξ s mo) da)) 1000000/\((ν (eA (ξ (ξ s mo) da))->(ν (eA (ξ (ξ s mo) da))/\(ν (eA (ξ (ξ s mo) da))/\(ν (eA (ξ (ξ s mo) da))/\(ν (eA (ξ (ξ s mo) da))/\Q (AV.b (aa g 0)))))))/\(ν (eA (ξ (ξ s mo) da))=false->(ν (eA (ξ (ξ s mo) da))=false/\(ν (eA (ξ (ξ s mo) da))=false/\(ν (eA (ξ (ξ s mo) da))=false/\(ν (eA (ξ (ξ s mo) da))=false/\Q (AV.b ω)))))))))):=κ
def Pc(x y:Da)(k:Int):gG Q (pT TF jE 207 [.g (x.cs++.b false::y.cs),.a .u8 k]) (bE 1000338556635566200063310010470206225566355662006322040)=((ν (aa k 3)->(ν (aa k 3)/\(ν (aa k 3)/\(ν (aa k 4)=false/\(wa x.1 x.2 x.3 x.4 x.5 x.6 x.7 x.8 x.9 x.10/\(ν (σ (σ (bQ y.1 ω) (σ (bQ y.2 ω) (σ (ae y.3 υ) (σ (aa y.4 0) (σ (aa y.5 0) Δ))))) (σ (ae y.6 υ) (σ (ae y.7 υ) (σ (σ (aa y.8 0) (σ (aa y.9 0) (σ (aa y.10 0) Δ))) Δ))))=false/\(aa k 4/\(aa k 4/\(aa k 4/\(wa x.1 x.2 x.3 x.4 x.5 x.6 x.7 x.8 x.9 x.10/\(aa k 4/\(aa k 4/\((ν (cK x.3 x.5 x.6 x.7)->Q (AV.a .i64 10))/\(ν (cK x.3 x.5 x.6 x.7)=false->Q (AV.a .i64 0)))))))))))))))/\(ν (aa k 3)=false->(ν (aa k 3)=false/\(ν (aa k 3)=false/\(wa x.1 x.2 x.3 x.4 x.5 x.6 x.7 x.8 x.9 x.10/\(ν (σ (σ (bQ y.1 ω) (σ (bQ y.2 ω) (σ (ae y.3 υ) (σ (aa y.4 0) (σ (aa y.5 0) Δ))))) (σ (ae y.6 υ) (σ (ae y.7 υ) (σ (σ (aa y.8 0) (σ (aa y.9 0) (σ (aa y.10 0) Δ))) Δ))))=false/\(aa k 4=false/\(aa k 4=false/\(aa k 4=false/\(aa k 4=false/\(aa k 4=false/\Q (AV.a .i64 0)))))))))))):=ε
def Pd(x y:Da)(k:Int):gG Q (pT TF jE 207 [.g (x.cs++.b true::y.cs),.a .u8 k]) (bE 100033800067056666620562000633100104702062200067056666620562006322040)=((ν (aa k 3)->(ν (aa k 3)/\(ν (aa k 3)/\(ν (aa k 4)=false/\(wa x.1 x.2 x.3 x.4 x.5 x.6 x.7 x.8 x.9 x.10/\(wa y.1 y.2 y.3 y.4 y.5 y.6 y.7 y.8 y.9 y.10/\(wa x.1 x.2 x.3 x.4 x.5 x.6 x.7 x.8 x.9 x.10/\(wa y.1 y.2 y.3 y.4 y.5 y.6 y.7 y.8 y.9 y.10/\(mV x.3 x.1 x.4 x.5 x.6 x.7 y.3 y.1 y.4 y.5 y.6 y.7/\(aa k 4/\(aa k 4/\(aa k 4/\(wa x.1 x.2 x.3 x.4 x.5 x.6 x.7 x.8 x.9 x.10/\(aa k 4/\(aa k 4/\((ν (cK x.3 x.5 x.6 x.7)->Q (AV.a .i64 10))/\(ν (cK x.3 x.5 x.6 x.7)=false->Q (AV.a .i64 0))))))))))))))))))/\(ν (aa k 3)=false->(ν (aa k 3)=false/\(ν (aa k 3)=false/\(wa x.1 x.2 x.3 x.4 x.5 x.6 x.7 x.8 x.9 x.10/\(wa y.1 y.2 y.3 y.4 y.5 y.6 y.7 y.8 y.9 y.10/\(wa x.1 x.2 x.3 x.4 x.5 x.6 x.7 x.8 x.9 x.10/\(wa y.1 y.2 y.3 y.4 y.5 y.6 y.7 y.8 y.9 y.10/\(mV x.3 x.1 x.4 x.5 x.6 x.7 y.3 y.1 y.4 y.5 y.6 y.7/\(aa k 4=false/\(aa k 4=false/\(aa k 4=false/\(aa k 4=false/\(aa k 4=false/\Q (AV.a .i64 0))))))))))))))):=ε
theorem alv:aY tab 259=some (dH 259,aL 259):=κ
theorem alu:aY tab 262=some (dH 262,aL 262):=κ
theorem akH:aY tab 264=some (dH 264,aL 264):=κ
theorem ahI:aY tab 207=some (dH 207,aL 207):=κ
theorem anx(hS:ak Tryz.prog cfg S):ak Tryz.prog cfg (aK S 259 CC):=by
 refine au hS λargs t v he hv=>?_;unfold CC at he;split at he
 . rename_i ng lg s e g mo da a b c;cases he;replace hv:=aF hv;obtain⟨⟨h1,-⟩,hv⟩:=hv;cases hv;obtain⟨h6,i1,i2,i3,i4,i5,h0⟩:=yn.1 h1;obtain⟨lm,ld,hds⟩:=aaX h0;obtain⟨n1,n2,n3,-⟩:=abT h6 lm ld;refine kA aga (L:=jE) alv θ ai (bb λQ' hQ=>cg ((Px ng lg s e g mo da a b c).mpr ?_)) (by simp[aC]);have hQ:=hQ _ rfl;unfold dq at hQ;rw[n1,n2,n3,i1,i2,i3,i4,i5];cases hd:ae da []<;>rw[hd]at hQ<;>cases hs:aa (aR mo) 0<;>rw[hs]at hQ<;>cases hm:ae mo []<;>rw[hm]at hQ<;>first|(rw[(hds hd).2]at hs;cases hs;done)|(rw[(hds hd).1]at hm;cases hm;done)|(simp only[zAj]at hQ;simp;exact hQ)
 . cases he
theorem anL(hS:ak Tryz.prog cfg S):ak Tryz.prog cfg (aK S 264 tz):=by
 refine au hS λargs t v he hv=>?_;unfold tz at he;split at he
 . rename_i ng lg s e g mo da a b c;cases he;replace hv:=aF hv;obtain⟨⟨h1,-⟩,hv⟩:=hv;cases hv;obtain⟨h6,i1,i2,i3,i4,i5,h0⟩:=yn.1 h1;obtain⟨lm,ld,-⟩:=aaX h0;obtain⟨-,-,-,n4,n5,n6⟩:=abT h6 lm ld;refine kA aga (L:=jE) akH θ ai (bb λQ' hQ=>cg ((OE ng lg s e g mo da a b c).mpr ?_)) (by simp[aC]);have hQ:=hQ _ rfl;unfold cK at hQ;rw[n4,n5,n6];cases hx:eA (s++mo++da)<;>rw[hx]at hQ<;>simp only[Γ,Bool.not_false,Bool.true_and,Bool.false_and]at hQ<;>simp[hQ]
 . cases he
theorem aib(hS:ak Tryz.prog cfg S):ak Tryz.prog cfg (aK S 42 sFv):=by
 refine au hS λargs t v he hv=>?_;unfold sFv at he;split at he
 . rename_i ng lg s e g mo da a b c;cases he;replace hv:=aF hv;obtain⟨⟨h1,-⟩,hv⟩:=hv;cases hv;obtain⟨h6,i1,i2,i3,i4,i5,h0⟩:=yn.1 h1;obtain⟨lm,ld,-⟩:=aaX h0;rw[aE]at i1 i2 i3 i4 i5;have:=zQ (Nat.le_trans h6 ζ) δ δ i1 i2 i3 i4 i5 (ng:=ng) (lg:=lg) (s:=s) (mo:=mo) (da:=da);grind
 grind
theorem qd{ng lg:Bool}{s:List UInt8}{e g:Int}{mo da:List UInt8}{a b c:Int}(h:wa ng lg s e g mo da a b c)(hn:cK s g mo da):fL ng lg s e g mo da a b c=true:=by
 grind [yn,cK,ao,U9]
theorem qc{s:List UInt8}{g:Int}{mo da:List UInt8}:eX s g mo da=true↔cK s g mo da/\aa (aR mo) 0=true:=by grind [eX]
theorem amC:ak Tryz.prog cfg TD:=eG (ajG (anx (aj2 aW))) NE
theorem amK(hS:ak Tryz.prog cfg S):ak Tryz.prog cfg (aK S 262 Cz):=by
 refine au hS λargs t v he hv=>?_;unfold Cz at he;split at he
 . rename_i ng lg s e g mo da a b c ng' lg' s' e' g' mo' da' a' b' c';cases he;replace hv:=aF hv;obtain⟨⟨h1,h2,h3,-⟩,hv⟩:=hv;cases hv;unfold mV at h3;simp only[zAa]at h3;obtain⟨k1,k2,k3,k4⟩:=h3;have e1:=qd h1 (qc.1 k1).1;have e2:=qd h2 (qc.1 k2).1;refine kA amC (L:=jE) alu θ ai (bb λQ' hQ=>cg ((Pi ⟨ng,lg,s,e,g,mo,da,a,b,c⟩ ⟨ng',lg',s',e',g',mo',da',a',b',c'⟩).mpr ?_)) κ;dsimp only;have hQ:=hQ _ rfl;have k5:ab (gc 0 (aP ng s e mo da) 0 (aP ng' s' e' mo' da')) 0=true:=by
    rw[aq]at k4 ⊢;have:=xF 0 (aP ng s e mo da) 0 (aP ng' s' e' mo' da');omega
   grind [qc]
 grind
theorem aj5:ak Tryz.prog cfg TF:=anL (amK (aib aW))
theorem amk(hS:ak Tryz.prog cfg S):ak Tryz.prog cfg (aK S 207 Cu):=by
 refine au hS λargs t v he hv=>?_;unfold Cu at he;split at he
 . rename_i ng lg s e g mo da a b c r ng' lg' s' e' g' mo' da' a' b' c' k;cases he;replace hv:=aF hv;obtain⟨⟨h1,h2,-⟩,hv⟩:=hv;cases hv;unfold mB at h2;rw[Bool.or_eq_true]at h1;simp only[zAa,Bool.or_eq_true,Β]at h2;obtain⟨v1,v2,v3⟩:=h2;have k34:aa k 4=!(aa k 3):=by
    grind [ao]
   cases r with
   | false=>
     rw[cond_false]at v2;refine kA aj5 (L:=jE) ahI θ ai (bb λQ' hQ=>cg ((Pc ⟨ng,lg,s,e,g,mo,da,a,b,c⟩ ⟨ng',lg',s',e',g',mo',da',a',b',c'⟩ k).mpr ?_)) κ;have hQ:=hQ _ rfl;unfold dZ at v2;rw[k34]at v3 ⊢;grind
   | true=>
     rw[cond_true,zAa]at v2;refine kA aj5 (L:=jE) ahI θ ai (bb λQ' hQ=>cg ((Pd ⟨ng,lg,s,e,g,mo,da,a,b,c⟩ ⟨ng',lg',s',e',g',mo',da',a',b',c'⟩ k).mpr ?_)) κ;have hQ:=hQ _ rfl;rw[k34]at v3 ⊢;grind
 grind
structure It where
 f:Da
 r:Bool
 t:Da
def rb:Da:=⟨false,false,[],0,0,[],[],0,0,0⟩
def fP:It:=⟨rb,false,rb⟩
def dp:List It->List AV
 | []=>[]
 | x::xs=>.b x.f.ng::.b x.f.lg::.e x.f.s::.a .i64 x.f.e::.a .i64 x.f.g::.e x.f.mo::.e x.f.da::.a .u8 x.f.a::.a .u8 x.f.b::.a .u8 x.f.c::.b x.r::.b x.t.ng::.b x.t.lg::.e x.t.s::.a .i64 x.t.e::.a .i64 x.t.g::.e x.t.mo::.e x.t.da::.a .u8 x.t.a::.a .u8 x.t.b::.a .u8 x.t.c::dp xs
def fS(k:Int)(sl:AV)(ea la:Bool):List AV:=.a .u8 k::.b false::.b false::.e []::.a .i64 0::.a .i64 0::.e []::.e []::.a .u8 0::.a .u8 0::.a .u8 0::.a .u8 0::.b false::.b false::.e []::.a .i64 0::.a .i64 0::.e []::.e []::.a .u8 0::.a .u8 0::.a .u8 0::.a .u8 0::.b false::.b false::.e []::.a .i64 0::.a .i64 0::.e []::.e []::.a .u8 0::.a .u8 0::.a .u8 0::sl::.b ea::.b la::[]
def dF(x:Da):Bool:=wa x.ng x.lg x.s x.e x.g x.mo x.da x.a x.b x.c
def fy(x:Da):Bool:=cK x.s x.g x.mo x.da
def kZ(x:Da):Bool:=eX x.s x.g x.mo x.da
def aap(k:Int)(x:It):Bool:=mB x.r (aa k 4) (dF x.f) (dF x.t) (mV x.f.s x.f.ng x.f.e x.f.g x.f.mo x.f.da x.t.s x.t.ng x.t.e x.t.g x.t.mo x.t.da) (dZ x.t.ng x.t.lg x.t.s x.t.e x.t.g x.t.mo x.t.da x.t.a x.t.b x.t.c) (fy x.f)
def aaD(x:It):Bool:=!x.r&&kZ x.f
structure nI(k:Int)(ea la:Bool)(L:List It):Prop where
 hk:(aa k 3 || aa k 4)=true
 n1:1<=L.length
 n2:L.length<=200
 it:∀i,i<L.length->aap k (L.getD i fP)=true
 he:ea->aaD (L.getD 0 fP)=true
 hl:la->aaD (L.getD (L.length-1) fP)=true
 h1:ea->la->L.length≠1
def TG:aQ:=aK (aK gZ 265 yc) 207 Cu
def DR(L:List It)(k:Int)(ea la:Bool):dW:=λ
 | [.h 15 0,.a .i64 z,.a .i64 z',.h 16 0,.c 14 0 n K,.a .i64 n',.a .i64 i],⟨2,[.a [.a .i64 last] true none,.a (.a .u8 k1::.b false::.b false::.e []::.a .i64 0::.a .i64 0::.e []::.e []::.a .u8 0::.a .u8 0::.a .u8 0::.a .u8 0::.b false::.b false::.e []::.a .i64 0::.a .i64 0::.e []::.e []::.a .u8 0::.a .u8 0::.a .u8 0::.a .u8 0::.b false::.b false::.e []::.a .i64 0::.a .i64 0::.e []::.e []::.a .u8 0::.a .u8 0::.a .u8 0::.c 14 0 m K1::.b ea1::.b la1::[]) true none],[]⟩=>some (aH [Nat.beq L.length n,Nat.beq m n,aa n' (ο n),aa i 0,aa z 0,aa z' 0,aa last (ο n-1),aa k1 k,bQ ea1 ea,bQ la1 la] (.a0 (.b 0,[.h 15 0,.a .i64 0,.a .i64 0,.h 16 0,.c 14 0 n K,.a .i64 n',.a .i64 (ο n)],⟨2,[.a [.a .i64 (ο n-1)] true none,.a (fS k (.c 14 0 n K1) ea la) true none],[]⟩)))
 | _,_=>none
def MG(L:List It)(k:Int)(ea la:Bool):cx:=iz jE 0 (d9 39 [1,2,3,4,13,14,15] (DR L k ea la))
theorem alw:aY tab 134=some (dH 134,aL 134):=κ
theorem aiO:(bz (aL 134)).map (·.1)=[0]:=κ
theorem ahW:ak Tryz.prog cfg TG:=amk (aj2 aW)
theorem afm{x:It}{xs:List It}{v:AV}:(dp (x::xs)).getD (n+21) v=(dp xs).getD n v:=rfl
theorem adN{L:List It}{i:Nat}(h:i<L.length):∀k,k<21->(dp L).getD (i*21+k) (.d [])=(dp [L.getD i fP]).getD k (.d []):=by
 induction L generalizing i with
 | nil=>grind
 | cons r rs ih=>
   intro k hk;cases i with
   | zero=>
     rw[Nat.zero_mul,Nat.zero_add]
     match k,hk with
     | 0,_=>rfl
     | 1,_=>rfl
     | 2,_=>rfl
     | 3,_=>rfl
     | 4,_=>rfl
     | 5,_=>rfl
     | 6,_=>rfl
     | 7,_=>rfl
     | 8,_=>rfl
     | 9,_=>rfl
     | 10,_=>rfl
     | 11,_=>rfl
     | 12,_=>rfl
     | 13,_=>rfl
     | 14,_=>rfl
     | 15,_=>rfl
     | 16,_=>rfl
     | 17,_=>rfl
     | 18,_=>rfl
     | 19,_=>rfl
     | 20,_=>rfl
     | k+21,hk=>omega
   | succ i=>
     grind [afm]
theorem ac3{L:List It}{i:Nat}(h:i<L.length):(dp L).getD (0+i*21) (.d [])=.b (L.getD i fP).f.ng/\(dp L).getD (0+i*21+1) (.d [])=.b (L.getD i fP).f.lg/\(dp L).getD (0+i*21+1+1) (.d [])=.e (L.getD i fP).f.s/\(dp L).getD (0+i*21+1+1+1) (.d [])=.a .i64 (L.getD i fP).f.e/\(dp L).getD (0+i*21+1+1+1+1) (.d [])=.a .i64 (L.getD i fP).f.g/\(dp L).getD (0+i*21+1+1+1+1+1) (.d [])=.e (L.getD i fP).f.mo/\(dp L).getD (0+i*21+1+1+1+1+1+1) (.d [])=.e (L.getD i fP).f.da/\(dp L).getD (0+i*21+1+1+1+1+1+1+1) (.d [])=.a .u8 (L.getD i fP).f.a/\(dp L).getD (0+i*21+1+1+1+1+1+1+1+1) (.d [])=.a .u8 (L.getD i fP).f.b/\(dp L).getD (0+i*21+1+1+1+1+1+1+1+1+1) (.d [])=.a .u8 (L.getD i fP).f.c/\(dp L).getD (0+i*21+1+1+1+1+1+1+1+1+1+1) (.d [])=.b (L.getD i fP).r/\(dp L).getD (0+i*21+1+1+1+1+1+1+1+1+1+1+1) (.d [])=.b (L.getD i fP).t.ng/\(dp L).getD (0+i*21+1+1+1+1+1+1+1+1+1+1+1+1) (.d [])=.b (L.getD i fP).t.lg/\(dp L).getD (0+i*21+1+1+1+1+1+1+1+1+1+1+1+1+1) (.d [])=.e (L.getD i fP).t.s/\(dp L).getD (0+i*21+1+1+1+1+1+1+1+1+1+1+1+1+1+1) (.d [])=.a .i64 (L.getD i fP).t.e/\(dp L).getD (0+i*21+1+1+1+1+1+1+1+1+1+1+1+1+1+1+1) (.d [])=.a .i64 (L.getD i fP).t.g/\(dp L).getD (0+i*21+1+1+1+1+1+1+1+1+1+1+1+1+1+1+1+1) (.d [])=.e (L.getD i fP).t.mo/\(dp L).getD (0+i*21+1+1+1+1+1+1+1+1+1+1+1+1+1+1+1+1+1) (.d [])=.e (L.getD i fP).t.da/\(dp L).getD (0+i*21+1+1+1+1+1+1+1+1+1+1+1+1+1+1+1+1+1+1) (.d [])=.a .u8 (L.getD i fP).t.a/\(dp L).getD (0+i*21+1+1+1+1+1+1+1+1+1+1+1+1+1+1+1+1+1+1+1) (.d [])=.a .u8 (L.getD i fP).t.b/\(dp L).getD (0+i*21+1+1+1+1+1+1+1+1+1+1+1+1+1+1+1+1+1+1+1+1) (.d [])=.a .u8 (L.getD i fP).t.c:=by
 have key:=adN h;rw[Nat.zero_add];exact⟨key 0 ζ,key 1 ζ,key 2 ζ,key 3 ζ,key 4 ζ,key 5 ζ,key 6 ζ,key 7 ζ,key 8 ζ,key 9 ζ,key 10 ζ,key 11 ζ,key 12 ζ,key 13 ζ,key 14 ζ,key 15 ζ,key 16 ζ,key 17 ζ,key 18 ζ,key 19 ζ,key 20 ζ⟩
theorem acs:∀{L:List It},bw (dp L)=[]
 | []=>rfl
 | r::rs=>by simp only[dp,bw,aC,List.nil_append];exact acs
theorem i7{L:List It}:∀x∈[cD.a (dp L) false none],cR 14 x:=λx hx=>by
 simp only[List.mem_singleton]at hx;subst hx;refine⟨rfl,λi hi=>?_⟩;grind [HL,acs]
theorem ad6{ws:List cD}(hw:∀x∈ws,cR 14 x){tn:Nat}{rel:List Nat}{vs vs':List AV}{top B:List cD}{kb:Nat}(hB:B.length=kb)(hn:n=kb+top.length)(hlow:∀b∈B,cR (14+ws.length+kb) b)(hvs:yw (kG (14+ws.length+kb) [] 20) vs=some vs'):VW cfg (Cw cfg ws) kb tn rel vs ⟨n,top++B,[]⟩ vs' ⟨kb,B,[]⟩:=by
 subst hn;have at0:∀(os:List cD) (n i:Nat),(⟨n,os,[]⟩:aB).at i=os.getD (n-1-i) .b:=λos n i=>rfl;refine VW.d0 gR.lv (C:=Cw cfg ws) (kb:=kb) (sel:=[]) (B6 hw) (Nat.le_add_right _ _) (λs hs=>by grind) List.nodup_nil (λp hp=>by grind) rfl rfl hB (λi hi=>?_) (λt ht=>absurd ht (Nat.not_lt_zero t)) hvs;have e1:(⟨kb,B,[]⟩:aB).at i=B.getD (kb-1-i) .b:=at0 _ _ _;have e2:(⟨kb+top.length,top++B,[]⟩:aB).at i=B.getD (kb-1-i) .b:=by
  grind
 rw[e1,e2];refine⟨rfl,?_⟩;have hlt:kb-1-i<B.length:=δ
 rw[zAf,List.getElem?_eq_getElem hlt];exact hlow _ (List.getElem_mem hlt)
theorem yl{a b:Bool}(h:bQ a b):a=b:=by cases a<;>cases b<;>first|rfl|cases h
theorem aeU{x:It}(h:aap k x):dF x.f=true:=by
 grind [aap,mB]
theorem ao_{L:List It}(h:nI k ea la L):cu Tryz.prog (cH cfg TG) (Cw cfg [.a (dp L) false none]) (lb 134 0) 39 [1,2,3,4,13,14,15] (DR L k ea la):=by
 have hw:=@i7 L;intro vs o t Q hv hq J;unfold DR at hv;split at hv
 . rename_i z z' n K n' i last k1 m K1 ea1 la1;cases hv;replace hq:=cO hq;obtain⟨⟨h1,h2,h3,h4,h5,h6,h7,h8,h9,h10,-⟩,hq⟩:=hq;rw[aJ]at h1 h2;rw[ao]at h3 h4 h5 h6 h7 h8;replace h9:=yl h9;replace h10:=yl h10;subst h1 h2 h3 h4 h5 h6 h7 h8 h9 h10;simp only[aH,Tr.wp]at hq;refine ia ahW rfl rfl ai (ι:={i:Nat // i<=L.length}) (λx=>[.h 15 0,.a .i64 0,.a .i64 0,.h 16 0,.c 14 0 L.length K,.a .i64 (ο L.length),.a .i64 (ο x.1)]) (λ_=>⟨2,[.a [.a .i64 (ο L.length-1)] true none,.a (fS k1 (.c 14 0 L.length K1) ea1 la1) true none],[]⟩) (λx=>L.length-x.1) 2 (λ_=>Nat.le_refl _) (λx J=>?_) (Nat.le_refl _) (λJ=>Wk.a0 ⟨⟨0,Nat.zero_le _⟩,J,rfl⟩) J;obtain⟨i,hi⟩:=x;dsimp only;refine jJ (bE 11200058056812000580681522812000586100042702062402000664220204056331258202205681200032202202206815228120003220220226100042702062402000664220204068152281258202205681200032202202206810007022022632702062202000664220204610004270206240200066422040622000666220005662777777704) (R:=λQ=>(λ(A G H N T V Z u5 uh ui ux:AV)(uw:Bool)(Y ug:Int)(uv:Nat)(B F I W:Prop)=>(λ(uB:cD)(u6 uj uz:AV)(U uy:Bool)(uk uC:Int)(uA:Nat)=>(λ(uF:cD)(uD:AV)(E ul:Bool)(uE:Nat)(u7:Prop)=>(λ(uG:AV)(uH:Nat)(O:Prop)=>(λ(uI:AV)(u0:List UInt8)(uJ:Nat)=>(λ(uK:AV)(um:Int)(uL:Nat)=>(λ(uM:AV)(u1:Int)(uN:Nat)=>(λ(uO:AV)(u2:List UInt8)(uP:Nat)=>(λ(uQ:AV)(u3:List UInt8)(uR:Nat)=>(λ(uS:AV)(uU:Bool)(uT:Nat)=>(λ(uV:AV)(uW:Nat)(u8:Prop)=>(λ(uX:AV)(u4:Bool)(uY:Nat)=>(λ(uZ:AV)(un:Bool)(v0:Nat)=>(λ(v1:AV)(C u9:Bool)(v2:Nat)=>(λ(v3:AV)(uo:Bool)(v4:Nat)(P:Prop)=>(λ(v5:AV)(ua:List UInt8)(v6:Nat)=>(λ(v7:AV)(ub:Int)(v8:Nat)=>(λ(v9:AV)(uc:Int)(va:Nat)=>(λ(vb:AV)(ud:List UInt8)(vc:Nat)=>(λ(vd:AV)(ue:List UInt8)(ve:Nat)=>(λ(vf vg:AV)(up:Int)=>(λ(uq ur:Int)=>(λ(uf us:Prop)=>(λ(ut uu vh vi vj:Prop)=>(λ(vk:Prop)=>(λ(vm:Prop->Prop)=>(λ(vl:Prop->Prop)=>(uy->aS i L.length/\Sn uz/\Sn uD/\Iq uG/\eB .i64 uI/\eB .i64 uK/\Iq uM/\Iq uO/\eB .u8 uQ/\eB .u8 uS/\eB .u8 uV/\Sn uX/\Sn uZ/\Sn v1/\Iq v3/\eB .i64 v5/\eB .i64 v7/\Iq v9/\Iq vb/\eB .u8 vd/\eB .u8 vf/\eB .u8 vg/\vl (vl ((F->F/\F/\(U->U/\(C->C/\C/\u4/\C/\U/\U/\ut/\(u8->(B->B/\B/\B/\(E->E/\C/\vm (u8/\F/\F/\F/\B/\B/\B/\aa uk 0/\uf))/\vk)/\vi))/\(P->P/\P/\P/\U/\U/\uf))/\(u7->u7/\u7/\u7/\(B->B/\B/\B/\(E->E/\(C->vm (ut/\(u8->vh)))/\vj)/\vk)/\vi))/\(W->W/\W/\(B->B/\B/\B/\(E->E/\(C->vm (ut/\(u8->uu)))/\vj)/\(O->O/\O/\O/\uu))/\(I->I/\I/\I/\uu)))))/\(uy=false->Q (.b 0,[T,G,G,Z,uh,uj,u6],⟨2,[uF,uB],[]⟩))) (λvn=>uw/\mB un (aa k1 4) u4 (wa u9 uo ua ub uc ud ue up uq ur) (mV u0 ul um u1 u2 u3 ua u9 ub uc ud ue) (dZ u9 uo ua ub uc ud ue up uq ur) (cK u0 u1 u2 u3)/\vn)) (λvn=>C/\C/\u4/\C/\E/\E/\vn)) (O->O/\O/\O/\vh)) (uU->uf) (W/\W/\W/\us) (F/\F/\F/\B/\B/\B/\aa uk 0=false/\us) (I->I/\I/\I/\F/\F/\F/\I/\I/\I/\us) (P->P/\P/\P/\E/\E/\uf)) (Q (.c,[T,u6,u5,Z,uh,uj,u6],⟨5,[.a [G,.i 208 [] [ui,T],u5,.i 209 [] [T,ux,ui],u5,.i 211 [] [T,ux,Z,ui],u5,.i 212 [] [T,Z]] true none,.a [.b ul,.b (KK uD),.e u0,.a .i64 um,.a .i64 u1,.e u2,.e u3,.a .u8 (dx uQ),.a .u8 (dx uS),.a .u8 (dx uV),.b un,.b u9,.b uo,.e ua,.a .i64 ub,.a .i64 uc,.e ud,.e ue,.a .u8 up,.a .u8 uq,.a .u8 ur] true none,.a [u6] true none,uF,uB],[]⟩)) (af .i64 uC/\Q (.a,[T,G,G,Z,uh,uj,.a .i64 uC],⟨5,[.a [G,.i 208 [] [ui,T],u5,.i 209 [] [T,ux,ui],u5,.i 211 [] [T,ux,Z,ui],u5,.i 212 [] [T,Z]] true none,.a [.b ul,.b (KK uD),.e u0,.a .i64 um,.a .i64 u1,.e u2,.e u3,.a .u8 (dx uQ),.a .u8 (dx uS),.a .u8 (dx uV),.b un,.b u9,.b uo,.e ua,.a .i64 ub,.a .i64 uc,.e ud,.e ue,.a .u8 up,.a .u8 uq,.a .u8 ur] true none,.a [u6] true none,uF,uB],[]⟩))) (dx vf) (dx vg)) (ς (dp L) ve A) (ς (dp L) (π ve 1) A) (dx vd)) (ς (dp L) vc A) (C9 vb) (π vc 1)) (ς (dp L) va A) (C9 v9) (π va 1)) (ς (dp L) v8 A) (dx v7) (π v8 1)) (ς (dp L) v6 A) (dx v5) (π v6 1)) (ς (dp L) v4 A) (C9 v3) (π v4 1)) (ς (dp L) v2 A) (KK v1) (π v2 1) (C=false)) (ς (dp L) v0 A) (not un) (KK uZ) (π v0 1)) (ς (dp L) uY A) (KK uX) (π uY 1)) (ς (dp L) uW A) (wa ul (KK uD) u0 um u1 u2 u3 (dx uQ) (dx uS) (dx uV)) (π uW 1)) (ς (dp L) uT A) (π uT 1) (uU=false)) (ς (dp L) uR A) (not (eX u0 u1 u2 u3)) (π uR 1)) (ς (dp L) uP A) (C9 uO) (π uP 1)) (ς (dp L) uN A) (C9 uM) (π uN 1)) (ς (dp L) uL A) (dx uK) (π uL 1)) (ς (dp L) uJ A) (dx uI) (π uJ 1)) (ς (dp L) uH A) (C9 uG) (π uH 1)) (ς (dp L) uE A) (π uE 1) (E=false)) (.a [.a .i64 uk] true none) (ς (dp L) uA A) (aa Y uk) (KK uz) (π uA 1) (U=false)) (.a [.a .u8 k1,V,V,N,G,G,N,N,H,H,H,H,V,V,N,G,G,N,N,H,H,H,H,V,V,N,G,G,N,N,H,H,H,.c 14 0 L.length K1,.b ea1,.b la1] true none) (.a .i64 Y) (.a .i64 ug) (ς (dp L) uv A) (aa Y 0) (not (ab ug Y)) (HSub.hSub ug 1) (Int.add Y 1) (π uv 1)) (.d []) (.a .i64 0) (.a .u8 0) (.e []) (.h 15 0) (.b false) (.h 16 0) (.a .i64 10) (.c 14 0 L.length K) (.h 18 0) (.h 17 0) (or (aa k1 3) (aa k1 4)) (ο i) (ο L.length) (π 0 (ψ i 21)) la1 ea1 (la1=false) (ea1=false)) (λ_=>by kernel_rfl) λQ' hQ=>?_;try dsimp only
   by_cases hlt:i<L.length
   . have go:∀a b c:cD,Q' (AX.a,([.h 15 0,.a .i64 0,.a .i64 0,.h 16 0,.c 14 0 L.length K,.a .i64 (ο L.length),.a .i64 (Int.add (ο i) 1)],⟨5,[a,b,c,.a [.a .i64 (ο L.length-1)] true none,.a (fS k1 (.c 14 0 L.length K1) ea1 la1) true none],[]⟩)):=λa b c=>
      hQ _ ⟨⟨i+1,hlt⟩,by dsimp only;omega,ad6 (top:=[a,b,c]) (B:=[.a [.a .i64 (ο L.length-1)] true none,.a (fS k1 (.c 14 0 L.length K1) ea1 la1) true none]) hw rfl rfl (λx hx=>by
       simp only[List.mem_cons,List.not_mem_nil,or_false]at hx;rcases hx with rfl|rfl
       . exact⟨rfl,λi hi=>by simp[HL,bw,aC]at hi⟩
       . exact⟨rfl,λi hi=>by simp[fS,HL,bw,aC]at hi;subst hi;show 14<14+1+2;omega⟩) rfl⟩
     clear hQ hq;have itk:=h.it i hlt;have he:ea1->i=0->aaD (L.getD i fP)=true:=λa b=>by subst b;exact h.he a
     have hl:la1->i=L.length-1->aaD (L.getD i fP)=true:=λa b=>by subst b;exact h.hl a
     obtain⟨f0,f1,f2,f3,f4,f5,f6,f7,f8,f9,f10,f11,f12,f13,f14,f15,f16,f17,f18,f19,f20⟩:=ac3 hlt;generalize L.getD i fP=x at *;have hva:=aeU itk;unfold aap dF fy at itk;unfold dF at hva;rw[hva]at itk;unfold fS at go;have j1:ab (ο L.length) (ο i)=false:=by rw[bF];simp only[χ];omega
     have j2:aS i L.length=true:=aU.2 hlt;have j3:af .i64 (Int.add (ο i) 1)=true:=by rw[aE];simp only[eH,eE];have:=h.n2;show _<=(i:Int)+1/\(i:Int)+1<=_;omega
     have kk:∀(a:IntKind) (n:Int),eB a (.a a n)=true:=λa n=>by cases a<;>rfl
     have ib:∀b:Bool,Sn (.b b)=true:=λ_=>rfl;have is:∀s:List UInt8,Iq (.e s)=true:=λ_=>rfl;have bo:∀b:Bool,KK (.b b)=b:=λ_=>rfl;have st:∀s:List UInt8,C9 (.e s)=s:=λ_=>rfl;have io:∀(a:IntKind) (n:Int),dx (.a a n)=n:=λ_ _=>rfl;simp only[f0,f1,f2,f3,f4,f5,f6,f7,f8,f9,f10,f11,f12,f13,f14,f15,f16,f17,f18,f19,f20,kk,ib,is,bo,st,io,j1,j2,j3,h.hk,itk,hva,Γ,Bool.not_false,true_and,and_true,true_imp_iff,reduceCtorEq,false_imp_iff];clear f0 f1 f2 f3 f4 f5 f6 f7 f8 f9 f10 f11 f12 f13 f14 f15 f16 f17 f18 f19 f20;have e1:ea1->aa (ο i) 0->x.r=false/\eX x.f.s x.f.g x.f.mo x.f.da=true:=λa b=>by
      have:=he a (by rw[ao]at b;exact Int.ofNat.inj b);unfold aaD kZ at this;simpa only[zAa,Β]using this
     have e2:la1->aa (ο i) (ο L.length-1)->x.r=false/\eX x.f.s x.f.g x.f.mo x.f.da=true:=λa b=>by
      have:=hl a (by rw[ao]at b;simp only[χ]at b;omega);unfold aaD kZ at this;simpa only[zAa,Β]using this
     have e3:ea1->la1->aa (ο L.length-1) 0=false:=λa b=>by
      have:=h.h1 a b;have:=h.n1;rw[aw];simp only[χ];omega
     have e4:aa (ο i) 0->aa (ο i) (ο L.length-1)->aa (ο L.length-1) 0=true:=λa b=>by
      rw[ao]at a b ⊢;rw[<-b,a]
     clear he hl h hw itk hva;generalize eX x.f.s x.f.g x.f.mo x.f.da=pl at *;generalize x.r=xr at *;generalize aa (ο i) 0=i0 at *;generalize aa (ο i) (ο L.length-1)=il at *;generalize aa (ο L.length-1) 0=n0 at *;cases ea1<;>cases la1<;>cases i0<;>cases il<;>simp only[true_imp_iff,reduceCtorEq,false_imp_iff]at e1 e2 e3 e4<;>(try(rw[e3]at e4;cases e4))<;>(try obtain⟨rfl,rfl⟩:=e1)<;>(try obtain⟨rfl,rfl⟩:=e2)<;>(try subst e3)<;>simp only[go,Γ,Bool.not_false,true_and,and_true,true_imp_iff,reduceCtorEq,false_imp_iff,implies_true,and_self]
   . obtain rfl:i=L.length:=δ
     have j1:ab (ο L.length) (ο L.length)=true:=by rw[aq];exact Int.le_refl _
     simp only[j1,Γ,reduceCtorEq,false_imp_iff,true_and,true_imp_iff];refine hQ _ ⟨_,_,VW.a0,?_⟩;exact hq
 . cases hv
noncomputable def abk(w:List AV)(n:Nat)(k:Int)(ea la:Bool):Bool:=@decide (∃L:List It,dp L=w/\L.length=n/\nI k ea la L) (Classical.propDecidable _)
noncomputable def FE:aav:=λ
 | [.g (.a .u8 k::.b false::.b false::.e []::.a .i64 0::.a .i64 0::.e []::.e []::.a .u8 0::.a .u8 0::.a .u8 0::.a .u8 0::.b false::.b false::.e []::.a .i64 0::.a .i64 0::.e []::.e []::.a .u8 0::.a .u8 0::.a .u8 0::.a .u8 0::.b false::.b false::.e []::.a .i64 0::.a .i64 0::.e []::.e []::.a .u8 0::.a .u8 0::.a .u8 0::.c 14 0 n K::.b ea::.b la::[])],[.a w false none]=>some (aH [abk w n k ea la] (.a0 (.d [.a .i64 0,.a .i64 0],[])))
 | _,_=>none
noncomputable def TH:aQ:=eQ gZ 134 (fl 14 [21] FE)
theorem QN{L:List It}(h:nI k ea la L):bu Tryz.prog cfg 134 [.g (fS k (.c 14 0 L.length K) ea la)] [.a (dp L) false none] (.d [.a .i64 0,.a .i64 0]) []:=by
 refine P0 ahW (L:=MG L k ea la) i7 alw θ (dv aiO λi hi e he st Q hw=>?_) (jJ (bE 12700070020) (R:=λQ=>(λ(B:AV)(A:Int)=>(λ(C:Int)=>af .i64 C/\Nat.beq L.length L.length/\Nat.beq L.length L.length/\aa A A/\aa C (HSub.hSub A 1)/\aa k k/\bQ ea ea/\bQ la la/\(∀J1:Nat->Value,Q (.d [B,B]))) (Int.sub A 1)) (.a .i64 0) (ο L.length)) (λ_=>by rfl) λQ' hQ=>?_) κ
 . have hi:i=0:=η
   subst hi;cases he;exact bR (cC.a0 ahW) ζ rfl (ao_ h) hw
 . dsimp only;have j1:af .i64 (Int.sub (ο L.length) 1)=true:=by
    rw[aE];simp only[eH,eE];have:=h.n2
    grind
   have j2:Nat.beq L.length L.length=true:=aJ.mpr rfl;have j3:∀b,bQ b b=true:=λb=>by cases b<;>rfl
   grind [aa0]
theorem S0:∀{L:List It},(dp L).length=L.length*21
 | []=>rfl
 | x::xs=>by simp only[dp,zAd,S0];omega
theorem qi{L:List It}:b_ (dp L) 0 (L.length*21)=dp L:=by
 grind [b_,S0]
theorem lU:∀{L:List It},bc 14 (dp L)=true
 | []=>rfl
 | _::xs=>lU (L:=xs)
theorem rd{w:List AV}:abk w n k ea la=true↔∃L:List It,dp L=w/\L.length=n/\nI k ea la L:=by
 grind [abk]
theorem amM(hS:ak Tryz.prog cfg S):ak Tryz.prog cfg (eQ S 134 (fl 14 [21] FE)):=by
 refine bm hS (fW gR.lv Az λargs ws t r he hr=>?_);unfold FE at he;split at he
 . cases he;replace hr:=aF hr;obtain⟨⟨h1,-⟩,hr⟩:=hr;obtain⟨L,rfl,rfl,hs⟩:=rd.1 h1;cases hr;exact⟨QN hs,λx hx=>by grind⟩
 grind
theorem amr:ak Tryz.prog cfg TH:=amM aW
theorem aqa:aY tab 25=some (dH 25,aL 25):=κ
theorem Qv{L:List It}(h:nI k ea la L):bu Tryz.prog cfg 25 [.g (fS k (.c 14 0 L.length K) ea la)] [.a (dp L) false none] (.a .i64 0) []:=by
 refine ns amr i7 ai (bE 1226666303030305662331226666303030355230003300088202403020056700622032206220666633202206666) (R:=λQ=>not (not (ab 1 k))/\not (not (ab 1 k))/\not (not (ab 1 k))/\not (ab 1 k)=false/\not (ab k 4)=false/\not (aa k 1)/\not (aa k 1)/\not (aa k 1)/\not (aa k 1)/\aa k 1=false/\not (aa k 2)/\not (aa k 2)/\not (aa k 2)/\not (aa k 2)/\not (aa k 2)/\not (aa k 2)/\aa k 2=false/\(not (aa k 3)->not (aa k 3)/\not (aa k 3)/\aa k 3=false/\not (aa k 4)=false/\not (aa k 4)=false/\not (aa k 4)=false/\not (aa k 4)=false/\not (aa k 4)=false/\not (aa k 4)=false/\not (aa k 4)=false/\not (aa k 4)=false/\aa k 4/\aa k 1=false/\aa k 2=false/\aa (ο L.length) 0=false/\not (ab (ο L.length) 256)=false/\and true (and (Α (π 0 (ψ L.length 21)) (dp L).length) (bc 14 (b_ (dp L) 0 (ψ L.length 21))))/\abk (b_ (dp L) 0 (ψ L.length 21)) L.length k ea la/\Q (.a .i64 0))/\(not (aa k 3)=false->not (aa k 3)=false/\not (aa k 3)=false/\aa k 3/\aa k 1=false/\aa k 2=false/\aa (ο L.length) 0=false/\not (ab (ο L.length) 256)=false/\and true (and (Α (π 0 (ψ L.length 21)) (dp L).length) (bc 14 (b_ (dp L) 0 (ψ L.length 21))))/\abk (b_ (dp L) 0 (ψ L.length 21)) L.length k ea la/\Q (.a .i64 0))) (λ_=>by kernel_rfl) λQ' hQ=>?_;have hk:=h.hk;have n1:=h.n1;have n2:=h.n2;have hB:abk (dp L) L.length k ea la=true:=rd.2 ⟨L,rfl,rfl,h⟩;rw[qi,lU,hB];have l1:Α (0+L.length*21) (dp L).length=true:=by rw[al,S0];omega
 have l2:aa (ο L.length) 0=false:=by grind [aw]
 have l3:ab (ο L.length) 256=true:=by grind [aq]
 rw[l1,l2,l3];rw[Bool.or_eq_true,ao,ao]at hk;rcases hk with rfl|rfl
 . rw[show ab 1 3=true from rfl,show ab 3 4=true from rfl,show aa 3 1=false from rfl,show aa 3 2=false from rfl,show aa 3 3=true from rfl,show aa 3 4=false from rfl];grind
 . rw[show ab 1 4=true from rfl,show ab 4 4=true from rfl,show aa 4 1=false from rfl,show aa 4 2=false from rfl,show aa 4 3=false from rfl,show aa 4 4=true from rfl];grind
noncomputable def sI:aav:=λ
 | [.g (.a .u8 k::.b false::.b false::.e []::.a .i64 0::.a .i64 0::.e []::.e []::.a .u8 0::.a .u8 0::.a .u8 0::.a .u8 0::.b false::.b false::.e []::.a .i64 0::.a .i64 0::.e []::.e []::.a .u8 0::.a .u8 0::.a .u8 0::.a .u8 0::.b false::.b false::.e []::.a .i64 0::.a .i64 0::.e []::.e []::.a .u8 0::.a .u8 0::.a .u8 0::.c 14 0 n K::.b ea::.b la::[])],[.a w false none]=>some (aH [abk w n k ea la] (.a0 (.a .i64 0,[])))
 | _,_=>none
theorem ajV(hS:ak Tryz.prog cfg S):ak Tryz.prog cfg (eQ S 25 (fl 14 [21] sI)):=by
 refine bm hS (fW gR.lv Az λargs ws t r he hr=>?_);unfold sI at he;split at he
 . cases he;replace hr:=aF hr;obtain⟨⟨h1,-⟩,hr⟩:=hr;obtain⟨L,rfl,rfl,hs⟩:=rd.1 h1;cases hr;exact⟨Qv hs,λx hx=>by grind⟩
 grind
end Go.Ev
