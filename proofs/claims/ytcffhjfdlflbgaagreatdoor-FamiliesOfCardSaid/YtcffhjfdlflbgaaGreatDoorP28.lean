import Derived.Test.YtcffhjfdlflbgaaGreatDoorP27
set_option linter.all false
open Int renaming ofNat->ν,add->ξ,sub->ο,mul->τ,tdiv->Ε,tmod->Θ
open HAppend renaming hAppend->π
open UInt8 renaming toNat->ς,ofNat->υ
open List renaming cons->σ,length->χ,getD->Α,nil->Γ
open Nat renaming ble->ω,le_refl->Ζ,pow_le_pow_right->Η,le_trans->Ι
open HSub renaming hSub->Β
open Bool renaming not->Δ
set_option linter.all false
set_option maxRecDepth 100000
set_option maxHeartbeats 4000000
namespace Go.Ev
open Go Go.Proofs
variable{Q:AV->Prop}{S:aQ}
def ahP:dW:=λvs o=>match vs,o with
 | [.h 14 0,.a .i64 z,.a .i64 n,.a .i64 i],⟨1,[.a [.e ng,.e lg,.f s,.a .i64 e,.a .i64 g] true none],[]⟩=>some (aH [aa z 0,aa n 0,aa i 0,ω s.length 1000,dV s,magOk s 0] (.a0 (.b 0,[.h 14 0,.a .i64 0,(ν (numL s)),(ν s.length)],o)))
 | _,_=>none
def agU:dW:=λvs o=>match vs,o with
 | [.h 14 0,.a .i64 z,.a .i64 n,.a .i64 i],⟨1,[.a [.e ng,.e lg,.f s,.a .i64 e,.a .i64 g] true none],[]⟩=>some (aH [aa z 0,aa n (ν (numL s)),aa i 0,ab 0 e,ab e 1000,magOk s e.toNat] (.a0 (.b 2,[.h 14 0,.a .i64 0,(ν (cF s e.toNat)),e],o)))
 | _,_=>none
def aqs:cx:=iz (iz jE 0 (d9 35 [1,2,3,4] ahP)) 2 (d9 35 [1,2,3,5] agU)
def aiX:dP:=λ
 | [.g [.e ng,.e lg,.f s,.a .i64 e,.a .i64 g]]=>some (aH [ω s.length 1000,dV s,ab 0 e,ab e 1000,magOk s e.toNat] (.a0 (dY ng s e)))
 | _=>none
def alz:dP:=λ
 | [.f l]=>some (aH [H4 l] (.a0 (XR l)))
 | _=>none
theorem amp(ng lg:Bool)(s:List UInt8)(e g n:Int)(i:Nat)(J:Nat->Value)(hs:s.length<=1000)(hi:i<=s.length)(hn:0<=n/\n<=10000000000000000)(hd:i<s.length->48<=(s.getD i 0).toNat/\(s.getD i 0).toNat<=57){Q:VQ->Prop}:gG Q (rT gZ jE [] 88 0 35 [1,2,3,4] [.h 14 0,.a .i64 0,n,(ν i)] J ⟨1,[.a [ng,lg,s,e,g] true none],[]⟩) (bE 1121241212441212412244200240)=((not (ab (ν s.length) (ν i))->af .i64 (τ 10 n)/\aS i s.length/\(af .i64 (ν (ς (Α s i (υ 0))))->(af .i64 (ξ (τ 10 n) (ν (ς (Α s i (υ 0)))))->af .i64 (ο (ξ (τ 10 n) (ν (ς (Α s i (υ 0))))) 48)/\af .i64 (ξ (ν i) 1)/\Q (.a,[.h 14 0,.a .i64 0,(ο (ξ (τ 10 n) (ν (ς (Α s i (υ 0))))) 48),(ξ (ν i) 1)],⟨1,[.a [ng,lg,s,e,g] true none],[]⟩))/\(af .i64 (ξ (τ 10 n) (ν (ς (Α s i (υ 0)))))=false->(af .i64 (ο (IntKind.wrap .i64 (ξ (τ 10 n) (ν (ς (Α s i (υ 0)))))) 48)->af .i64 (ξ (ν i) 1)/\Q (.a,[.h 14 0,.a .i64 0,(ο (IntKind.wrap .i64 (ξ (τ 10 n) (ν (ς (Α s i (υ 0)))))) 48),(ξ (ν i) 1)],⟨1,[.a [ng,lg,s,e,g] true none],[]⟩))/\(af .i64 (ο (IntKind.wrap .i64 (ξ (τ 10 n) (ν (ς (Α s i (υ 0)))))) 48)=false->af .i64 (ξ (ν i) 1)/\Q (.a,[.h 14 0,.a .i64 0,(IntKind.wrap .i64 (ο (IntKind.wrap .i64 (ξ (τ 10 n) (ν (ς (Α s i (υ 0)))))) 48)),(ξ (ν i) 1)],⟨1,[.a [ng,lg,s,e,g] true none],[]⟩))))/\(af .i64 (ν (ς (Α s i (υ 0))))=false->(af .i64 (ξ (τ 10 n) (IntKind.wrap .i64 (ν (ς (Α s i (υ 0))))))->(af .i64 (ο (ξ (τ 10 n) (IntKind.wrap .i64 (ν (ς (Α s i (υ 0)))))) 48)->af .i64 (ξ (ν i) 1)/\Q (.a,[.h 14 0,.a .i64 0,(ο (ξ (τ 10 n) (IntKind.wrap .i64 (ν (ς (Α s i (υ 0)))))) 48),(ξ (ν i) 1)],⟨1,[.a [ng,lg,s,e,g] true none],[]⟩))/\(af .i64 (ο (ξ (τ 10 n) (IntKind.wrap .i64 (ν (ς (Α s i (υ 0)))))) 48)=false->af .i64 (ξ (ν i) 1)/\Q (.a,[.h 14 0,.a .i64 0,(IntKind.wrap .i64 (ο (ξ (τ 10 n) (IntKind.wrap .i64 (ν (ς (Α s i (υ 0)))))) 48)),(ξ (ν i) 1)],⟨1,[.a [ng,lg,s,e,g] true none],[]⟩)))/\(af .i64 (ξ (τ 10 n) (IntKind.wrap .i64 (ν (ς (Α s i (υ 0))))))=false->(af .i64 (ο (IntKind.wrap .i64 (ξ (τ 10 n) (IntKind.wrap .i64 (ν (ς (Α s i (υ 0))))))) 48)->af .i64 (ξ (ν i) 1)/\Q (.a,[.h 14 0,.a .i64 0,(ο (IntKind.wrap .i64 (ξ (τ 10 n) (IntKind.wrap .i64 (ν (ς (Α s i (υ 0))))))) 48),(ξ (ν i) 1)],⟨1,[.a [ng,lg,s,e,g] true none],[]⟩))/\(af .i64 (ο (IntKind.wrap .i64 (ξ (τ 10 n) (IntKind.wrap .i64 (ν (ς (Α s i (υ 0))))))) 48)=false->af .i64 (ξ (ν i) 1)/\Q (.a,[.h 14 0,.a .i64 0,(IntKind.wrap .i64 (ο (IntKind.wrap .i64 (ξ (τ 10 n) (IntKind.wrap .i64 (ν (ς (Α s i (υ 0))))))) 48)),(ξ (ν i) 1)],⟨1,[.a [ng,lg,s,e,g] true none],[]⟩)))))/\(not (ab (ν s.length) (ν i))=false->Q (.b 0,[.h 14 0,.a .i64 0,n,(ν i)],⟨1,[.a [ng,lg,s,e,g] true none],[]⟩))):=by rfl
theorem anN(ng lg:Bool)(s:List UInt8)(e g n:Int)(i:Nat)(J:Nat->Value)(he:0<=e/\e<=1000)(hi:(i:Int)<=e)(hn:0<=n/\n<=10000000000000000){Q:VQ->Prop}:gG Q (rT gZ jE [] 88 1 35 [1,2,3,5] [.h 14 0,.a .i64 0,n,(ν i)] J ⟨1,[.a [ng,lg,s,e,g] true none],[]⟩) (bE 112240)=((not (ab e (ν i))->af .i64 (τ 10 n)/\af .i64 (ξ (ν i) 1)/\Q (.a,[.h 14 0,.a .i64 0,(τ 10 n),(ξ (ν i) 1)],⟨1,[.a [ng,lg,s,e,g] true none],[]⟩))/\(not (ab e (ν i))=false->Q (.b 2,[.h 14 0,.a .i64 0,n,(ν i)],⟨1,[.a [ng,lg,s,e,g] true none],[]⟩))):=by rfl
theorem amc:gG Q (pT gZ jE 89 [.f []]) (.e .z)=Q (AV.a .i64 0):=by rfl
theorem aip:ec eS 88=some (dH 88,aL 88):=by rfl
theorem aiV:ec eS 89=some (dH 89,aL 89):=by rfl
theorem aih:(bz (aL 88)).map (·.1)=[0,2]:=by rfl
theorem ak1:cu Tryz.prog (cH cfg gZ) (Cw cfg []) (lb 88 0) 35 [1,2,3,4] ahP:=by
 intro vs o t Q hv hq J;unfold ahP at hv;split at hv
 . rename_i z n i ng lg s e g;cases hv;replace hq:=cO hq;obtain⟨⟨h1,h2,h3,h4,h5,h6,-⟩,hq⟩:=hq;rw[ao]at h1 h2 h3;rw[al]at h4;subst h1 h2 h3;have hm:cF s 0<=10000000000000000:=by grind [magOk,al]
   have hpe:=Aa s 0;rw[Nat.add_zero]at hpe;have hnl:cF s 0=numL s:=by unfold cF;omega
   simp only[aH,Tr.wp]at hq;refine ia aW rfl rfl ai (ι:={i:Nat // i<=s.length}) (λx=>[.h 14 0,.a .i64 0,(ν (iS s x.1)),(ν x.1)]) (λ_=>⟨1,[.a [ng,lg,s,e,g] true none],[]⟩) (λx=>s.length-x.1) 1 (λ_=>Ζ _) (λx J=>?_) (Ζ _) (λJ=>Wk.a0 ⟨⟨0,Nat.zero_le _⟩,J,by simp[iS,numL]⟩) J;obtain⟨i,hi⟩:=x;dsimp only;have hlt:=@Db s i;have hdi:=@pz s h5 i;have hp:iS s i<=10000000000000000:=by
    have:=@Ez s i s.length hi;omega
   refine eD λQ' hQ=>cg ((amp ng lg s e g _ i J h4 hi ⟨by simp,by grind⟩ hdi).mpr ?_);simp only[az,reduceCtorEq]
   (repeat' first|exact trivial|refine⟨?_,?_⟩|intro)<;>first|omega|refine hQ _ ?_
   . have h:=hlt (by omega);exact⟨⟨i+1,by omega⟩,by dsimp only;omega,VW.b0 (by dsimp only;rw[h];congr 4;simp only[Bv];omega) rfl⟩
   . obtain rfl:i=s.length:=by omega
     refine⟨_,_,VW.a0,?_⟩;rw[hpe,hnl];exact hq
 . cases hv
theorem akM:cu Tryz.prog (cH cfg gZ) (Cw cfg []) (lb 88 1) 35 [1,2,3,5] agU:=by
 intro vs o t Q hv hq J;unfold agU at hv;split at hv
 . rename_i z n i ng lg s e g;cases hv;replace hq:=cO hq;obtain⟨⟨h1,h2,h3,h4,h5,h6,-⟩,hq⟩:=hq;rw[ao]at h1 h2 h3;rw[aq]at h4 h5;subst h1 h2 h3;obtain⟨k,rfl⟩:∃k:Nat,e=k:=⟨e.toNat,by omega⟩;have hm:cF s k<=10000000000000000:=by grind [magOk,al]
   simp only[aH,Tr.wp]at hq;refine ia aW rfl rfl ai (ι:={i:Nat // i<=k}) (λx=>[.h 14 0,.a .i64 0,.a .i64 (ν (cF s x.1)),.a .i64 (ν x.1)]) (λ_=>⟨1,[.a [.e ng,.e lg,.f s,.a .i64 k,.a .i64 g] true none],[]⟩) (λx=>k-x.1) 1 (λ_=>Ζ _) (λx J=>?_) (Ζ _) (λJ=>Wk.a0 ⟨⟨0,Nat.zero_le _⟩,J,by simp[cF]⟩) J;obtain⟨i,hi⟩:=x;dsimp only;have hs:cF s (i+1)=10*cF s i:=by grind [cF]
   have hp:cF s i<=10000000000000000:=Ι (Nat.mul_le_mul_left _ (Η (by decide) hi)) hm;refine eD λQ' hQ=>cg ((anN ng lg s k g _ i J ⟨h4,h5⟩ (by omega) ⟨by simp,by grind⟩).mpr ?_);simp only[az,reduceCtorEq]
   (repeat' first|exact trivial|refine⟨?_,?_⟩|intro)<;>first|omega|refine hQ _ ?_
   . exact⟨⟨i+1,by omega⟩,by grind,VW.b0 (by grind) rfl⟩
   grind [VW.a0]
 grind
theorem ae0(hS:ak Tryz.prog cfg S):ak Tryz.prog cfg (d5 (d5 S 88 aiX) 89 alz):=by
 refine au (au hS λargs t v he hv=>?_) λargs t v he hv=>?_
 . unfold aiX at he;split at he
   . rename_i ng lg s e g;cases he;replace hv:=aF hv;obtain⟨⟨h1,h2,h3,h4,h5,-⟩,hv⟩:=hv;rw[al]at h1;rw[aq]at h3 h4;cases hv;have hm:cF s e.toNat<=10000000000000000:=by grind [magOk,al]
     have hm0:magOk s 0=true:=by
      unfold magOk;rw[al];exact Ι (Nat.mul_le_mul_left _ (Η (by decide) (Nat.zero_le _))) hm
     refine kA aW (L:=aqs) aip (by simp) (dv aih λi hi e he st Q hw=>?_) (jJ (bE 1112407020422000) (R:=λQ=>ω s.length 1000/\dV s/\(magOk s 0->(∀J1:Nat->Value,aa (ν (numL s)) (ν (numL s))/\ab 0 e/\ab e 1000/\magOk s e.toNat/\(∀J2:Nat->Value,(ng->af .i64 (ο 0 (ν (cF s e.toNat)))/\Q (ο 0 (ν (cF s e.toNat))))/\(ng=false->Q (ν (cF s e.toNat))))))/\(magOk s 0=false->False)) (λ_=>by rfl) λQ' hQ=>?_) (by rfl)
     . have hi:i=0\/i=1:=by grind
       rcases hi with rfl|rfl
       . cases he;exact bR (cC.a0 aW) (by decide) rfl ak1 hw
       . cases he;exact bR (cC.a0 aW) (by decide) rfl akM hw
     . unfold dY at hQ;rw[hm0];generalize cF s e.toNat=M at *;generalize numL s=N at *;cases ng<;>simp only[az,reduceCtorEq]<;>(repeat' first|exact trivial|refine⟨?_,?_⟩|intro)<;>first|contradiction|omega|assumption|exact hQ _ rfl|grind
   grind
 . unfold alz at he;split at he
   . rename_i l;cases he;obtain⟨h1,hv'⟩:=eL hv;clear hv;have hv:=hv';clear hv'
     cases hv
     match l,h1 with
     | [],_=>exact kA aW (L:=jE) aiV (by simp) ai (eD λQ' hQ=>cg (amc.mpr (hQ _ rfl))) (by rfl)
     | [a,b],h1=>
       unfold H4 dB at h1;simp only[zAa,zAc]at h1;refine jD aW ai (bE 10070020075) (R:=λQ=>af .i64 (ν a.toNat)/\af .i64 (ξ 0 (ν a.toNat))/\af .i64 (ο (ξ 0 (ν a.toNat)) 48)/\af .i64 (τ 10 (ο (ξ 0 (ν a.toNat)) 48))/\af .i64 (ν b.toNat)/\af .i64 (ξ (τ 10 (ο (ξ 0 (ν a.toNat)) 48)) (ν b.toNat))/\af .i64 (ο (ξ (τ 10 (ο (ξ 0 (ν a.toNat)) 48)) (ν b.toNat)) 48)/\Q (ο (ξ (τ 10 (ο (ξ 0 (ν a.toNat)) 48)) (ν b.toNat)) 48)) (λ_=>by rfl) λQ' hQ=>?_;have fin:∀x:Int,x=ko a b->Q' x:=λx h=>hQ _ (by rw[h];rfl);clear hQ;unfold ko at fin;simp only[az,reduceCtorEq]at fin ⊢;grind
     | [_],h1=>grind [H4]
     | _::_::_::_,h1=>grind [H4]
   grind
def agm(s:List UInt8)(e:Int):Bool:=ω s.length 1000&&(dV s&&(ab 0 e&&(ab e 1000&&magOk s e.toNat)))
def K6:dP:=λ
 | [.g [.e ng,.e lg,.f s,.a .i64 e,.a .i64 g,.f mo,.f da,.a .u8 a,.a .u8 b,.a .u8 c]]=>some (aH [agm s e,H4 mo,H4 da,kY (dY ng s e) (XR mo) (XR da)] (.a0 (vR (iO (dY ng s e) (XR mo) (XR da)) (iD (dY ng s e) (XR mo) (XR da)))))
 | _=>none
def LA:aQ:=d5 (d5 (d5 gZ 87 s9) 88 aiX) 89 alz
def aiQ:dP:=λ
 | [.f l]=>some (aH [H4 l] (.a0 (XR l)))
 | _=>none
def aj8:dP:=λ
 | [.g [.e ng,.e lg,.f s,.a .i64 e,.a .i64 g,.f mo,.f da,.a .u8 a,.a .u8 b,.a .u8 c]]=>some (aH [ω s.length 1000,ω mo.length 1000,ω da.length 1000] (.a0 (eA (s++mo++da) || ab 1 g)))
 | _=>none
def afT(a b:Bool):Bool:=bif a then b else !b
def akc:dP:=λ
 | [.g [.e ng,.e lg,.f s,.a .i64 e,.a .i64 g,.f mo,.f da,.a .u8 a,.a .u8 b,.a .u8 c],.g [.a .i64 y,.a .i64 m,.a .i64 d]]=>some (aH [kY y m d,afT (ae mo []) (aa m 0),afT (ae da []) (aa d 0)] (.a0 (.c [vR (iO y m d) (iD y m d),.a .i64 0])))
 | _=>none
def F2:aQ:=d5 (d5 (d5 (d5 (d5 gZ 42 tx) 146 Ol) 81 aiQ) 145 aj8) 147 akc
def B_:dP:=λ
 | [.a .i64 y,.a .u8 p]=>some (aH [eO y,aa p 1] (.a0 (.c [vR (bf y) (bf (y+1)-1),.a .i64 0])))
 | _=>none
def N8(ng lg:Bool)(s:List UInt8)(e g:Int)(mo da:List UInt8)(a b c:Int):gG Q (pT LA jE 34 [.g [ng,lg,s,e,g,mo,da,.a .u8 a,.a .u8 b,.a .u8 c]]) (bE 11111111104040040044444005)=((ω (χ s) 1000->((dV s->((ab 0 e->((ab e 1000->((magOk s (Int.toNat e)->((H4 mo->((H4 da->((kY (dY ng s e) (XR mo) (XR da)->Q (AV.g (σ (AV.a .i8 0) (σ (iO (dY ng s e) (XR mo) (XR da)) (σ (AV.a .i8 0) (σ (iD (dY ng s e) (XR mo) (XR da)) Γ))))))/\(kY (dY ng s e) (XR mo) (XR da)=false->False)))/\(H4 da=false->False)))/\(H4 mo=false->False)))/\(magOk s (Int.toNat e)=false->False)))/\(ab e 1000=false->False)))/\(ab 0 e=false->False)))/\(dV s=false->False)))/\(ω (χ s) 1000=false->False)):=by kernel_rfl
theorem am4:gG Q (pT gZ jE 81 [.f []]) (.e (.e .z))=Q (AV.a .i64 0):=by rfl
theorem amS(a b:UInt8)(ha:48<=a.toNat/\a.toNat<=57)(hb:48<=b.toNat/\b.toNat<=57):gG Q (pT gZ jE 81 [.f [a,b]]) (bE 10027057005)=(af .u8 (ο (ν (ς a)) 48)/\(af .i64 (ο (ν (ς a)) 48)/\(af .i64 (ξ 0 (ο (ν (ς a)) 48))/\(af .i64 (τ 10 (ξ 0 (ο (ν (ς a)) 48)))/\(af .u8 (ο (ν (ς b)) 48)/\(af .i64 (ο (ν (ς b)) 48)/\(af .i64 (ξ (τ 10 (ξ 0 (ο (ν (ς a)) 48))) (ο (ν (ς b)) 48))/\Q (ξ (τ 10 (ξ 0 (ο (ν (ς a)) 48))) (ο (ν (ς b)) 48))))))))):=by rfl
theorem aos(ng lg:Bool)(s:List UInt8)(e g:Int)(mo da:List UInt8)(a b c:Int)(hs:s.length<=1000)(hm:mo.length<=1000)(hd:da.length<=1000):gG Q (pT X1 jE 145 [.g [ng,lg,s,e,g,mo,da,.a .u8 a,.a .u8 b,.a .u8 c]]) (bE 11128132022440040200)=(ω (HAdd.hAdd (χ s) (χ mo)) 1000000/\((ω (HAdd.hAdd (χ (π s mo)) (χ da)) 1000000->((ω (χ (π (π s mo) da)) 1000000->((Δ (eA (π (π s mo) da))->(Δ (eA (π (π s mo) da))/\(Δ (eA (π (π s mo) da))/\(Δ (eA (π (π s mo) da))/\(eA (π (π s mo) da)=false/\Q (Δ (ab g 0)))))))/\(Δ (eA (π (π s mo) da))=false->(Δ (eA (π (π s mo) da))=false/\(Δ (eA (π (π s mo) da))=false/\(Δ (eA (π (π s mo) da))=false/\(eA (π (π s mo) da)/\Q Bool.true)))))))/\(ω (χ (π (π s mo) da)) 1000000=false->False)))/\(ω (HAdd.hAdd (χ (π s mo)) (χ da)) 1000000=false->False))):=by rfl
def Of(ng lg:Bool)(s:List UInt8)(e g:Int)(mo da:List UInt8)(a b c:Int):gG Q (pT F2 jE 75 [.g [ng,lg,s,e,g,mo,da,.a .u8 a,.a .u8 b,.a .u8 c]]) (bE 111111111001111110444040045642005104700610444444444006)=((ω (χ s) 1000->((ω (χ mo) 1000->((ω (χ da) 1000->((af .i64 e->((af .i64 g->((af .u8 a->((af .u8 b->((af .u8 c->((Δ (aa (bW ng lg s e g mo da a b c) 0)->Q (AV.c (σ (AV.g (σ (AV.a .i8 0) (σ (AV.a .i64 0) (σ (AV.a .i8 0) (σ (AV.a .i64 0) Γ))))) (σ (bW ng lg s e g mo da a b c) Γ))))/\(Δ (aa (bW ng lg s e g mo da a b c) 0)=false->(ω (χ s) 1000/\(ω (χ mo) 1000/\(ω (χ da) 1000/\((Bool.or (eA (π (π s mo) da)) (ab 1 g)->Q (AV.c (σ (AV.g (σ (AV.a .i8 0) (σ (AV.a .i64 0) (σ (AV.a .i8 0) (σ (AV.a .i64 0) Γ))))) (σ (AV.a .i64 1) Γ))))/\(Bool.or (eA (π (π s mo) da)) (ab 1 g)=false->(ω (χ s) 1000/\((Bool.and (aV ng lg s e g) (Nat.beq (eC s 88 88) 0)->((H4 mo->((H4 da->((kY (dY ng s e) (XR mo) (XR da)->((cond (ae mo Γ) (aa (XR mo) 0) (Δ (aa (XR mo) 0))=true->((cond (ae da Γ) (aa (XR da) 0) (Δ (aa (XR da) 0))=true->Q (AV.c (σ (AV.g (σ (AV.a .i8 0) (σ (iO (dY ng s e) (XR mo) (XR da)) (σ (AV.a .i8 0) (σ (iD (dY ng s e) (XR mo) (XR da)) Γ))))) (σ (AV.a .i64 0) Γ))))/\(cond (ae da Γ) (aa (XR da) 0) (Δ (aa (XR da) 0))=false->False)))/\(cond (ae mo Γ) (aa (XR mo) 0) (Δ (aa (XR mo) 0))=false->False)))/\(kY (dY ng s e) (XR mo) (XR da)=false->False)))/\(H4 da=false->False)))/\(H4 mo=false->False)))/\(Bool.and (aV ng lg s e g) (Nat.beq (eC s 88 88) 0)=false->Q (AV.c (σ (AV.g (σ (AV.a .i8 0) (σ (AV.a .i64 0) (σ (AV.a .i8 0) (σ (AV.a .i64 0) Γ))))) (σ (AV.a .i64 6) Γ))))))))))))))/\(af .u8 c=false->False)))/\(af .u8 b=false->False)))/\(af .u8 a=false->False)))/\(af .i64 g=false->False)))/\(af .i64 e=false->False)))/\(ω (χ da) 1000=false->False)))/\(ω (χ mo) 1000=false->False)))/\(ω (χ s) 1000=false->False)):=by kernel_rfl
theorem Oe(y:Int)(hy : -10000000000000000<=y/\y<=10000000000000000):gG Q (pT R7 jE 74 [y,.a .u8 1]) (bE 110520406)=((eO y->(eO y/\Q (AV.c (σ (AV.g (σ (AV.a .i8 0) (σ (bf y) (σ (AV.a .i8 0) (σ (Β (bf (HAdd.hAdd y 1)) 1) Γ))))) (σ (AV.a .i64 0) Γ)))))/\(eO y=false->False)):=by rfl
theorem akG:ec eS 34=some (dH 34,aL 34):=by rfl
theorem amt(hS:ak Tryz.prog cfg S):ak Tryz.prog cfg (d5 S 34 K6):=by
 refine au hS λargs t v he hv=>?_;unfold K6 at he;split at he
 . rename_i ng lg s e g mo da a b c;cases he;replace hv:=aF hv;obtain⟨⟨h1,h2,h3,h4,-⟩,hv⟩:=hv;cases hv;unfold agm at h1;simp only[zAa]at h1;refine kA (ae0 (UJ aW)) (L:=jE) akG (by simp) ai (eD λQ' hQ=>cg ((N8 ng lg s e g mo da a b c).mpr ?_)) (by rfl);rw[h1.1,h1.2.1,h1.2.2.1,h1.2.2.2.1,h1.2.2.2.2,h2,h3,h4];simp only[true_imp_iff,reduceCtorEq,false_imp_iff,and_true];exact hQ _ rfl
 grind
theorem afW:ec eS 81=some (dH 81,aL 81):=by rfl
theorem aiF:ec eS 145=some (dH 145,aL 145):=by rfl
theorem alP:ec eS 74=some (dH 74,aL 74):=by rfl
theorem acr{a b:Bool}:afT a b=true↔a=b:=by cases a<;>cases b<;>decide
theorem ahQ(hS:ak Tryz.prog cfg S):ak Tryz.prog cfg (d5 S 81 aiQ):=by
 refine au hS λargs t v he hv=>?_;unfold aiQ at he;split at he
 . rename_i l;cases he;obtain⟨h1,hv'⟩:=eL hv;clear hv;have hv:=hv';clear hv'
   cases hv
   match l,h1 with
   | [],_=>exact kA aW (L:=jE) afW (by simp) ai (eD λQ' hQ=>cg (am4.mpr (hQ _ rfl))) (by rfl)
   | [a,b],h1=>
     unfold H4 dB at h1;simp only[zAa,zAc]at h1;refine kA aW (L:=jE) afW (by simp) ai (eD λQ' hQ=>cg ((amS a b h1.1 h1.2).mpr ?_)) (by rfl);have fin:∀x:Int,x=ko a b->Q' x:=λx h=>hQ _ (by rw[h];rfl);simp_all [ko,Pp,eH,eE];omega
   | [_],h1=>grind [H4]
   | _::_::_::_,h1=>grind [H4]
 grind
theorem ake(hS:ak Tryz.prog cfg S):ak Tryz.prog cfg (d5 S 145 aj8):=by
 refine au hS λargs t v he hv=>?_;unfold aj8 at he;split at he
 . rename_i ng lg s e g mo da a b c;cases he;replace hv:=aF hv;obtain⟨⟨h1,h2,h3,-⟩,hv⟩:=hv;cases hv;rw[al]at h1 h2 h3;refine kA Uy (L:=jE) aiF (by simp) ai (eD λQ' hQ=>cg ((aos ng lg s e g mo da a b c h1 h2 h3).mpr ?_)) (by rfl);grind [al,aq]
 grind
theorem akk(hS:ak Tryz.prog cfg S):ak Tryz.prog cfg (d5 S 147 akc):=by
 refine au hS λargs t v he hv=>?_;unfold akc at he;split at he
 . rename_i ng lg s e g mo da a b c y m d;cases he;replace hv:=aF hv;obtain⟨⟨h1,h2,h3,-⟩,hv⟩:=hv;cases hv;rw[acr]at h2 h3;obtain⟨hy,hd,hm⟩:=ju.1 h1;have yb:=bX.2 hy;have cb:=@mg m;have hi:1<=m->m<=12->dc (12*y+m-1) 12=y/\j8 (12*y+m-1)=m-1:=λk1 k2=>by grind [dc,j8]
   have hid:aC (.c [vR (iO y m d) (iD y m d),.a .i64 0])=[]:=by rfl
   by_cases hm0:m=0
   . have hmo:ae mo []=true:=by grind [ao]
     subst hm0;refine kA J6 (L:=jE) afC (by simp) ai (eD λQ' hQ=>cg ((amZ ng lg s e g mo da a b c y 0 d).mpr ?_)) hid;dsimp only;have hQ:Q' (.c [vR (bf y) (bf (y+1)-1),.a .i64 0]):=hQ _ rfl;grind [vR]
   . have hmo:ae mo []=false:=by grind [aw]
     have hm1:1<=m/\m<=41:=by omega
     have b2:m<=12->-3652425000000000001<=aG (dc (12*y+m-1) 12) (j8 (12*y+m-1)+1)/\aG (dc (12*y+m-1) 12) (j8 (12*y+m-1)+1)<=3652425000000000800:=λh=>by
      obtain⟨e1,e2⟩:=hi hm1.1 h;rw[e1,e2];exact mst_bd hy (by omega) (by omega)
     refine kA J6 (L:=jE) afC (by simp) ai (eD λQ' hQ=>cg ((anE ng lg s e g mo da a b c y m d).mpr ?_)) hid;dsimp only;have hQ:=hQ _ rfl;have hm0:aa m 0=false:=aw.mpr hm0;unfold vR iO iD at hQ;rw[hm0,cond_false,cond_false]at hQ;rw[yb,h3,hmo];generalize fq y m=sy at *;generalize kX y m=sm at *;generalize aG y (fR m)=k1 at *;generalize aG sy (sm+2)=k2 at *;cases h13:ab 13 m with
     | true=>
       grind [bF]
     | false=>
       rw[h13,cond_false,cond_false]at hQ;rw[bF]at h13;have h12:ab m 12=true:=by rw[aq];omega
       obtain⟨e1,e2⟩:=hi (by omega) (by omega);have b3:=@mst_bd y m hy (by omega) (by omega);rw[h12];rw[show ο (ξ (τ 12 y) m) 1=12*y+m-1 from rfl,e1,e2,yb,show m-1+1=m by omega,show m-1+2=m+1 by omega];clear b2 hi h2 h3;generalize aG y m=k3 at *;generalize aG y (m+1)=k4 at *;cases hd0:aa d 0 with
       | true=>
         simp_all [Pp,eH,eE];omega
       | false=>
         simp_all [Pp,eH,eE];omega
 grind
theorem anW(hS:ak Tryz.prog cfg S):ak Tryz.prog cfg (d5 S 74 B_):=by
 refine au hS λargs t v he hv=>?_;unfold B_ at he;split at he
 . rename_i y p;cases he;replace hv:=aF hv;obtain⟨⟨h1,h2,-⟩,hv⟩:=hv;cases hv;rw[ao]at h2;subst h2;refine kA yF (L:=jE) alP (by simp) ai (eD λQ' hQ=>cg ((Oe y (bX.1 h1)).mpr ?_)) (by rfl);grind [vR]
 grind
theorem alb:ak Tryz.prog cfg F2:=akk (ake (ahQ (Ks (G9 aW))))
def fG(s:List UInt8)(e g:Int):Int:=lK (ν s.length+e-g)
def gf(s:List UInt8)(e:Int):Int:=ν (cF s e.toNat)
def oS(s:List UInt8)(e g:Int):Int:=gf s e-gf s e%fG s e g
def wN(s:List UInt8)(e g:Int):Int:=gY (oS s e g+fG s e g-1) 10000000000000000
def jI(ng:Bool)(s:List UInt8)(e g:Int):Int:=bif ng then -(wN s e g)else oS s e g
def jL(ng:Bool)(s:List UInt8)(e g:Int):Int:=bif ng then -(oS s e g)else wN s e g
def B8:dP:=λ
 | [.g [.e ng,.e lg,.f s,.a .i64 e,.a .i64 g]]=>some (aH [ω s.length 1000,aV ng lg s e g,ab 1 g] (.a0 (.c [(jI ng s e g),(jL ng s e g),.a .i64 0])))
 | _=>none
def BN:dP:=λ
 | [.g [.e ng,.e lg,.f s,.a .i64 e,.a .i64 g,.f mo,.f da,.a .u8 a,.a .u8 b,.a .u8 c]]=>some (aH [ω s.length 1000,aV ng lg s e g,ab 1 g] (.a0 (.c [(jI ng s e g),(jL ng s e g)])))
 | _=>none
def Dg:dW:=λvs o=>match vs,o with
 | [.h 14 0,.a .i64 y,.a .i64 z,.h 15 0,.a .i64 v,.a .i64 u,.a .i64 k],⟨2,[.a [.e nf,.e lf,.f sf,.a .i64 ef,.a .i64 g] true none,.a w true none],[]⟩=>some (aH [aa y 0,aa z 0,aa u 1,ab g k,ab (k-g) 16,ab 0 g,ab k 1000] (.a0 (.b 0,[.h 14 0,.a .i64 0,.a .i64 0,.h 15 0,v,(lK (k-g)),g],o)))
 | _,_=>none
def Mm:cx:=iz jE 0 (d9 48 [1,2,3,4,5,6,7] Dg)
def yK:aQ:=d5 gZ 88 aiX
theorem akU:ec eS 86=some (dH 86,aL 86):=by rfl
theorem aiP:(bz (aL 86)).map (·.1)=[0]:=by rfl
theorem aeO:∀(r:List UInt8) (n:Nat),n*10^r.length<=r.foldl (λn b=>n*10+(b.toNat-48)) n
 | [],n=>by simp
 | b::r,n=>by
   have h:=aeO r (n*10+(b.toNat-48));have:n*10^(r.length+1)<=(n*10+(b.toNat-48))*10^r.length:=by
    rw[Nat.pow_succ,<-Nat.mul_assoc,Nat.mul_right_comm];grind
   grind
theorem ac9{ng lg:Bool}{s:List UInt8}{e g:Int}(hk:aV ng lg s e g)(hg:1<=g):eC s 88 88=0/\g<=s.length+e/\s.length+e<=17:=by
 have h:=hk;unfold aV at h;rw[zAc]at h;have hx:eC s 88 88=0:=by omega
 refine⟨hx,by omega,?_⟩;rcases h with⟨k1,k2,⟨l1,l2,l3,l4⟩|⟨l1,l2,l3,l4,l5,l6,l7,l8,l9,l10⟩⟩
 . omega
 . unfold magOk at l10;rw[al]at l10
   match s,l3,l4,l5,l10,k1 with
   | [],l3,_,_,_,_=>grind
   | c::r,l3,l4,l5,l10,k1=>
     have l5:c.toNat≠48:=l5;have hd:dV (c::r)=true:=oV (by omega);have hc:=@pz (c::r) hd 0 (by simp);have hc:48<=c.toNat/\c.toNat<=57:=hc;have h1:(c.toNat-48)*10^r.length<=numL (c::r):=by
      have:=aeO r (0*10+(c.toNat-48));rw[Nat.zero_mul,Nat.zero_add]at this;show _<=r.foldl _ (0*10+(c.toNat-48));grind
     have h2:10^r.length<=numL (c::r):=Ι (Nat.le_mul_of_pos_left _ (by omega)) h1;have h3:10^(r.length+e.toNat)<=10^16:=by
      rw[Nat.pow_add];exact Ι (Nat.mul_le_mul_right _ h2) l10
     have h4:r.length+e.toNat<=16:=(Nat.pow_le_pow_iff_right (by decide)).1 h3;grind
theorem agL{k:Int}(h:k<=16):1<=lK k/\lK k<=10000000000000000:=by
 unfold lK;have h1:1<=10^k.toNat:=Nat.pos_of_ne_zero (by simp);have h2:10^k.toNat<=10^16:=Η (by decide) (by omega);omega
theorem ad3{ng lg:Bool}{s:List UInt8}{e g:Int}(hk:aV ng lg s e g)(hg:1<=g):(1<=fG s e g/\fG s e g<=10000000000000000)/\(0<=gf s e/\gf s e<=10000000000000000)/\(0<=gf s e%fG s e g/\gf s e%fG s e g<fG s e g/\gf s e%fG s e g<=gf s e)/\(gf s e).tdiv (fG s e g)*fG s e g=oS s e g/\(0<=(gf s e).tdiv (fG s e g)/\(gf s e).tdiv (fG s e g)<=gf s e)/\(gf s e).tmod (fG s e g)=gf s e%fG s e g:=by
 obtain⟨hx,h1,h2⟩:=ac9 hk hg;obtain⟨_,_,_,_,hv⟩:=Bk hk hx;have u:1<=fG s e g/\fG s e g<=10000000000000000:=agL (by grind);have m:0<=gf s e/\gf s e<=10000000000000000:=by grind [gf]
 have r0:=Int.emod_nonneg (gf s e) (show fG s e g≠0 by omega);have r1:=Int.emod_lt_of_pos (gf s e) (show 0<fG s e g by omega);have ed:=Int.emod_add_mul_ediv (gf s e) (fG s e g);have dn:=Int.ediv_nonneg m.1 (show 0<=fG s e g by omega);have pn:0<=fG s e g*(gf s e/fG s e g):=Int.mul_nonneg (by omega) dn;simp_all [Int.tdiv_eq_ediv_of_nonneg,Int.tmod_eq_emod_of_nonneg,Int.mul_comm,oS,Int.ediv_le_self];omega
theorem apq:cu Tryz.prog (cH cfg yK) (Cw cfg []) (lb 86 0) 48 [1,2,3,4,5,6,7] Dg:=by
 have hS:ak Tryz.prog cfg yK:=bm aW ((ae0 aW) 88 _ rfl);intro vs o t Q hv hq J;unfold Dg at hv;split at hv
 . rename_i y z v u k nf lf sf ef g w;cases hv;replace hq:=cO hq;obtain⟨⟨h1,h2,h3,h4,h5,h6,h7,-⟩,hq⟩:=hq;rw[ao]at h1 h2 h3;rw[aq]at h4 h5 h6 h7;subst h1 h2 h3;simp only[aH,Tr.wp]at hq;refine ia hS rfl rfl ai (ι:={i:Nat // (i:Int)<=k-g}) (λx=>[.h 14 0,.a .i64 0,.a .i64 0,.h 15 0,.a .i64 v,.a .i64 (lK x.1),.a .i64 (k-x.1)]) (λ_=>⟨2,[.a [.e nf,.e lf,.f sf,.a .i64 ef,.a .i64 g] true none,.a w true none],[]⟩) (λx=>(k-g-x.1).toNat) 2 (λ_=>Ζ _) (λx J=>?_) (Ζ _) (λJ=>Wk.a0 ⟨⟨0,by omega⟩,J,by dsimp only;rw[show k-((0:Nat):Int)=k by omega];rfl⟩) J;obtain⟨i,hi⟩:=x;dsimp only;have hb:=@agL i (by omega);have hs:lK ((i+1:Nat):Int)=lK i*10:=by
    rfl
   refine jJ (bE 112240) (R:=λQ=>(not (ab (k-i) g)->af .i64 (τ (lK i) 10)/\af .i64 (ο (k-i) 1)/\Q (.a,[.h 14 0,.a .i64 0,.a .i64 0,.h 15 0,.a .i64 v,.a .i64 (τ (lK i) 10),.a .i64 (ο (k-i) 1)],⟨2,[.a [.e nf,.e lf,.f sf,.a .i64 ef,.a .i64 g] true none,.a w true none],[]⟩))/\(not (ab (k-i) g)=false->Q (.b 0,[.h 14 0,.a .i64 0,.a .i64 0,.h 15 0,.a .i64 v,.a .i64 (lK i),.a .i64 (k-i)],⟨2,[.a [.e nf,.e lf,.f sf,.a .i64 ef,.a .i64 g] true none,.a w true none],[]⟩))) (λ_=>by rfl) λQ' hQ=>?_;have next:(i:Int)<k-g->∀x:Int,x=k-i-1->∃z:{i:Nat // (i:Int)<=k-g},(k-g-z.1).toNat<(k-g-i).toNat/\VW cfg (Cw cfg []) 2 48 [1,2,3,4,5,6,7] [.h 14 0,.a .i64 0,.a .i64 0,.h 15 0,.a .i64 v,.a .i64 (lK i*10),.a .i64 x] ⟨2,[.a [.e nf,.e lf,.f sf,.a .i64 ef,.a .i64 g] true none,.a w true none],[]⟩ [.h 14 0,.a .i64 0,.a .i64 0,.h 15 0,.a .i64 v,.a .i64 (lK z.1),.a .i64 (k-z.1)] ⟨2,[.a [.e nf,.e lf,.f sf,.a .i64 ef,.a .i64 g] true none,.a w true none],[]⟩:=λh x hx=>by
    subst hx;exact⟨⟨i+1,by omega⟩,by grind,VW.b0 (by grind) rfl⟩
   have fin:(i:Int)=k-g->Q (.b 0,[.h 14 0,.a .i64 0,.a .i64 0,.h 15 0,.a .i64 v,.a .i64 (lK i),.a .i64 (k-i)],⟨2,[.a [.e nf,.e lf,.f sf,.a .i64 ef,.a .i64 g] true none,.a w true none],[]⟩):=λh=>by
    grind
   clear hq hs;generalize lK i=U at *;simp only[az,reduceCtorEq]
   (repeat' first|exact trivial|refine⟨?_,?_⟩|intro)<;>first|omega|refine hQ _ ?_
   . exact next (by omega) _ (by omega)
   grind [VW.a0]
 grind
theorem ane(hS:ak Tryz.prog cfg S):ak Tryz.prog cfg (d5 S 73 B8):=by
 refine au hS λargs t v he hv=>?_;unfold B8 at he;split at he
 . rename_i ng lg s e g;cases he;replace hv:=aF hv;obtain⟨⟨h1,hk,hg,-⟩,hv⟩:=hv;cases hv;rw[al]at h1;rw[aq]at hg;obtain⟨hx,g1,g2⟩:=ac9 hk hg;obtain⟨he',hl,hd,hm,_⟩:=Bk hk hx;obtain⟨u1,m1,r1,e1,t1,_⟩:=ad3 hk hg;refine nF nt ai (bE 1122402770202002077005300532005) (R:=λQ=>ω s.length 1000/\not (aa (cond (aV ng lg s e g) 0 6) 0)=false/\not (Nat.beq (eC s 88 88) 0)=false/\dV s/\aS 0 s.length/\ω s.length 18/\ab 0 e/\ab e 16/\magOk s e.toNat/\not (ab g 0)/\af .i64 (ξ (ν s.length) e)/\af .i64 (ο (ξ (ν s.length) e) g)/\ab 0 (ο (ξ (ν s.length) e) g)/\ab (ο (ξ (ν s.length) e) g) 18/\not (aa (kh (lK (ο (ξ (ν s.length) e) g)) 1) 0)/\af .i64 (Ε (ν (cF s e.toNat)) (kh (lK (ο (ξ (ν s.length) e) g)) 1))/\af .i64 (τ (Ε (ν (cF s e.toNat)) (kh (lK (ο (ξ (ν s.length) e) g)) 1)) (lK (ο (ξ (ν s.length) e) g)))/\af .i64 (ξ (τ (Ε (ν (cF s e.toNat)) (kh (lK (ο (ξ (ν s.length) e) g)) 1)) (lK (ο (ξ (ν s.length) e) g))) (lK (ο (ξ (ν s.length) e) g)))/\af .i64 (ο (ξ (τ (Ε (ν (cF s e.toNat)) (kh (lK (ο (ξ (ν s.length) e) g)) 1)) (lK (ο (ξ (ν s.length) e) g))) (lK (ο (ξ (ν s.length) e) g))) 1)/\(ng->af .i64 (ο 0 (gY (ο (ξ (τ (Ε (ν (cF s e.toNat)) (kh (lK (ο (ξ (ν s.length) e) g)) 1)) (lK (ο (ξ (ν s.length) e) g))) (lK (ο (ξ (ν s.length) e) g))) 1) 10000000000000000))/\af .i64 (ο 0 (τ (Ε (ν (cF s e.toNat)) (kh (lK (ο (ξ (ν s.length) e) g)) 1)) (lK (ο (ξ (ν s.length) e) g))))/\Q (.c [(ο 0 (gY (ο (ξ (τ (Ε (ν (cF s e.toNat)) (kh (lK (ο (ξ (ν s.length) e) g)) 1)) (lK (ο (ξ (ν s.length) e) g))) (lK (ο (ξ (ν s.length) e) g))) 1) 10000000000000000)),(ο 0 (τ (Ε (ν (cF s e.toNat)) (kh (lK (ο (ξ (ν s.length) e) g)) 1)) (lK (ο (ξ (ν s.length) e) g)))),.a .i64 0]))/\(ng=false->Q (.c [(τ (Ε (ν (cF s e.toNat)) (kh (lK (ο (ξ (ν s.length) e) g)) 1)) (lK (ο (ξ (ν s.length) e) g))),(gY (ο (ξ (τ (Ε (ν (cF s e.toNat)) (kh (lK (ο (ξ (ν s.length) e) g)) 1)) (lK (ο (ξ (ν s.length) e) g))) (lK (ο (ξ (ν s.length) e) g))) 1) 10000000000000000),.a .i64 0]))) (λ_=>by rfl) λQ' hQ=>?_;unfold jI jL wN at hQ;have eu:lK (ο (ξ (ν s.length) e) g)=fG s e g:=rfl;have em:ν (cF s e.toNat)=gf s e:=rfl;have mx:kh (fG s e g) 1=fG s e g:=by rw[kP];omega
   have e2:τ ((gf s e).tdiv (fG s e g)) (fG s e g)=oS s e g:=e1;rw[eu,em,mx,e2,hx,hd,hm,hk];have lb:0<=oS s e g/\oS s e g<=10000000000000000:=by unfold oS;omega
   generalize oS s e g=l at *;generalize (gf s e).tdiv (fG s e g)=q at *;generalize fG s e g=u at *;generalize gf s e=mm at *;show ω s.length 1000/\_;rw[show ο (ξ l u) 1=l+u-1 from rfl];have mb:gY (l+u-1) 10000000000000000<=10000000000000000/\0<=gY (l+u-1) 10000000000000000:=by rw[EB];omega
   generalize gY (l+u-1) 10000000000000000=h at *;cases ng<;>simp only[zAj]at hQ<;>simp only[az,reduceCtorEq]<;>(repeat' first|exact trivial|refine⟨?_,?_⟩|intro)<;>first|contradiction|omega|exact hQ|rfl|grind
 grind
theorem amn(hS:ak Tryz.prog cfg S):ak Tryz.prog cfg (d5 S 86 BN):=by
 have hS':ak Tryz.prog cfg yK:=bm aW ((ae0 aW) 88 _ rfl);refine au hS λargs t v he hv=>?_;unfold BN at he;split at he
 . rename_i ng lg s e g mo da a b c;cases he;replace hv:=aF hv;obtain⟨⟨h1,hk,hg,-⟩,hv⟩:=hv;cases hv;rw[al]at h1;rw[aq]at hg;obtain⟨hx,g1,g2⟩:=ac9 hk hg;obtain⟨he',hl,hd,hm,_⟩:=Bk hk hx;obtain⟨u1,m1,r1,e1,t1,t2⟩:=ad3 hk hg;refine kA hS' (L:=Mm) akU (by simp) (dv aiP λi hi e he st Q hw=>?_) (jJ (bE 112240227700020022756) (R:=λQ=>ω s.length 1000/\dV s/\ab 0 e/\ab e 1000/\magOk s e.toNat/\af .i64 (ξ (ν s.length) e)/\ab g (ξ (ν s.length) e)/\ab (Β (ξ (ν s.length) e) g) 16/\ab 0 g/\ab (ξ (ν s.length) e) 1000/\(∀J1:Nat->Value,not (aa (lK (Β (ξ (ν s.length) e) g)) 0)/\af .i64 (ο (ν (cF s e.toNat)) (Θ (ν (cF s e.toNat)) (lK (Β (ξ (ν s.length) e) g))))/\af .i64 (ο (lK (Β (ξ (ν s.length) e) g)) 1)/\af .i64 (ξ (ο (ν (cF s e.toNat)) (Θ (ν (cF s e.toNat)) (lK (Β (ξ (ν s.length) e) g)))) (ο (lK (Β (ξ (ν s.length) e) g)) 1))/\(ng->af .i64 (ο 0 (gY (ξ (ο (ν (cF s e.toNat)) (Θ (ν (cF s e.toNat)) (lK (Β (ξ (ν s.length) e) g)))) (ο (lK (Β (ξ (ν s.length) e) g)) 1)) 10000000000000000))/\af .i64 (ο 0 (ο (ν (cF s e.toNat)) (Θ (ν (cF s e.toNat)) (lK (Β (ξ (ν s.length) e) g)))))/\Q (.c [(ο 0 (gY (ξ (ο (ν (cF s e.toNat)) (Θ (ν (cF s e.toNat)) (lK (Β (ξ (ν s.length) e) g)))) (ο (lK (Β (ξ (ν s.length) e) g)) 1)) 10000000000000000)),(ο 0 (ο (ν (cF s e.toNat)) (Θ (ν (cF s e.toNat)) (lK (Β (ξ (ν s.length) e) g)))))]))/\(ng=false->Q (.c [(ο (ν (cF s e.toNat)) (Θ (ν (cF s e.toNat)) (lK (Β (ξ (ν s.length) e) g)))),(gY (ξ (ο (ν (cF s e.toNat)) (Θ (ν (cF s e.toNat)) (lK (Β (ξ (ν s.length) e) g)))) (ο (lK (Β (ξ (ν s.length) e) g)) 1)) 10000000000000000)])))) (λ_=>by rfl) λQ' hQ=>?_) (by rfl)
   . have hi:i=0:=by grind
     subst hi;cases he;exact bR (cC.a0 hS') (by decide) rfl apq hw
   have hQ:=hQ _ rfl;unfold jI jL wN oS at hQ;have eu:lK (ξ (ν s.length) e-g)=fG s e g:=rfl;have em:ν (cF s e.toNat)=gf s e:=rfl;have t3:Θ (gf s e) (fG s e g)=gf s e%fG s e g:=t2;rw[eu,em,t3,hd,hm];generalize gf s e%fG s e g=r at *;generalize fG s e g=u at *;generalize gf s e=mm at *;show ω s.length 1000/\_;rw[show ξ (ο mm r) (ο u 1)=mm-r+u-1 by grind];have mb:gY (mm-r+u-1) 10000000000000000<=10000000000000000/\0<=gY (mm-r+u-1) 10000000000000000:=by rw[EB];omega
   generalize gY (mm-r+u-1) 10000000000000000=h at *;cases ng<;>simp only[zAj]at hQ<;>simp only[az,reduceCtorEq]<;>(repeat' first|exact trivial|refine⟨?_,?_⟩|intro)<;>first|contradiction|omega|exact hQ|rfl|grind
 grind
end Go.Ev
