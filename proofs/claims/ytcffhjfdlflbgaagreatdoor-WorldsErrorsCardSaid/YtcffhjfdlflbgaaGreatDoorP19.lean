import Derived.Test.YtcffhjfdlflbgaaGreatDoorP18
set_option linter.all false
open Int renaming ofNat->ν
open Nat renaming beq->ξ,ble->ο
set_option linter.all false
set_option maxRecDepth 100000
set_option maxHeartbeats 4000000
section
namespace Go.Ev
open Go Go.Proofs
def Pt:dP:=λ
 | [.e [c0,c1,c2,c3],.a .i64 n,.b b]=>some (aH [fC c0,fC c1,fC c2,fC c3,ab 0 n,ab n 9999] (.d0 b λb=>bif b then Et (c_ c0 c1 c2 c3 n)else Et (cV c0 c1 c2 c3 n)))
 | _=>none
def U7:aQ:=aK U6 219 Pt
def W8:dP:=λ
 | [.e [c0,c1,c2,c3],.a .i64 n]=>some (aH [fC c0,fC c1,fC c2,fC c3] (Et (cV c0 c1 c2 c3 n)))
 | _=>none
def U8:aQ:=aK U7 314 W8
theorem PT:ak Tryz.prog cfg U7:=by
 refine au Pl λargs t v he hv=>?_;unfold Pt at he;split at he
 . rename_i c0 c1 c2 c3 n b;cases he;obtain⟨⟨h0,h1,h2,h3,h4,h5,-⟩,hv⟩:=aF hv;rw[aq]at h4 h5;cases b with
   | true=>exact PG ⟨h4,h5⟩ (dD.1 h0) (dD.1 h1) (dD.1 h2) (dD.1 h3) hv
   | false=>exact anv ⟨h4,h5⟩ (dD.1 h0) (dD.1 h1) (dD.1 h2) (dD.1 h3) hv
 grind
theorem H2{c0 c1 c2 c3:UInt8}(h0:fC c0)(h1:fC c1)(h2:fC c2)(h3:fC c3){n:Int}(hn:9999<=n):cV c0 c1 c2 c3 n=some (gu c0 c1 c2 c3 57):=by
 rw[dD]at h0 h1 h2 h3;have ed:∀c:UInt8,(c.toNat=88\/48<=c.toNat/\c.toNat<=57)->0<=lL c 57/\lL c 57<=9/\mt c (lL c 57)/\∀k,mt c k->k<=9->k<=lL c 57:=λc h=>by
  grind [lL,mt,rY,ic]
 obtain⟨a0,b0,m0,l0⟩:=ed c0 h0;obtain⟨a1,b1,m1,l1⟩:=ed c1 h1;obtain⟨a2,b2,m2,l2⟩:=ed c2 h2;obtain⟨a3,b3,m3,l3⟩:=ed c3 h3;rw[fb];unfold gu;refine⟨(pw ⟨a0,b0⟩ ⟨a1,b1⟩ ⟨a2,b2⟩ ⟨a3,b3⟩).2 ⟨m0,m1,m2,m3⟩,by omega,λk hk _=>?_⟩;obtain⟨k0,k1,k2,k3,x0,x1,x2,x3,rfl,y0,y1,y2,y3⟩:=abJ hk;have:=l0 k0 y0 x0.2;have:=l1 k1 y1 x1.2;have:=l2 k2 y2 x2.2;have:=l3 k3 y3 x3.2;omega
theorem V6:ak Tryz.prog cfg U8:=by
 refine au PT λargs t v he hv=>?_;unfold W8 at he;split at he
 . rename_i c0 c1 c2 c3 n;cases he;obtain⟨⟨h0,h1,h2,h3,-⟩,hv⟩:=aF hv;have hv':Tr.b0 (bif za (cV c0 c1 c2 c3 n)then .a0 (.d [.a .i64 (kp (cV c0 c1 c2 c3 n)),.a .i64 0])else .a0 (.d [.a .i64 0,.a .i64 16]))=some v:=hv;have ids:aC v=[]:=by
    cases hb:za (cV c0 c1 c2 c3 n)<;>rw[hb]at hv'<;>cases hv'<;>simp[aC,bw]
   have yes:∀u,cV c0 c1 c2 c3 n=some u->v=(.d [.a .i64 u,.a .i64 0]):=λu hu=>by
    rw[hu]at hv';cases hv';rfl
   have no:cV c0 c1 c2 c3 n=none->v=(.d [.a .i64 0,.a .i64 16]):=λhu=>by
    rw[hu]at hv';cases hv';rfl
   refine jD PT ai (bE 1140770102700270422005627140270) (R:=λQ=>(λ(G:AV)(A B C E F H:Bool)(I:Option Int)=>(λ(N:Bool)(O:Prop)=>(λ(P:Prop->Prop)=>P ((N->O)/\(N=false->A/\A/\A/\A/\A/\A/\(H->P (P (Q (.d [.a .i64 (gu c0 c1 c2 c3 57),G]))))/\(H=false->P (A/\ab n 9999/\(za I->Q (.d [.a .i64 (kp I),G]))/\(za I=false->O)))))) (λu0=>B/\C/\E/\F/\u0)) (not A) (Q (.d [G,.a .i64 16]))) (.a .i64 0) (ab 0 n) (fC c0) (fC c1) (fC c2) (fC c3) (not (not (ab 10000 n))) (cV c0 c1 c2 c3 n)) (λ_=>by rfl) (hi:=ids) λQ' hQ=>?_;simp only[az,reduceCtorEq];have hle:∀k,nS c0 c1 c2 c3 k->0<=k:=λk hk=>hk.1
   (repeat' first|exact trivial|refine⟨?_,?_⟩|intro)<;>first|omega|assumption|refine hQ _ ?_
   . grind [nu]
   . grind [H2]
   . rename_i hs;obtain⟨u,hu⟩:=Option.isSome_iff_exists.1 hs;rw[yes u hu,hu];rfl
   . rename_i hs;exact(no (by cases hx:cV c0 c1 c2 c3 n with
      | none=>rfl
      | some u=>rw[hx]at hs;cases hs)).symm
 grind
end Go.Ev
end
section
namespace Go.Ev
open Go Go.Proofs Go.Proofs.YtcffhjfdlflbgaaGreatDoor
def By(s:List UInt8):Bool:=ξ (dT s 48 57+dT s 88 88) s.length
def Eg(s:List UInt8):List UInt8:=Lib.trimB s 48
def PQ:dP:=λ
 | [.e s,.e t]=>some (aH [ae t [88]] (.a0 (.b (!(ξ (dT s 88 88) 0)))))
 | _=>none
def XE:dP:=λ
 | [.e s,.e t]=>some (bif ae t [48,49,50,51,52,53,54,55,56,57]then .a0 (.b (dV s))else aH [ae t [88,48,49,50,51,52,53,54,55,56,57]] (.a0 (.b (By s))))
 | _=>none
def UE:dP:=λ
 | [.e s,.e t]=>some (aH [ae t [48],ο s.length 1000000] (.a0 (.e (Eg s))))
 | _=>none
def Uh:dP:=λ
 | [.e s,.a .i64 a,.a .i64 b]=>some (aH [aa a 10,aa b 64,dV s,aS 0 s.length,ο s.length 18] (.a0 (.d [.a .i64 (ν (numL s)),.k])))
 | _=>none
def WL:dP:=λ
 | [.a .i64 a,.a .i64 b]=>some (aH [ab 0 a,ab 0 b,af .i64 a,af .i64 b] (.d0 (ab (Int.mul a b) 9223372036854775807) λc=>bif c then .a0 (.d [.a .i64 (Int.mul a b),.a .i64 0])else .a0 (.d [.a .i64 0,.a .i64 15])))
 | _=>none
def Yp:aQ:=aK (aK (aK (aK (aK gZ 80 PQ) 213 XE) 214 UE) 220 Uh) 221 WL
theorem JF:aY tab 80=some (dH 80,aL 80):=κ
theorem G3:aY tab 213=some (dH 213,aL 213):=κ
theorem NS:aY tab 214=some (dH 214,aL 214):=κ
theorem Og:aY tab 220=some (dH 220,aL 220):=κ
theorem Hs:aY tab 221=some (dH 221,aL 221):=κ
theorem NR(s:List UInt8):hasX s=!(ξ (dT s 88 88) 0):=by
 grind [Ed,b9]
theorem Oh(s:List UInt8):mskB s=By s:=by
 grind [XB,By,aJ]
theorem BR:ak Tryz.prog cfg Yp:=by
 refine au (au (au (au (au aW λargs t v he hv=>?_) λargs t v he hv=>?_) λargs t v he hv=>?_) λargs t v he hv=>?_) λargs t v he hv=>?_
 . unfold PQ at he;split at he
   . rename_i s u;cases he;obtain⟨h1,hv⟩:=ex hv;rw[bV,beq_iff_eq]at h1;cases hv;subst h1;refine dy JF κ λm w hG=>?_;refine((Contains_X ⟨⟨s⟩⟩ w).mono λe w' h=>?_);grind [NR,aj,RowKit.Below.refl]
   grind
 . unfold XE at he;split at he
   . rename_i s u;cases he;cases hb:ae u [48,49,50,51,52,53,54,55,56,57]with
     | true=>
       rw[hb]at hv;rw[bV,beq_iff_eq]at hb;subst hb;cases hv;grind [dy,G3,aC,only_d,wK,aD,aj]
     | false=>
       rw[hb]at hv;obtain⟨h1,hv⟩:=ex hv;rw[bV,beq_iff_eq]at h1;cases hv;grind [dy,G3,aC,only_m,Oh,aD,aj]
   grind
 . unfold UE at he;split at he
   . rename_i s u;cases he;obtain⟨⟨h1,h2,-⟩,hv⟩:=aF hv;rw[bV,beq_iff_eq]at h1;rw[al]at h2;cases hv;subst h1;refine dy NS κ λm w hG=>?_;refine((Tryz.strings_Trim_one ⟨⟨s⟩⟩ 48 ζ w (by show s.length<=_;omega)).mono λe w' h=>?_);rcases h with⟨rfl,rfl|rfl⟩
     . grind [aj,Eg,RowKit.Below.refl]
     . exact⟨by rfl,(RowKit.Below.refl _ _).drew⟩
   grind
 . unfold Uh at he;split at he
   . rename_i s a b;cases he;obtain⟨⟨h1,h2,h3,h4,h5,-⟩,hv⟩:=aF hv;rw[ao]at h1 h2;rw[qy]at h4;rw[al]at h5;cases hv;subst h1 h2;refine dy Og κ λm w hG=>?_;have:=ParseInt_dig ⟨⟨s⟩⟩ w (by grind [wK]) (by show 1<=s.length;omega) (by show s.length<=18;omega);grind [BX,aD,aj]
   grind
 . unfold WL at he;split at he
   . rename_i a b;cases he;obtain⟨⟨h1,h2,h3,h4,-⟩,hv⟩:=aF hv;rw[aq]at h1 h2;rw[aE]at h3 h4;simp only[eH,eE]at h3 h4;obtain⟨x,rfl⟩:=Int.eq_ofNat_of_zero_le h1;obtain⟨y,rfl⟩:=Int.eq_ofNat_of_zero_le h2;have e:Int.mul (x:Int) (y:Int)=((x*y:Nat):Int):=(Int.natCast_mul x y).symm;rw[e]at hv;have hv:Tr.b0 (bif ab ((x*y:Nat):Int) 9223372036854775807 then .a0 (.d [.a .i64 ((x*y:Nat):Int),.a .i64 0])else .a0 (.d [.a .i64 0,.a .i64 15]))=some v:=hv;cases hb:ab ((x*y:Nat):Int) 9223372036854775807 with
     | true=>
       rw[hb]at hv;cases hv;rw[aq]at hb;refine dy Hs κ λm w hG=>?_;simpa [aD,aj]using Mul_ok x y w δ δ δ
     | false=>
       rw[hb]at hv;cases hv;rw[bF]at hb;refine dy Hs κ λm w hG=>?_;simpa [aD,aj]using Mul_no x y w δ δ δ
   grind
def lK(n:Int):Int:=((10^n.toNat:Nat):Int)
def Qa:dW:=λ
 | [.a .i64 p,.a .i64 n,.a .i64 i],⟨0,[],[]⟩=>some (aH [aa p 1,aa i 0,ab 0 n,ab n 18] (.a0 (.b 0,[.a .i64 (lK n),.a .i64 n,.a .i64 n],dO)))
 | _,_=>none
def Z0:cx:=iz jE 0 (d9 16 [4,9,10] Qa)
def Vk:dP:=λ
 | [.a .i64 n]=>some (aH [ab 0 n,ab n 18] (.a0 (.d [.a .i64 (lK n),.a .i64 0])))
 | _=>none
def Z5:aQ:=aK Yp 141 Vk
def Wh:dP:=λ
 | [.g [.b ng,.b lg,.e s,.a .i64 e,.a .i64 g]]=>some (aH [dV s,aS 0 s.length,ο s.length 18,ab 0 e,ab e 16] (.d0 (magOk s e.toNat) λb=>bif b then .a0 (.d [.a .i64 (ν (fa s e.toNat)),.a .i64 0])else .a0 (.d [.a .i64 0,.a .i64 6])))
 | _=>none
def YG:aQ:=aK Z5 140 Wh
def vU(s:List UInt8)(e:Int):Bool:=decide (1<=s.length/\s.length<=17/\dV s/\(s.getD 0 0).toNat≠48/\0<=e/\e<=16/\¬(e=0/\s.length<5)/\magOk s e.toNat=true)
def WI:dP:=λ
 | [.g [.b ng,.b lg,.e s,.a .i64 e,.a .i64 g]]=>some (.a0 (.b (vU s e)))
 | _=>none
def QA:dP:=λ
 | [.g [.b ng,.b lg,.e s,.a .i64 e,.a .i64 g]]=>some (.a0 (.b (!(ξ (dT s 88 88) 0))))
 | _=>none
def HH:aQ:=aK (aK YG 215 WI) 136 QA
def VA:dP:=λ
 | [.g [.b ng,.b lg,.e s,.a .i64 e,.a .i64 g]]=>some (aH [ο s.length 140737488351232] (.a0 (.a .i64 (bif aV ng lg s e g then 0 else 6))))
 | _=>none
def Zg:aQ:=aK HH 135 VA
theorem YW(ng lg:Bool)(s:List UInt8)(e g:Int){Q:AV->Prop}:gG Q (pT YG jE 136 [.g [.b ng,.b lg,.e s,.a .i64 e,.a .i64 g]]) (bE 1000)=(Q (.b (not (ξ (dT s 88 88) 0)))):=κ
theorem N7:aY tab 141=some (dH 141,aL 141):=κ
theorem NC:aY tab 136=some (dH 136,aL 136):=κ
theorem J4:(bz (aL 141)).map (·.1)=[0]:=κ
theorem Qg(i:Nat):lK ((i:Int)+1)=lK (i:Int)*10:=by
 rfl
theorem Cj{n:Int}(h:n<=18):1<=lK n/\lK n<=1000000000000000000:=by
 unfold lK;have h1:10^n.toNat<=10^18:=Nat.pow_le_pow_right ζ δ;grind
theorem UU:cu Tryz.prog (cH cfg Yp) (Cw cfg []) (lb 141 0) 16 [4,9,10] Qa:=by
 intro vs o t Q hv hq J;unfold Qa at hv;split at hv
 . rename_i p n i;cases hv;obtain⟨h1,hq1⟩:=cZ hq;obtain⟨h2,hq2⟩:=cZ hq1;obtain⟨h3,hq3⟩:=cZ hq2;obtain⟨h4,hq4⟩:=cZ hq3;clear hq hq1 hq2 hq3;rw[ao]at h1 h2;rw[aq]at h3 h4;subst h1 h2;have hq:Q (.b 0,[.a .i64 (lK n),.a .i64 n,.a .i64 n],dO):=hq4;refine ia BR rfl rfl ai (ι:={i:Nat // (i:Int)<=n}) (λx=>[.a .i64 (lK (x.1:Int)),.a .i64 n,.a .i64 (x.1:Int)]) (λ_=>dO) (λx=>n.toNat-x.1) 0 (λ_=>Nat.zero_le _) (λx J=>?_) (Nat.le_refl _) (λJ=>Wk.a0 ⟨⟨0,h3⟩,J,rfl⟩) J;obtain⟨i,hi⟩:=x;dsimp only;refine jJ (bE 1121244) (R:=λQ=>(λ(B:AV)(C:Bool)(A E:Int)=>(λ(H:AV)(F G:Bool)=>(C->(F->G/\Q (.a,[.a .i64 A,B,H],⟨0,[],[]⟩))/\(F=false->G/\Q (.a,[.a .i64 (IntKind.wrap .i64 A),B,H],⟨0,[],[]⟩)))/\(C=false->Q (.b 0,[.a .i64 (lK (i:Int)),B,.a .i64 i],⟨0,[],[]⟩))) (.a .i64 E) (af .i64 A) (af .i64 E)) (.a .i64 n) (not (ab n i)) (Int.mul (lK (i:Int)) 10) (Int.add i 1)) (λ_=>by rfl) λQ' hQ=>?_;try dsimp only
   have e:=Qg i;have go:(i:Int)<n->Q' (.a,[.a .i64 (lK (i:Int)*10),.a .i64 n,.a .i64 ((i:Int)+1)],dO):=λh=>
    hQ (.a,_,_) ⟨⟨i+1,by omega⟩,by grind,VW.b0 κ rfl⟩
   have fin:¬(i:Int)<n->Q' (.b 0,[.a .i64 (lK (i:Int)),.a .i64 n,.a .i64 (i:Int)],dO):=λh=>by
    grind [VW.b0]
   have b:(i:Int)<n->lK (i:Int)*10<=1000000000000000000:=λh=>by
    have:=Cj (n:=(i:Int)+1) δ;omega
   have b0:=Cj (n:=(i:Int)) δ;simp_all [az];omega
 grind
theorem Jv:ak Tryz.prog cfg Z5:=by
 refine au BR λargs t v he hv=>?_;unfold Vk at he;split at he
 . rename_i n;cases he;obtain⟨⟨h1,h2,-⟩,hv⟩:=aF hv;rw[aq]at h1 h2;cases hv;refine kA BR (L:=Z0) N7 θ (dv J4 λi hi e he st Q hw=>?_) (jJ (bE 1220033) (R:=λQ=>not (ab 0 n)=false/\not (ab n 18)=false/\ab 0 n/\ab n 18/\(∀J1:Nat->Value,Q (.d [.a .i64 (lK n),.a .i64 0]))) (λ_=>by rfl) λQ' hQ=>?_) κ
   . have hi:i=0:=η
     subst hi;cases he;exact bR (cC.a0 BR) ζ rfl UU hw
   simp_all [az]
 grind
theorem Ft:ak Tryz.prog cfg YG:=by
 refine au Jv λargs t v he hv=>?_;unfold Wh at he;split at he
 . rename_i ng lg s e g;cases he;obtain⟨⟨h1,h2,h3,h4,h5,-⟩,hv⟩:=aF hv;rw[qy]at h2;rw[al]at h3;rw[aq]at h4 h5;have hv':Tr.b0 (bif magOk s e.toNat then .a0 (.d [.a .i64 (ν (fa s e.toNat)),.a .i64 0])else .a0 (.d [.a .i64 0,.a .i64 6]))=some v:=hv;have ids:aC v=[]:=by
    cases hb:magOk s e.toNat<;>rw[hb]at hv'<;>cases hv'<;>simp[aC,bw]
   refine jD Jv ai (bE 151140004220005220075) (R:=λQ=>(λ(E:AV)(C:Int)(B:Nat)=>(λ(A:Int)(F:Prop)=>(λ(G H:Bool)=>dV s/\aS 0 B/\ο B 18/\ab 0 e/\ab e 18/\af .i64 C/\af .i64 (lK e)/\(G->(H->F)/\(H=false->Q (.d [.a .i64 A,E])))/\(G=false->F)) (ab A 9223372036854775807) (not (ab A 10000000000000000))) (Int.mul C (lK e)) (Q (.d [E,.a .i64 6]))) (.a .i64 0) (ν (numL s)) s.length) (λ_=>by rfl) (hi:=ids) λQ' hQ=>?_;try dsimp only
   have nb:Go.Ev.numL s<10^s.length:=by
    grind [Go.Proofs.YtcffhjfdlflbgaaGreatDoor.numL_lt,wK,BX]
   have nb2:10^s.length<=10^18:=Nat.pow_le_pow_right ζ h3;have nb3:(10:Nat)^18=1000000000000000000:=ζ
   have pb:=Cj (n:=e) δ;have em:Int.mul (ν (Go.Ev.numL s)) (lK e)=ν (fa s e.toNat):=by
    rfl
   have yes:fa s e.toNat<=10000000000000000->Q' (.d [.a .i64 (ν (fa s e.toNat)),.a .i64 0]):=λh=>by
    have hb:magOk s e.toNat=true:=by grind [magOk,al]
    rw[hb]at hv';cases hv';grind
   have no:¬fa s e.toNat<=10000000000000000->Q' (.d [.a .i64 0,.a .i64 6]):=λh=>by
    have hb:magOk s e.toNat=false:=by grind [magOk,Cn]
    rw[hb]at hv';cases hv';grind
   rw[em];clear hQ hv hv' ids em;have yes:fa s e.toNat<=10000000000000000->Q' (.d [.a .i64 ((fa s e.toNat:Nat):Int),.a .i64 0]):=yes;generalize fa s e.toNat=mv at *;generalize lK e=pe at *;generalize Go.Ev.numL s=nl at *;simp only[az,reduceCtorEq];grind
 grind
theorem AC{s:List UInt8}{e:Int}:vU s e=true↔1<=s.length/\s.length<=17/\dV s/\(s.getD 0 0).toNat≠48/\0<=e/\e<=16/\¬(e=0/\s.length<5)/\magOk s e.toNat=true:=by grind [vU]
theorem EZ:ak Tryz.prog cfg HH:=by
 refine au (au Ft λargs t v he hv=>?_) λargs t v he hv=>?_
 . unfold WI at he;split at he
   . rename_i ng lg s e g;cases he;cases hv;refine jD Ft ai (bE 16662315662815562815623316233102300811422700053323114227005143742202432024320243220202432020243240) (R:=λQ=>(λ(G T U V W u5:Bool)(P:Nat)(A:Prop)=>(λ(B C H I:Bool)(Y:Int)(Z u6 u7:Prop)=>(λ(u0 u1 u8:Bool)(E N u2 u3:Prop)=>(λ(F u4:Bool)=>(λ(O u9:Prop)=>(u4->u4/\u0=false/\(F->F/\F/\F/\u1=false/\(C->C/\C/\aS 0 P/\C/\T=false/\(H->H/\H/\U=false/\(I->I/\I/\V=false/\(B->B/\B/\B/\(G->G/\B/\G/\u6/\(u8->A)/\(u8=false->u7))/\(Z->Z/\B/\Z/\u6/\u7))/\(E->E/\E/\E/\E/\W/\A))/\(u2->u2/\u2/\V/\A))/\(u3->u3/\u3/\U/\A))/\(N->N/\N/\N/\T/\A))/\(O->O/\O/\O/\u1/\A))/\(u9->u9/\u0/\A)) (F=false) (u4=false)) (not u1) (not u0)) (not (ab 1 Y)) (not (ab Y 17)) (not (ab 5 Y)) (B=false) (C=false) (I=false) (H=false)) (not W) (not T) (not U) (not V) (ν P) (G=false) (W=false) (dV s/\aS 0 P/\ο P 18/\ab 0 e/\ab e 16/\(u5->Q (.b true))/\(u5=false->A))) (aa e 0) (not (dV s)) (aa (ν (UInt8.toNat (List.getD s 0 (UInt8.ofNat 0)))) 48) (not (ab 0 e)) (not (ab e 16)) (magOk s e.toNat) s.length (Q (.b false))) (λ_=>by rfl) λQ' hQ=>?_;try dsimp only
     have li:=@AC s e;have yes:vU s e->Q' (.b true):=λh=>hQ _ (by rw[h]);have no:¬vU s e->Q' (.b false):=λh=>hQ _ η;rw[li]at yes no;clear hQ li;simp only[az,reduceCtorEq]at yes no ⊢;generalize dV s=dg at *;generalize magOk s e.toNat=mk at *;generalize (s.getD 0 0).toNat=c0 at *;generalize s.length=n at *
     (repeat' first|exact trivial|refine⟨?_,?_⟩|intro)<;>first|omega|assumption|(apply yes;grind)|(apply no;grind)|grind
   . cases he
 . unfold QA at he;split at he
   . rename_i ng lg s e g;cases he;cases hv;exact kA Ft (L:=jE) NC θ ai (bb λQ' hQ=>cg ((YW ng lg s e g).mpr (hQ _ rfl))) (by simp[aC])
   . cases he
def dY(ng:Bool)(s:List UInt8)(e:Int):Int:=bif ng then -(fa s e.toNat:Int)else fa s e.toNat
def Ol:dP:=λ
 | [.g [.b ng,.b lg,.e s,.a .i64 e,.a .i64 g]]=>some (aH [ο s.length 1000] (.d0 (aV ng lg s e g&&ξ (dT s 88 88) 0) λb=>bif b then .a0 (.d [.a .i64 (dY ng s e),.a .i64 0])else .a0 (.d [.a .i64 0,.a .i64 6])))
 | _=>none
theorem Qn{s:List UInt8}:(By s=true)=(dT s 48 57+dT s 88 88=s.length):=by unfold By;rw[aJ]
theorem SQ{s:List UInt8}:(By s=false)=(dT s 48 57+dT s 88 88≠s.length):=by unfold By;rw[b9]
theorem Qc{s:List UInt8}:ae (Eg s) []=ξ (dT s 48 48) s.length:=by
 rw[bV,Bool.eq_iff_iff,beq_iff_eq,aJ,<-ZF,<-trim_zer,List.isEmpty_iff];rfl
theorem M7(s:List UInt8):dT s 48 57+dT s 88 88<=s.length:=by
 induction s<;>grind [dT]
theorem Il{s:List UInt8}{e:Int}:vU s e=true↔1<=s.length/\s.length<=17/\dT s 48 57=s.length/\(s.getD 0 0).toNat≠48/\0<=e/\e<=16/\¬(e=0/\s.length<5)/\magOk s e.toNat=true:=by rw[AC,Zj]
theorem nt:ak Tryz.prog cfg Zg:=by
 refine au EZ λargs t v he hv=>?_;unfold VA at he;split at he
 . rename_i ng lg s e g;cases he;obtain⟨h1,hv⟩:=ex hv;rw[al]at h1;cases hv;refine jD EZ ai (bE 10056100623310233881143211432420702202432024005400566810056100623310233881143211432420702202432024005400668100561006233102338811432114324207022024320240054068533133707022022051006233133707022022320240054000303100623310233881143707022024320241006233102338811437070220243202400540002002054052232810056100623310233881143707022024320240054080081337070220220510062331337070220223202400540223231006233102338811437070220243202410062331023388114370702202432024005402702054220247700202420242202420020240) (R:=λQ=>(λ(B C G P u0 u1 u4:Bool)(uc:Nat)(I T u2 u3:Prop)=>(λ(A E V:Bool)(ud:Int)(H N O W u5 u6:Prop)=>(λ(U:Bool)(u7:Int)(F u8 u9:Prop)=>(λ(Y ue ug:Bool)(Z ua uf:Prop)=>(λ(uh:Prop)=>(λ(ui uj:Prop)=>(λ(ub uk ul:Prop)=>(λ(um:Prop)=>(λ(un:Prop)=>(U->U/\U/\U/\(P->P/\P/\P/\(C->C/\C/\(ng->ng/\ng/\ο uc 1000000/\ng/\C/\ng/\C/\C/\(B->B/\B/\B/\(G->G/\B/\G/\B/\B/\un)/\(N->N/\B/\N/\B/\B/\ul))/\(H->H/\H/\H/\H/\H/\H/\um/\(u3->I)))/\(T->T/\T/\T/\C/\T/\C/\C/\(G->G/\G/\un)/\(N->N/\N/\ul)))/\(O->O/\O/\O/\O/\O/\ub))/\(W->W/\W/\W/\ub))/\(Z->Z/\Z/\Z/\ub)) (um/\(u3->(V->V/\V/\u4=false/\uk)/\(u9->u9/\u9/\u4/\I)))) (lg->(E->E/\E/\u5/\uk)/\ua)) ((lg->(E->E/\E/\u5/\(A->A/\A/\A/\A/\A/\A/\A/\(Y->ui)/\(Y=false->A/\u6/\(ug->I)/\(ug=false->u2)))/\uf)/\ua)/\(u3->I)) ((A->A/\A/\A/\A/\A/\A/\A/\Y/\ui)/\uf) ((lg->(E->E/\E/\u5/\uj)/\ua)/\(u3->uj))) (A/\u6/\(ue->I)/\(uh->u2)) (A/\A/\A/\A/\A/\A/\A/\A/\Y/\A/\u6/\uh/\u2)) (ue=false)) (af .i64 u7) (not (ab g u7)) (not (ab g (IntKind.wrap .i64 u7))) (U=false) (u8->u8/\u8/\u0/\I) (F->F/\F/\F/\F/\F/\F/\F/\F/\u1/\I)) (aa ud 4) (Int.add ud e) (A=false) (E=false) (V=false)) (not u1) (not u0) (not u4) (ν uc) (B=false) (G=false) (C=false) (P=false) (u0=false) (u1=false)) (not (ae (Eg s) [])) (aa e 0) (not (aa g 0)) (By s) (not (vU s e)) (not (ab 0 g)) (not (not (not (ξ (dT s 88 88) 0)))) s.length (Q (.a .i64 6)) (ng=false) (Q (.a .i64 0)) (lg=false)) (λ_=>by kernel_rfl) λQ' hQ=>?_;try dsimp only
   have yes:aV ng lg s e g->Q' (.a .i64 0):=λh=>hQ _ η;have no:¬aV ng lg s e g->Q' (.a .i64 6):=λh=>hQ _ η;unfold aV at yes no;rw[zAc]at yes no;have hs:=M7 s;have li:=@Il s e;clear hQ;rw[Qc];generalize vU s e=lr at *;generalize magOk s e.toNat=mk at *;generalize (s.getD 0 0).toNat=c0 at *;simp only[Pp,Qn,SQ,reduceCtorEq,eH,eE,ne_eq]at yes no ⊢;generalize dT s 48 57=a at *;generalize dT s 88 88=x at *;generalize dT s 48 48=z at *;generalize s.length=n at *
   (repeat' first|exact trivial|refine⟨?_,?_⟩|intro)<;>first|omega|assumption|(apply yes;grind)|(apply no;grind)|grind
 . cases he
theorem Bk{ng lg:Bool}{s:List UInt8}{e g:Int}(h:aV ng lg s e g)(hx:dT s 88 88=0):(0<=e/\e<=16)/\(1<=s.length/\s.length<=17)/\dV s/\magOk s e.toNat/\fa s e.toNat<=10000000000000000:=by
 grind [aV,oV,magOk,Go.Proofs.YtcffhjfdlflbgaaGreatDoor.numL_lt,wK,BX,al,fa]
theorem Ks{S:aQ}(hS:ak Tryz.prog cfg S):ak Tryz.prog cfg (aK S 146 Ol):=by
 refine au hS λargs t v he hv=>?_;unfold Ol at he;split at he
 . rename_i ng lg s e g;cases he;obtain⟨h1,hv⟩:=ex hv;rw[al]at h1;have h1':s.length<=140737488351232:=Nat.le_trans h1 ζ;have hv':Tr.b0 (bif aV ng lg s e g&&ξ (dT s 88 88) 0 then .a0 (.d [.a .i64 (dY ng s e),.a .i64 0])else .a0 (.d [.a .i64 0,.a .i64 6]))=some v:=hv;have ids:aC v=[]:=by
    cases hb:aV ng lg s e g&&ξ (dT s 88 88) 0<;>rw[hb]at hv'<;>cases hv'<;>simp[aC,bw]
   refine jD nt ai (bE 10231111111040111440444444005143020542005) (R:=λQ=>(λ(A:AV)(E H:Bool)(C I:Nat)(N:Prop)=>(λ(F O:Bool)(P:Int)(B:Prop)=>(λ(G:Int)(T:Prop)=>(λ(U:Bool)=>ο C 140737488351232/\(F->F/\E=false/\(H->B)/\(H=false->(dV s->(aS 0 C->(O->(ab 0 e->(ab e 16->(magOk s I->(ng->(U->Q (.d [.a .i64 G,A]))/\(U=false->Q (.d [.a .i64 (IntKind.wrap .i64 G),A])))/\(N->Q (.d [.a .i64 P,A])))/\(magOk s I=false->(ng->B)/\(N->B)))/\(ab e 16=false->False))/\(ab 0 e=false->False))/\(O=false->False))/\(aS 0 C=false->False))/\(dV s=false->False)))/\(T->T/\E/\B)) (af .i64 G)) (Int.sub 0 P) (F=false)) (not E) (ο C 18) (ν (fa s I)) (Q (.d [A,.a .i64 6]))) (.a .i64 0) (not (aa (cond (aV ng lg s e g) 0 6) 0)) (not (ξ (dT s 88 88) 0)) s.length e.toNat (ng=false)) (λ_=>by rfl) (hi:=ids) λQ' hQ=>?_;try dsimp only
   have no:(aV ng lg s e g&&ξ (dT s 88 88) 0)=false->Q' (.d [.a .i64 0,.a .i64 6]):=λh=>by
    rw[h]at hv';cases hv';grind
   have yes:(aV ng lg s e g&&ξ (dT s 88 88) 0)->Q' (.d [.a .i64 (dY ng s e),.a .i64 0]):=λh=>by
    rw[h]at hv';cases hv';grind
   clear hQ hv hv' ids;cases ho:aV ng lg s e g with
   | false=>
     simp_all [az]
   | true=>
     rw[ho]at no yes;by_cases hx:dT s 88 88=0
     . obtain⟨k1,k2,k3,k4,k5⟩:=Bk ho hx;have yes:=yes (by simp_all);have ev:dY ng s e=if ng=true then -(fa s e.toNat:Int)else(fa s e.toNat:Int):=by grind [dY]
       rw[ev]at yes;rw[k3,k4];clear no ev;generalize fa s e.toNat=mv at *;cases ng<;>simp only[cond_true,az,reduceCtorEq,if_true,Bool.false_eq_true,if_false]at yes ⊢<;>(repeat' first|exact trivial|refine⟨?_,?_⟩|intro)<;>first|omega|exact yes|(rw[Int.zero_sub];exact yes)|grind
     simp_all [az]
 grind
def RH:dW:=λ
 | [.e [c0,c1],.a .i64 g,.a .i64 n,.b r],⟨0,[],[]⟩=>some (aH [aa n 1,bQ r false,ab 0 g,ab g 99] (.d0 (eW [c0,c1] g.toNat) λb=>bif b then .e0 λJ=>.a0 (.c,[.e [c0,c1],.a .i64 g,.j (J 0),.b true],dO)else .a0 (.b 0,[.e [c0,c1],.a .i64 g,.a .i64 (Int.add g 1),.b false],dO)))
 | _,_=>none
def Vq:cx:=iz jE 0 (d9 46 [0,1,5,4] RH)
def V9:dP:=λ
 | [.e s,.a .i64 g]=>some (aH [ab 0 g,ab g 99] (.a0 (.b (eW s g.toNat))))
 | _=>none
def Xq:dP:=λ
 | [.g [.b ng,.b lg,.e s,.a .i64 e,.a .i64 g,.e mo,.e da,.a .u8 a,.a .u8 b,.a .u8 c]]=>some (.a0 (.a .i64 (dq mo da)))
 | _=>none
def Xy:dP:=λ
 | [.g [.a .u8 a,.a .u8 b,.a .u8 c],.a .i64 n]=>some (aH [af .u8 a,af .u8 b,af .u8 c,ab 1 n,ab n 3] (.a0 (.a .i64 (errMk a b c n))))
 | _=>none
def FY:aQ:=aK (aK (aK Zg 169 V9) 171 Xq) 170 Xy
theorem GQ:aY tab 169=some (dH 169,aL 169):=κ
theorem Dn:(bz (aL 169)).map (·.1)=[0]:=κ
theorem ST{C:bg}{kb tn:Nat}{rel:List Nat}{vs vs' vs'':List AV}{o o' o'':aB}(h1:VW cfg C kb tn rel vs o vs' o')(h2:VW cfg C kb tn rel vs' o' vs'' o''):VW cfg C kb tn rel vs o vs'' o'':=λJ=>(h1 J).c0 λs ⟨J',e⟩=>by rw[e];exact h2 J'
theorem Lo{tn:Nat}{rel:List Nat}{vs vs':List AV}{o:aB}(hle:o.le=[])(hvs:yw (kG 14 [] 20) vs=some vs'):VW cfg (Cw cfg []) 0 tn rel vs o vs' dO:=
 VW.d0 gR.lv (C:=Cw cfg []) (kb:=0) (sel:=[]) zW (Nat.zero_le _) (λs hs=>by grind) List.nodup_nil (λp hp=>by grind) hle.symm rfl rfl (λi hi=>absurd hi (Nat.not_lt_zero i)) (λt ht=>absurd ht (Nat.not_lt_zero t)) hvs
theorem LP{c0 c1:UInt8}{n:Int}:agr [c0,c1] n=true↔(c0.toNat=88\/(c0.toNat:Int)=48+n/10)/\(c1.toNat=88\/(c1.toNat:Int)=48+n%10):=by
 grind [agr,ad7]
theorem P6:cu Tryz.prog (cH cfg Zg) (Cw cfg []) (lb 169 0) 46 [0,1,5,4] RH:=by
 intro vs o t Q hv hq J;unfold RH at hv;split at hv
 . rename_i c0 c1 g n r;cases hv;obtain⟨h1,hq1⟩:=cZ hq;obtain⟨h2,hq2⟩:=cZ hq1;obtain⟨h3,hq3⟩:=cZ hq2;obtain⟨h4,hq4⟩:=cZ hq3;clear hq hq1 hq2 hq3;rw[ao]at h1;rw[Jl]at h2;rw[aq]at h3 h4;subst h1 h2;have hq:Tr.wp Q (bif eW [c0,c1] g.toNat then .e0 λJ=>.a0 (.c,[.e [c0,c1],.a .i64 g,.j (J 0),.b true],dO)else .a0 (.b 0,[.e [c0,c1],.a .i64 g,.a .i64 (g+1),.b false],dO)):=hq4;refine ia nt rfl rfl ai (ι:={i:Nat // i<=g.toNat/\∀k,k<i->agr [c0,c1] ((k:Int)+1)=false}) (λx=>[.e [c0,c1],.a .i64 g,.a .i64 ((x.1:Int)+1),.b false]) (λ_=>dO) (λx=>g.toNat-x.1) 0 (λ_=>Nat.le_refl _) (λx J=>?_) (Nat.le_refl _) (λJ=>Wk.a0 ⟨⟨0,Nat.zero_le _,λk hk=>absurd hk (Nat.not_lt_zero k)⟩,J,rfl⟩) J;obtain⟨i,hi,hp⟩:=x;dsimp only;refine jJ (bE 110020381214030202002002400523812033058107381214232202002002422002432020020024000220704) (R:=λQ=>(λ(N O u0 u2:AV)(I W Y Z u1:Int)=>(λ(H U:Bool)(P T:Int)=>(λ(A C E u4:Bool)(V u3 u5:Prop)=>(λ(B F G u6:Prop)=>(ab ((i:Int)+1) g->af .i64 I/\af .u8 I/\af .u8 P/\af .u8 W/\af .u8 T/\(E->E/\E/\E/\E/\U=false/\(C->C/\C/\C/\(A->A/\A/\A/\A/\C/\u3/\C/\u6)/\(B->B/\B/\B/\B/\C/\H/\C/\V))/\(F->F/\F/\F/\F/\F/\u5))/\(G->G/\G/\G/\G/\U/\(A->A/\A/\A/\A/\u3/\u6)/\(B->B/\B/\B/\B/\H/\V)))/\(ab ((i:Int)+1) g=false->Q (.b 0,[N,O,u0,u2],⟨0,[],[]⟩))) (A=false) (C=false) (E=false) ((u4->V)/\(u4=false->u5))) (not H) (aa Y P) (not U) (aa Z T) (Q (.c,[N,O,u0,.b true],⟨1,[.a [.a .u8 P,.a .u8 T] true none],[]⟩)) (H=false) (af .i64 u1/\Q (.a,[N,O,.a .i64 u1,u2],⟨1,[.a [.a .u8 P,.a .u8 T] true none],[]⟩))) (aa Z 88) (aa Y 88) (Int.add 48 I) (Int.add 48 W)) (.e [c0,c1]) (.a .i64 g) (.a .i64 ((i:Int)+1)) (.b false) (Int.tdiv ((i:Int)+1) 10) (Int.tmod ((i:Int)+1) 10) (ν c0.toNat) (ν c1.toNat) (Int.add ((i:Int)+1) 1)) (λ_=>by rfl) λQ' hQ=>?_;try dsimp only
   have t1:((i:Int)+1).tdiv 10=((i:Int)+1)/10:=Int.tdiv_eq_ediv_of_nonneg δ;have t2:((i:Int)+1).tmod 10=((i:Int)+1)%10:=Int.tmod_eq_emod_of_nonneg δ;have yes:i<g.toNat->agr [c0,c1] ((i:Int)+1)->Q' (.c,[.e [c0,c1],.a .i64 g,.a .i64 ((i:Int)+1),.b true],⟨1,[.a [.a .u8 (48+((i:Int)+1)/10),.a .u8 (48+((i:Int)+1)%10)] true none],[]⟩):=λh ha=>by
    rw[Ob h ha,cond_true]at hq;exact hQ (.c,_,_) ⟨_,_,ST (Lo rfl rfl) (VW.c0 (.a0 (.a0 (.b0 (.a0 .c0)))) rfl),hq (jv [_])⟩
   have no:i<g.toNat->¬agr [c0,c1] ((i:Int)+1)->Q' (.a,[.e [c0,c1],.a .i64 g,.a .i64 ((i:Int)+1+1),.b false],⟨1,[.a [.a .u8 (48+((i:Int)+1)/10),.a .u8 (48+((i:Int)+1)%10)] true none],[]⟩):=λh ha=>
    hQ (.a,_,_) ⟨⟨i+1,by omega,λk hk=>by
     grind⟩,by grind,Lo rfl rfl⟩
   have fin:¬i<g.toNat->Q' (.b 0,[.e [c0,c1],.a .i64 g,.a .i64 ((i:Int)+1),.b false],dO):=λh=>by
    obtain rfl:i=g.toNat:=δ
    rw[GB.2 hp,cond_false]at hq;exact hQ (.b 0,_,_) ⟨_,_,VW.b0 η rfl,hq⟩
   rw[LP]at yes no;clear hQ hq hq4 hp;rw[t1,t2];simp only[az,reduceCtorEq]
   (repeat' first|exact trivial|refine⟨?_,?_⟩|intro)<;>first|omega|exact fin δ|exact yes δ δ|exact no δ δ
 . cases hv
theorem SJ:ak Tryz.prog cfg FY:=by
 refine au (au (au nt λargs t v he hv=>?_) λargs t v he hv=>?_) λargs t v he hv=>?_
 . unfold V9 at he;split at he
   . rename_i s g;cases he;obtain⟨⟨h1,h2,-⟩,hv⟩:=aF hv;rw[aq]at h1 h2;cases hv;by_cases hs:s.length=2
     . match s,hs with
       | [c0,c1],_=>
         refine kA nt (L:=Vq) GQ θ (dv Dn λi hi e he st Q hw=>?_) (jJ (bE 11422000) (R:=λQ=>(λ(A:Bool)=>ab 0 g/\ab g 99/\(A->(∀J1 J2:Nat->Value,Q (.b true)))/\(A=false->(∀J1:Nat->Value,Q (.b false)))) (eW [c0,c1] g.toNat)) (λ_=>by rfl) λQ' hQ=>?_) κ
         . have hi:i=0:=η
           subst hi;cases he;exact bR (cC.a0 nt) ζ rfl P6 hw
         . try dsimp only
           have fin:∀b:Bool,b=eW [c0,c1] g.toNat->Q' (.b b):=λb h=>hQ _ (by rw[h]);clear hQ;generalize eW [c0,c1] g.toNat=sa at *;simp only[az,reduceCtorEq];grind
     . refine kA nt (L:=Vq) GQ θ (dv Dn λi hi e he st Q hw=>?_) (jJ (.t .z) (R:=λQ=>not (aa (ν s.length) 2)/\Q (.b false)) (λ_=>by rfl) λQ' hQ=>?_) κ
       . have hi:i=0:=η
         subst hi;cases he;exact bR (cC.a0 nt) ζ rfl P6 hw
       . have sn:eW s g.toNat=false:=GB.2 λk hk=>by grind [agr]
         simp_all [az];omega
   grind
 . unfold Xq at he;split at he
   . rename_i ng lg s e g mo da a b c;cases he;cases hv;refine jD nt ai (bE 1001000405100100040054005) (R:=λQ=>(λ(A B:Bool)(C:Prop)=>(λ(E:Prop)=>(B->(A->Q (.a .i64 3))/\(E->C))/\(B=false->(A->C)/\(E->Q (.a .i64 1)))) (A=false)) (not (ae da [])) (not (ae mo [])) (Q (.a .i64 2))) (λ_=>by rfl) λQ' hQ=>?_;grind [dq]
   grind
 . unfold Xy at he;split at he
   . rename_i a b c n;cases he;obtain⟨⟨h1,h2,h3,h4,h5,-⟩,hv⟩:=aF hv;rw[aE]at h1 h2 h3;simp only[eH,eE]at h1 h2 h3;rw[aq]at h4 h5;cases hv;refine jD nt ai (bE 1530310014020245164000530310014020225164051402024516400053033516400053322) (R:=λQ=>(λ(B C H I N O P T:Bool)(A E U:Prop)=>(λ(V:Bool)(F G W Y:Prop)=>V/\V/\H=false/\not (ab n 3)=false/\(I->A)/\(I=false->E/\E/\E/\(N->A)/\(N=false->(C->C/\C/\(O->A)/\(O=false->(P->A)/\(W->B/\Y)))/\(F->F/\F/\(P->A)/\(W->(B->Y)/\(G->G/\G/\U)))))) (not H) (C=false) (B=false) (P=false) (B/\B/\(T->A)/\(T=false->U))) (ab n 2) (ab n 1) (not (ab 1 n)) (not (ab a 3)) (not (ab b 3)) (not (aa b 0)) (not (ab c 3)) (not (aa c 0)) (Q (.a .i64 9)) (ab n 0=false) (Q (.a .i64 0))) (λ_=>by rfl) λQ' hQ=>?_;try dsimp only
     have fin:∀v:Int,v=errMk a b c n->Q' (.a .i64 v):=λv h=>hQ _ (by rw[h]);clear hQ;unfold errMk at fin;simp only[az,reduceCtorEq];grind
   grind
end Go.Ev
end
