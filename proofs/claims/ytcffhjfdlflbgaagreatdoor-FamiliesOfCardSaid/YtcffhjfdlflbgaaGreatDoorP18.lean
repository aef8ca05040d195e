import Derived.Test.YtcffhjfdlflbgaaGreatDoorP17
set_option linter.all false
open Int renaming add->ν,ofNat->ξ,mul->ς,sub->σ
open Nat renaming beq->ο,ble->π
set_option linter.all false
set_option maxRecDepth 100000
set_option maxHeartbeats 4000000
namespace Go.Ev
open Go Go.Proofs Go.Proofs.YtcffhjfdlflbgaaGreatDoor
def lK(n:Int):Int:=((10^n.toNat:Nat):Int)
def Qa:dW:=λ
 | [.a .i64 p,.a .i64 n,.a .i64 i],⟨0,[],[]⟩=>some (aH [aa p 1,aa i 0,ab 0 n,ab n 18] (.a0 (.b 0,[(lK n),n,n],dO)))
 | _,_=>none
def Z0:cx:=iz jE 0 (d9 16 [4,9,10] Qa)
def Vk:dP:=λ
 | [.a .i64 n]=>some (aH [ab 0 n,ab n 18] (.a0 (.c [(lK n),.a .i64 0])))
 | _=>none
def Z5:aQ:=d5 Yp 141 Vk
def Wh:dP:=λ
 | [.g [.e ng,.e lg,.f s,.a .i64 e,.a .i64 g]]=>some (aH [dV s,aS 0 s.length,π s.length 18,ab 0 e,ab e 16] (.d0 (magOk s e.toNat) λb=>bif b then .a0 (.c [(ξ (cF s e.toNat)),.a .i64 0])else .a0 (.c [.a .i64 0,.a .i64 6])))
 | _=>none
def YG:aQ:=d5 Z5 140 Wh
def vU(s:List UInt8)(e:Int):Bool:=decide (1<=s.length/\s.length<=17/\dV s/\(s.getD 0 0).toNat≠48/\0<=e/\e<=16/\¬(e=0/\s.length<5)/\magOk s e.toNat=true)
def WI:dP:=λ
 | [.g [.e ng,.e lg,.f s,.a .i64 e,.a .i64 g]]=>some (.a0 (vU s e))
 | _=>none
def QA:dP:=λ
 | [.g [.e ng,.e lg,.f s,.a .i64 e,.a .i64 g]]=>some (.a0 (!(ο (eC s 88 88) 0)))
 | _=>none
def HH:aQ:=d5 (d5 YG 215 WI) 136 QA
def VA:dP:=λ
 | [.g [.e ng,.e lg,.f s,.a .i64 e,.a .i64 g]]=>some (aH [π s.length 1000] (.a0 (.a .i64 (bif aV ng lg s e g then 0 else 6))))
 | _=>none
def Zg:aQ:=d5 HH 135 VA
theorem YW(ng lg:Bool)(s:List UInt8)(e g:Int){Q:AV->Prop}:gG Q (pT YG jE 136 [.g [ng,lg,s,e,g]]) (bE 1000)=(Q (not (ο (eC s 88 88) 0))):=by rfl
theorem N7:ec eS 141=some (dH 141,aL 141):=by rfl
theorem NC:ec eS 136=some (dH 136,aL 136):=by rfl
theorem J4:(bz (aL 141)).map (·.1)=[0]:=by rfl
theorem Qg(i:Nat):lK ((i:Int)+1)=lK (i:Int)*10:=by
 rfl
theorem Cj{n:Int}(h:n<=18):1<=lK n/\lK n<=1000000000000000000:=by
 unfold lK;have h1:10^n.toNat<=10^18:=Nat.pow_le_pow_right (by decide) (by omega);grind
theorem UU:cu Tryz.prog (cH cfg Yp) (Cw cfg []) (lb 141 0) 16 [4,9,10] Qa:=by
 intro vs o t Q hv hq J;unfold Qa at hv;split at hv
 . rename_i p n i;cases hv;obtain⟨h1,hq1⟩:=cZ hq;obtain⟨h2,hq2⟩:=cZ hq1;obtain⟨h3,hq3⟩:=cZ hq2;obtain⟨h4,hq4⟩:=cZ hq3;clear hq hq1 hq2 hq3;rw[ao]at h1 h2;rw[aq]at h3 h4;subst h1 h2;have hq:Q (.b 0,[.a .i64 (lK n),.a .i64 n,.a .i64 n],dO):=hq4;refine ia BR rfl rfl ai (ι:={i:Nat // (i:Int)<=n}) (λx=>[.a .i64 (lK (x.1:Int)),.a .i64 n,.a .i64 (x.1:Int)]) (λ_=>dO) (λx=>n.toNat-x.1) 0 (λ_=>Nat.zero_le _) (λx J=>?_) (Nat.le_refl _) (λJ=>Wk.a0 ⟨⟨0,h3⟩,J,rfl⟩) J;obtain⟨i,hi⟩:=x;dsimp only;refine jJ (bE 1121244) (R:=λQ=>(λ(B:AV)(C:Bool)(A E:Int)=>(λ(H:AV)(F G:Bool)=>(C->(F->G/\Q (.a,[.a .i64 A,B,H],⟨0,[],[]⟩))/\(F=false->G/\Q (.a,[.a .i64 (IntKind.wrap .i64 A),B,H],⟨0,[],[]⟩)))/\(C=false->Q (.b 0,[.a .i64 (lK (i:Int)),B,.a .i64 i],⟨0,[],[]⟩))) (.a .i64 E) (af .i64 A) (af .i64 E)) (.a .i64 n) (not (ab n i)) (ς (lK (i:Int)) 10) (ν i 1)) (λ_=>by rfl) λQ' hQ=>?_;try dsimp only
   have e:=Qg i;have go:(i:Int)<n->Q' (.a,[.a .i64 (lK (i:Int)*10),.a .i64 n,.a .i64 ((i:Int)+1)],dO):=λh=>
    hQ (.a,_,_) ⟨⟨i+1,by omega⟩,by grind,VW.b0 (by rfl) rfl⟩
   have fin:¬(i:Int)<n->Q' (.b 0,[.a .i64 (lK (i:Int)),.a .i64 n,.a .i64 (i:Int)],dO):=λh=>by
    grind [VW.b0]
   have b:(i:Int)<n->lK (i:Int)*10<=1000000000000000000:=λh=>by
    have:=Cj (n:=(i:Int)+1) (by omega);omega
   have b0:=Cj (n:=(i:Int)) (by omega);simp_all [az];omega
 grind
theorem Jv:ak Tryz.prog cfg Z5:=by
 refine au BR λargs t v he hv=>?_;unfold Vk at he;split at he
 . rename_i n;cases he;obtain⟨⟨h1,h2,-⟩,hv⟩:=aF hv;rw[aq]at h1 h2;cases hv;refine kA BR (L:=Z0) N7 (by simp) (dv J4 λi hi e he st Q hw=>?_) (jJ (bE 1220033) (R:=λQ=>not (ab 0 n)=false/\not (ab n 18)=false/\ab 0 n/\ab n 18/\(∀J1:Nat->Value,Q (.c [(lK n),.a .i64 0]))) (λ_=>by rfl) λQ' hQ=>?_) (by rfl)
   . have hi:i=0:=by grind
     subst hi;cases he;exact bR (cC.a0 BR) (by decide) rfl UU hw
   simp_all [az]
 grind
theorem Ft:ak Tryz.prog cfg YG:=by
 refine au Jv λargs t v he hv=>?_;unfold Wh at he;split at he
 . rename_i ng lg s e g;cases he;obtain⟨⟨h1,h2,h3,h4,h5,-⟩,hv⟩:=aF hv;rw[qy]at h2;rw[al]at h3;rw[aq]at h4 h5;have hv':Tr.b0 (bif magOk s e.toNat then .a0 (.c [(ξ (cF s e.toNat)),.a .i64 0])else .a0 (.c [.a .i64 0,.a .i64 6]))=some v:=hv;have ids:aC v=[]:=by
    cases hb:magOk s e.toNat<;>rw[hb]at hv'<;>cases hv'<;>simp[aC,bw]
   refine jD Jv ai (bE 151140004220005220075) (R:=λQ=>(λ(E:AV)(C:Int)(B:Nat)=>(λ(A:Int)(F:Prop)=>(λ(G H:Bool)=>dV s/\aS 0 B/\π B 18/\ab 0 e/\ab e 18/\af .i64 C/\af .i64 (lK e)/\(G->(H->F)/\(H=false->Q (.c [A,E])))/\(G=false->F)) (ab A 9223372036854775807) (not (ab A 10000000000000000))) (ς C (lK e)) (Q (.c [E,.a .i64 6]))) (.a .i64 0) (ξ (numL s)) s.length) (λ_=>by rfl) (hi:=ids) λQ' hQ=>?_;try dsimp only
   have nb:Go.Ev.numL s<10^s.length:=by
    grind [Go.Proofs.YtcffhjfdlflbgaaGreatDoor.numL_lt,wK,BX]
   have nb2:10^s.length<=10^18:=Nat.pow_le_pow_right (by decide) h3;have nb3:(10:Nat)^18=1000000000000000000:=by decide
   have pb:=Cj (n:=e) (by omega);have em:ς (ξ (Go.Ev.numL s)) (lK e)=ξ (cF s e.toNat):=by
    rfl
   have yes:cF s e.toNat<=10000000000000000->Q' (.c [(ξ (cF s e.toNat)),.a .i64 0]):=λh=>by
    have hb:magOk s e.toNat=true:=by grind [magOk,al]
    rw[hb]at hv';cases hv';grind
   have no:¬cF s e.toNat<=10000000000000000->Q' (.c [.a .i64 0,.a .i64 6]):=λh=>by
    have hb:magOk s e.toNat=false:=by grind [magOk,Cn]
    rw[hb]at hv';cases hv';grind
   rw[em];clear hQ hv hv' ids em;have yes:cF s e.toNat<=10000000000000000->Q' (.c [((cF s e.toNat:Nat):Int),.a .i64 0]):=yes;generalize cF s e.toNat=mv at *;generalize lK e=pe at *;generalize Go.Ev.numL s=nl at *;simp only[az,reduceCtorEq];grind
 grind
theorem AC{s:List UInt8}{e:Int}:vU s e=true↔1<=s.length/\s.length<=17/\dV s/\(s.getD 0 0).toNat≠48/\0<=e/\e<=16/\¬(e=0/\s.length<5)/\magOk s e.toNat=true:=by grind [vU]
theorem EZ:ak Tryz.prog cfg HH:=by
 refine au (au Ft λargs t v he hv=>?_) λargs t v he hv=>?_
 . unfold WI at he;split at he
   . rename_i ng lg s e g;cases he;cases hv;refine jD Ft ai (bE 16662315662815562815623316233102300811422700053323114227005143742202432024320243220202432020243240) (R:=λQ=>(λ(G T U V W u5:Bool)(P:Nat)(A:Prop)=>(λ(B C H I:Bool)(Y:Int)(Z u6 u7:Prop)=>(λ(u0 u1 u8:Bool)(E N u2 u3:Prop)=>(λ(F u4:Bool)=>(λ(O u9:Prop)=>(u4->u4/\u0=false/\(F->F/\F/\F/\u1=false/\(C->C/\C/\aS 0 P/\C/\T=false/\(H->H/\H/\U=false/\(I->I/\I/\V=false/\(B->B/\B/\B/\(G->G/\B/\G/\u6/\(u8->A)/\(u8=false->u7))/\(Z->Z/\B/\Z/\u6/\u7))/\(E->E/\E/\E/\E/\W/\A))/\(u2->u2/\u2/\V/\A))/\(u3->u3/\u3/\U/\A))/\(N->N/\N/\N/\T/\A))/\(O->O/\O/\O/\u1/\A))/\(u9->u9/\u0/\A)) (F=false) (u4=false)) (not u1) (not u0)) (not (ab 1 Y)) (not (ab Y 17)) (not (ab 5 Y)) (B=false) (C=false) (I=false) (H=false)) (not W) (not T) (not U) (not V) (ξ P) (G=false) (W=false) (dV s/\aS 0 P/\π P 18/\ab 0 e/\ab e 16/\(u5->Q true)/\(u5=false->A))) (aa e 0) (not (dV s)) (aa (ξ (UInt8.toNat (List.getD s 0 (UInt8.ofNat 0)))) 48) (not (ab 0 e)) (not (ab e 16)) (magOk s e.toNat) s.length (Q false)) (λ_=>by rfl) λQ' hQ=>?_;try dsimp only
     have li:=@AC s e;have yes:vU s e->Q' true:=λh=>hQ _ (by rw[h]);have no:¬vU s e->Q' false:=λh=>hQ _ (by grind);rw[li]at yes no;clear hQ li;simp only[az,reduceCtorEq]at yes no ⊢;generalize dV s=dg at *;generalize magOk s e.toNat=mk at *;generalize (s.getD 0 0).toNat=c0 at *;generalize s.length=n at *
     (repeat' first|exact trivial|refine⟨?_,?_⟩|intro)<;>first|omega|assumption|(apply yes;grind)|(apply no;grind)|grind
   . cases he
 . unfold QA at he;split at he
   . rename_i ng lg s e g;cases he;cases hv;exact kA Ft (L:=jE) NC (by simp) ai (eD λQ' hQ=>cg ((YW ng lg s e g).mpr (hQ _ rfl))) (by simp[aC])
   . cases he
def dY(ng:Bool)(s:List UInt8)(e:Int):Int:=bif ng then -(cF s e.toNat:Int)else cF s e.toNat
def Ol:dP:=λ
 | [.g [.e ng,.e lg,.f s,.a .i64 e,.a .i64 g]]=>some (aH [π s.length 1000] (.d0 (aV ng lg s e g&&ο (eC s 88 88) 0) λb=>bif b then .a0 (.c [(dY ng s e),.a .i64 0])else .a0 (.c [.a .i64 0,.a .i64 6])))
 | _=>none
theorem Qn{s:List UInt8}:(By s=true)=(eC s 48 57+eC s 88 88=s.length):=by unfold By;rw[aJ]
theorem SQ{s:List UInt8}:(By s=false)=(eC s 48 57+eC s 88 88≠s.length):=by unfold By;rw[b9]
theorem Qc{s:List UInt8}:ae (Eg s) []=ο (eC s 48 48) s.length:=by
 rw[bV,Bool.eq_iff_iff,beq_iff_eq,aJ,<-ZF,<-trim_zer,List.isEmpty_iff];rfl
theorem M7(s:List UInt8):eC s 48 57+eC s 88 88<=s.length:=by
 induction s<;>grind [eC]
theorem Il{s:List UInt8}{e:Int}:vU s e=true↔1<=s.length/\s.length<=17/\eC s 48 57=s.length/\(s.getD 0 0).toNat≠48/\0<=e/\e<=16/\¬(e=0/\s.length<5)/\magOk s e.toNat=true:=by rw[AC,Zj]
theorem nt:ak Tryz.prog cfg Zg:=by
 refine au EZ λargs t v he hv=>?_;unfold VA at he;split at he
 . rename_i ng lg s e g;cases he;obtain⟨h1,hv⟩:=eL hv;rw[al]at h1;cases hv;refine jD EZ ai (bE 10056100623310233881143211432420702202432024005400566810056100623310233881143211432420702202432024005400668100561006233102338811432114324207022024320240054068533133707022022051006233133707022022320240054000303100623310233881143707022024320241006233102338811437070220243202400540002002054052232810056100623310233881143707022024320240054080081337070220220510062331337070220223202400540223231006233102338811437070220243202410062331023388114370702202432024005402702054220247700202420242202420020240) (R:=λQ=>(λ(B C G P u0 u1 u4:Bool)(uc:Nat)(I T u2 u3:Prop)=>(λ(A E V:Bool)(ud:Int)(H N O W u5 u6:Prop)=>(λ(U:Bool)(u7:Int)(F u8 u9:Prop)=>(λ(Y ue ug:Bool)(Z ua uf:Prop)=>(λ(uh:Prop)=>(λ(ui uj:Prop)=>(λ(ub uk ul:Prop)=>(λ(um:Prop)=>(λ(un:Prop)=>(U->U/\U/\U/\(P->P/\P/\P/\(C->C/\C/\(ng->ng/\ng/\π uc 1000000/\ng/\C/\ng/\C/\C/\(B->B/\B/\B/\(G->G/\B/\G/\B/\B/\un)/\(N->N/\B/\N/\B/\B/\ul))/\(H->H/\H/\H/\H/\H/\H/\um/\(u3->I)))/\(T->T/\T/\T/\C/\T/\C/\C/\(G->G/\G/\un)/\(N->N/\N/\ul)))/\(O->O/\O/\O/\O/\O/\ub))/\(W->W/\W/\W/\ub))/\(Z->Z/\Z/\Z/\ub)) (um/\(u3->(V->V/\V/\u4=false/\uk)/\(u9->u9/\u9/\u4/\I)))) (lg->(E->E/\E/\u5/\uk)/\ua)) ((lg->(E->E/\E/\u5/\(A->A/\A/\A/\A/\A/\A/\A/\(Y->ui)/\(Y=false->A/\u6/\(ug->I)/\(ug=false->u2)))/\uf)/\ua)/\(u3->I)) ((A->A/\A/\A/\A/\A/\A/\A/\Y/\ui)/\uf) ((lg->(E->E/\E/\u5/\uj)/\ua)/\(u3->uj))) (A/\u6/\(ue->I)/\(uh->u2)) (A/\A/\A/\A/\A/\A/\A/\A/\Y/\A/\u6/\uh/\u2)) (ue=false)) (af .i64 u7) (not (ab g u7)) (not (ab g (IntKind.wrap .i64 u7))) (U=false) (u8->u8/\u8/\u0/\I) (F->F/\F/\F/\F/\F/\F/\F/\F/\u1/\I)) (aa ud 4) (ν ud e) (A=false) (E=false) (V=false)) (not u1) (not u0) (not u4) (ξ uc) (B=false) (G=false) (C=false) (P=false) (u0=false) (u1=false)) (not (ae (Eg s) [])) (aa e 0) (not (aa g 0)) (By s) (not (vU s e)) (not (ab 0 g)) (not (not (not (ο (eC s 88 88) 0)))) s.length (Q (.a .i64 6)) (ng=false) (Q (.a .i64 0)) (lg=false)) (λ_=>by kernel_rfl) λQ' hQ=>?_;try dsimp only
   have yes:aV ng lg s e g->Q' (.a .i64 0):=λh=>hQ _ (by grind);have no:¬aV ng lg s e g->Q' (.a .i64 6):=λh=>hQ _ (by grind);unfold aV at yes no;rw[zAc]at yes no;have hs:=M7 s;have li:=@Il s e;clear hQ;rw[Qc];generalize vU s e=lr at *;generalize magOk s e.toNat=mk at *;generalize (s.getD 0 0).toNat=c0 at *;simp only[Pp,Qn,SQ,reduceCtorEq,eH,eE,ne_eq]at yes no ⊢;generalize eC s 48 57=a at *;generalize eC s 88 88=x at *;generalize eC s 48 48=z at *;generalize s.length=n at *
   (repeat' first|exact trivial|refine⟨?_,?_⟩|intro)<;>first|omega|assumption|(apply yes;grind)|(apply no;grind)|grind
 . cases he
theorem Bk{ng lg:Bool}{s:List UInt8}{e g:Int}(h:aV ng lg s e g)(hx:eC s 88 88=0):(0<=e/\e<=16)/\(1<=s.length/\s.length<=17)/\dV s/\magOk s e.toNat/\cF s e.toNat<=10000000000000000:=by
 grind [aV,oV,magOk,Go.Proofs.YtcffhjfdlflbgaaGreatDoor.numL_lt,wK,BX,al,cF]
theorem Ks{S:aQ}(hS:ak Tryz.prog cfg S):ak Tryz.prog cfg (d5 S 146 Ol):=by
 refine au hS λargs t v he hv=>?_;unfold Ol at he;split at he
 . rename_i ng lg s e g;cases he;obtain⟨h1,hv⟩:=eL hv;rw[al]at h1;have hv':Tr.b0 (bif aV ng lg s e g&&ο (eC s 88 88) 0 then .a0 (.c [(dY ng s e),.a .i64 0])else .a0 (.c [.a .i64 0,.a .i64 6]))=some v:=hv;have ids:aC v=[]:=by
    cases hb:aV ng lg s e g&&ο (eC s 88 88) 0<;>rw[hb]at hv'<;>cases hv'<;>simp[aC,bw]
   refine jD nt ai (bE 10231111111040111440444444005143020542005) (R:=λQ=>(λ(A:AV)(E H:Bool)(C I:Nat)(N:Prop)=>(λ(F O:Bool)(P:Int)(B:Prop)=>(λ(G:Int)(T:Prop)=>(λ(U:Bool)=>π C 1000/\(F->F/\E=false/\(H->B)/\(H=false->(dV s->(aS 0 C->(O->(ab 0 e->(ab e 16->(magOk s I->(ng->(U->Q (.c [G,A]))/\(U=false->Q (.c [(IntKind.wrap .i64 G),A])))/\(N->Q (.c [P,A])))/\(magOk s I=false->(ng->B)/\(N->B)))/\(ab e 16=false->False))/\(ab 0 e=false->False))/\(O=false->False))/\(aS 0 C=false->False))/\(dV s=false->False)))/\(T->T/\E/\B)) (af .i64 G)) (σ 0 P) (F=false)) (not E) (π C 18) (ξ (cF s I)) (Q (.c [A,.a .i64 6]))) (.a .i64 0) (not (aa (cond (aV ng lg s e g) 0 6) 0)) (not (ο (eC s 88 88) 0)) s.length e.toNat (ng=false)) (λ_=>by rfl) (hi:=ids) λQ' hQ=>?_;try dsimp only
   have no:(aV ng lg s e g&&ο (eC s 88 88) 0)=false->Q' (.c [.a .i64 0,.a .i64 6]):=λh=>by
    rw[h]at hv';cases hv';grind
   have yes:(aV ng lg s e g&&ο (eC s 88 88) 0)->Q' (.c [(dY ng s e),.a .i64 0]):=λh=>by
    rw[h]at hv';cases hv';grind
   clear hQ hv hv' ids;cases ho:aV ng lg s e g with
   | false=>
     simp_all [az]
   | true=>
     rw[ho]at no yes;by_cases hx:eC s 88 88=0
     . obtain⟨k1,k2,k3,k4,k5⟩:=Bk ho hx;have yes:=yes (by simp_all);have ev:dY ng s e=if ng=true then -(cF s e.toNat:Int)else(cF s e.toNat:Int):=by grind [dY]
       rw[ev]at yes;rw[k3,k4];clear no ev;generalize cF s e.toNat=mv at *;cases ng<;>simp only[cond_true,az,reduceCtorEq,if_true,Bool.false_eq_true,if_false]at yes ⊢<;>(repeat' first|exact trivial|refine⟨?_,?_⟩|intro)<;>first|omega|exact yes|(rw[Int.zero_sub];exact yes)|grind
     simp_all [az]
 grind
def RH:dW:=λ
 | [.f [c0,c1],.a .i64 g,.a .i64 n,.e r],⟨0,[],[]⟩=>some (aH [aa n 1,bQ r false,ab 0 g,ab g 99] (.d0 (eW [c0,c1] g.toNat) λb=>bif b then .f0 λJ=>.a0 (.c,[.f [c0,c1],g,.j (J 0),true],dO)else .a0 (.b 0,[.f [c0,c1],g,(ν g 1),false],dO)))
 | _,_=>none
def Vq:cx:=iz jE 0 (d9 46 [0,1,5,4] RH)
def V9:dP:=λ
 | [.f s,.a .i64 g]=>some (aH [ab 0 g,ab g 99] (.a0 (eW s g.toNat)))
 | _=>none
def Xq:dP:=λ
 | [.g [.e ng,.e lg,.f s,.a .i64 e,.a .i64 g,.f mo,.f da,.a .u8 a,.a .u8 b,.a .u8 c]]=>some (.a0 (dq mo da))
 | _=>none
def Xy:dP:=λ
 | [.g [.a .u8 a,.a .u8 b,.a .u8 c],.a .i64 n]=>some (aH [af .u8 a,af .u8 b,af .u8 c,ab 1 n,ab n 3] (.a0 (errMk a b c n)))
 | _=>none
def FY:aQ:=d5 (d5 (d5 Zg 169 V9) 171 Xq) 170 Xy
theorem GQ:ec eS 169=some (dH 169,aL 169):=by rfl
theorem Dn:(bz (aL 169)).map (·.1)=[0]:=by rfl
theorem ST{C:bg}{kb tn:Nat}{rel:List Nat}{vs vs' vs'':List AV}{o o' o'':aB}(h1:VW cfg C kb tn rel vs o vs' o')(h2:VW cfg C kb tn rel vs' o' vs'' o''):VW cfg C kb tn rel vs o vs'' o'':=λJ=>(h1 J).c0 λs ⟨J',e⟩=>by rw[e];exact h2 J'
theorem Lo{tn:Nat}{rel:List Nat}{vs vs':List AV}{o:aB}(hle:o.le=[])(hvs:yw (kG 14 [] 20) vs=some vs'):VW cfg (Cw cfg []) 0 tn rel vs o vs' dO:=
 VW.d0 dI.lv (C:=Cw cfg []) (kb:=0) (sel:=[]) zW (Nat.zero_le _) (λs hs=>by grind) List.nodup_nil (λp hp=>by grind) hle.symm rfl rfl (λi hi=>absurd hi (Nat.not_lt_zero i)) (λt ht=>absurd ht (Nat.not_lt_zero t)) hvs
theorem LP{c0 c1:UInt8}{n:Int}:agr [c0,c1] n=true↔(c0.toNat=88\/(c0.toNat:Int)=48+n/10)/\(c1.toNat=88\/(c1.toNat:Int)=48+n%10):=by
 grind [agr,ad7]
theorem P6:cu Tryz.prog (cH cfg Zg) (Cw cfg []) (lb 169 0) 46 [0,1,5,4] RH:=by
 intro vs o t Q hv hq J;unfold RH at hv;split at hv
 . rename_i c0 c1 g n r;cases hv;obtain⟨h1,hq1⟩:=cZ hq;obtain⟨h2,hq2⟩:=cZ hq1;obtain⟨h3,hq3⟩:=cZ hq2;obtain⟨h4,hq4⟩:=cZ hq3;clear hq hq1 hq2 hq3;rw[ao]at h1;rw[Jl]at h2;rw[aq]at h3 h4;subst h1 h2;have hq:Tr.wp Q (bif eW [c0,c1] g.toNat then .f0 λJ=>.a0 (.c,[.f [c0,c1],.a .i64 g,.j (J 0),.e true],dO)else .a0 (.b 0,[.f [c0,c1],.a .i64 g,.a .i64 (g+1),.e false],dO)):=hq4;refine ia nt rfl rfl ai (ι:={i:Nat // i<=g.toNat/\∀k,k<i->agr [c0,c1] ((k:Int)+1)=false}) (λx=>[.f [c0,c1],.a .i64 g,.a .i64 ((x.1:Int)+1),.e false]) (λ_=>dO) (λx=>g.toNat-x.1) 0 (λ_=>Nat.le_refl _) (λx J=>?_) (Nat.le_refl _) (λJ=>Wk.a0 ⟨⟨0,Nat.zero_le _,λk hk=>absurd hk (Nat.not_lt_zero k)⟩,J,rfl⟩) J;obtain⟨i,hi,hp⟩:=x;dsimp only;refine jJ (bE 110020381214030202002002400523812033058107381214232202002002422002432020020024000220704) (R:=λQ=>(λ(N O u0 u2:AV)(I W Y Z u1:Int)=>(λ(H U:Bool)(P T:Int)=>(λ(A C E u4:Bool)(V u3 u5:Prop)=>(λ(B F G u6:Prop)=>(ab ((i:Int)+1) g->af .i64 I/\af .u8 I/\af .u8 P/\af .u8 W/\af .u8 T/\(E->E/\E/\E/\E/\U=false/\(C->C/\C/\C/\(A->A/\A/\A/\A/\C/\u3/\C/\u6)/\(B->B/\B/\B/\B/\C/\H/\C/\V))/\(F->F/\F/\F/\F/\F/\u5))/\(G->G/\G/\G/\G/\U/\(A->A/\A/\A/\A/\u3/\u6)/\(B->B/\B/\B/\B/\H/\V)))/\(ab ((i:Int)+1) g=false->Q (.b 0,[N,O,u0,u2],⟨0,[],[]⟩))) (A=false) (C=false) (E=false) ((u4->V)/\(u4=false->u5))) (not H) (aa Y P) (not U) (aa Z T) (Q (.c,[N,O,u0,.e true],⟨1,[.a [.a .u8 P,.a .u8 T] true none],[]⟩)) (H=false) (af .i64 u1/\Q (.a,[N,O,.a .i64 u1,u2],⟨1,[.a [.a .u8 P,.a .u8 T] true none],[]⟩))) (aa Z 88) (aa Y 88) (ν 48 I) (ν 48 W)) (.f [c0,c1]) (.a .i64 g) (.a .i64 ((i:Int)+1)) (.e false) (Int.tdiv ((i:Int)+1) 10) (Int.tmod ((i:Int)+1) 10) (ξ c0.toNat) (ξ c1.toNat) (ν ((i:Int)+1) 1)) (λ_=>by rfl) λQ' hQ=>?_;try dsimp only
   have t1:((i:Int)+1).tdiv 10=((i:Int)+1)/10:=Int.tdiv_eq_ediv_of_nonneg (by omega);have t2:((i:Int)+1).tmod 10=((i:Int)+1)%10:=Int.tmod_eq_emod_of_nonneg (by omega);have yes:i<g.toNat->agr [c0,c1] ((i:Int)+1)->Q' (.c,[.f [c0,c1],.a .i64 g,.a .i64 ((i:Int)+1),.e true],⟨1,[.a [.a .u8 (48+((i:Int)+1)/10),.a .u8 (48+((i:Int)+1)%10)] true none],[]⟩):=λh ha=>by
    rw[Ob h ha,cond_true]at hq;exact hQ (.c,_,_) ⟨_,_,ST (Lo rfl rfl) (VW.c0 (.same (.same (.int (.same .nil)))) rfl),hq (jv [_])⟩
   have no:i<g.toNat->¬agr [c0,c1] ((i:Int)+1)->Q' (.a,[.f [c0,c1],.a .i64 g,.a .i64 ((i:Int)+1+1),.e false],⟨1,[.a [.a .u8 (48+((i:Int)+1)/10),.a .u8 (48+((i:Int)+1)%10)] true none],[]⟩):=λh ha=>
    hQ (.a,_,_) ⟨⟨i+1,by omega,λk hk=>by
     grind⟩,by grind,Lo rfl rfl⟩
   have fin:¬i<g.toNat->Q' (.b 0,[.f [c0,c1],.a .i64 g,.a .i64 ((i:Int)+1),.e false],dO):=λh=>by
    obtain rfl:i=g.toNat:=by omega
    rw[GB.2 hp,cond_false]at hq;exact hQ (.b 0,_,_) ⟨_,_,VW.b0 (by grind) rfl,hq⟩
   rw[LP]at yes no;clear hQ hq hq4 hp;rw[t1,t2];simp only[az,reduceCtorEq]
   (repeat' first|exact trivial|refine⟨?_,?_⟩|intro)<;>first|omega|exact fin (by omega)|exact yes (by omega) (by omega)|exact no (by omega) (by omega)
 . cases hv
theorem SJ:ak Tryz.prog cfg FY:=by
 refine au (au (au nt λargs t v he hv=>?_) λargs t v he hv=>?_) λargs t v he hv=>?_
 . unfold V9 at he;split at he
   . rename_i s g;cases he;obtain⟨⟨h1,h2,-⟩,hv⟩:=aF hv;rw[aq]at h1 h2;cases hv;by_cases hs:s.length=2
     . match s,hs with
       | [c0,c1],_=>
         refine kA nt (L:=Vq) GQ (by simp) (dv Dn λi hi e he st Q hw=>?_) (jJ (bE 11422000) (R:=λQ=>(λ(A:Bool)=>ab 0 g/\ab g 99/\(A->(∀J1 J2:Nat->Value,Q true))/\(A=false->(∀J1:Nat->Value,Q false))) (eW [c0,c1] g.toNat)) (λ_=>by rfl) λQ' hQ=>?_) (by rfl)
         . have hi:i=0:=by grind
           subst hi;cases he;exact bR (cC.a0 nt) (by decide) rfl P6 hw
         . try dsimp only
           have fin:∀b:Bool,b=eW [c0,c1] g.toNat->Q' b:=λb h=>hQ _ (by rw[h]);clear hQ;generalize eW [c0,c1] g.toNat=sa at *;simp only[az,reduceCtorEq];grind
     . refine kA nt (L:=Vq) GQ (by simp) (dv Dn λi hi e he st Q hw=>?_) (jJ (.t .z) (R:=λQ=>not (aa (ξ s.length) 2)/\Q false) (λ_=>by rfl) λQ' hQ=>?_) (by rfl)
       . have hi:i=0:=by grind
         subst hi;cases he;exact bR (cC.a0 nt) (by decide) rfl P6 hw
       . have sn:eW s g.toNat=false:=GB.2 λk hk=>by grind [agr]
         simp_all [az];omega
   grind
 . unfold Xq at he;split at he
   . rename_i ng lg s e g mo da a b c;cases he;cases hv;refine jD nt ai (bE 1001000405100100040054005) (R:=λQ=>(λ(A B:Bool)(C:Prop)=>(λ(E:Prop)=>(B->(A->Q (.a .i64 3))/\(E->C))/\(B=false->(A->C)/\(E->Q (.a .i64 1)))) (A=false)) (not (ae da [])) (not (ae mo [])) (Q (.a .i64 2))) (λ_=>by rfl) λQ' hQ=>?_;grind [dq]
   grind
 . unfold Xy at he;split at he
   . rename_i a b c n;cases he;obtain⟨⟨h1,h2,h3,h4,h5,-⟩,hv⟩:=aF hv;rw[aE]at h1 h2 h3;simp only[eH,eE]at h1 h2 h3;rw[aq]at h4 h5;cases hv;refine jD nt ai (bE 1530310014020245164000530310014020225164051402024516400053033516400053322) (R:=λQ=>(λ(B C H I N O P T:Bool)(A E U:Prop)=>(λ(V:Bool)(F G W Y:Prop)=>V/\V/\H=false/\not (ab n 3)=false/\(I->A)/\(I=false->E/\E/\E/\(N->A)/\(N=false->(C->C/\C/\(O->A)/\(O=false->(P->A)/\(W->B/\Y)))/\(F->F/\F/\(P->A)/\(W->(B->Y)/\(G->G/\G/\U)))))) (not H) (C=false) (B=false) (P=false) (B/\B/\(T->A)/\(T=false->U))) (ab n 2) (ab n 1) (not (ab 1 n)) (not (ab a 3)) (not (ab b 3)) (not (aa b 0)) (not (ab c 3)) (not (aa c 0)) (Q (.a .i64 9)) (ab n 0=false) (Q (.a .i64 0))) (λ_=>by rfl) λQ' hQ=>?_;try dsimp only
     have fin:∀v:Int,v=errMk a b c n->Q' v:=λv h=>hQ _ (by rw[h]);clear hQ;unfold errMk at fin;simp only[az,reduceCtorEq];grind
   grind
def iE(y:Int):Int:=lp y
def bf(y:Int):Int:=yst y
def qU(y:Int):Int:=before y
def dc(a b:Int):Int:=a/b
def d8(a b:Int):Int:=a%b
def UM:dP:=λ
 | [.a .i64 a,.a .i64 b]=>some (aH [af .i64 a,ab 2 b,ab b 200000] (.a0 (.c [(dc a b),.a .i64 0])))
 | _=>none
def WC:dP:=λ
 | [.a .i64 a,.a .i64 b]=>some (aH [af .i64 a,ab 2 b,ab b 200000] (.a0 (.c [(d8 a b),.a .i64 0])))
 | _=>none
def Z8:aQ:=d5 (d5 gZ 283 UM) 284 WC
def IM(y:Int):Bool:=ab (-20000000000000000) y&&ab y 20000000000000000
def VO:dP:=λ
 | [.a .i64 y]=>some (aH [IM y] (.a0 (qU y)))
 | _=>none
def Vr:dP:=λ
 | [.a .i64 y]=>some (aH [IM y] (.a0 (bf y)))
 | _=>none
def Hd:aQ:=d5 Z8 337 VO
def He:aQ:=d5 Hd 287 Vr
theorem Lx{a b:Int}(hb:0<b):(a.tmod b<0->a.tdiv b-1=dc a b/\a.tmod b+b=d8 a b)/\(0<=a.tmod b->a.tdiv b=dc a b/\a.tmod b=d8 a b)/\-b<a.tmod b/\a.tmod b<b/\(a.tmod b<0->a<0)/\(0<a.tmod b->0<a):=by
 have e:=tq_cases a b hb;have h1:=Int.lt_tmod_of_pos a hb;have h2:=Int.tmod_lt_of_pos a hb;have h3:0<=a->0<=a.tmod b:=λh=>Int.tmod_nonneg b h;have h4:a<=0->a.tmod b<=0:=λh=>by
  have:=Int.tmod_nonneg b (show 0<=-a by omega);simp_all
 grind [dc,d8]
theorem Ja:ak Tryz.prog cfg Z8:=by
 refine au (au aW λargs t v he hv=>?_) λargs t v he hv=>?_
 . unfold UM at he;split at he
   . rename_i a b;cases he;obtain⟨⟨h1,h2,h3,-⟩,hv⟩:=aF hv;rw[aE]at h1;rw[aq]at h2 h3;simp only[eH,eE]at h1;cases hv;refine jD aW ai (bE 1033811144227421033811144227424233) (R:=λQ=>(λ(C:AV)(A F G:Bool)(E:Int)=>(λ(N:Bool)(H T:Int)(B O P:Prop)=>(λ(U:Bool)(I:Int)(V:Prop)=>(λ(W:Bool)=>aa b 0=false/\aa b (Neg.neg 1)=false/\F/\(N->F/\(A->A/\A/\A/\A/\A/\(G->(U->Q (.c [H,C]))/\(U=false->Q (.c [(IntKind.wrap .i64 H),C])))/\(O->P))/\(B->B/\B/\B/\B/\B/\P))/\(N=false->F/\(A->A/\A/\A/\A/\A/\(G->(W->Q (.c [I,C]))/\(W=false->Q (.c [(IntKind.wrap .i64 I),C])))/\(O->V))/\(B->B/\B/\B/\B/\B/\V))) (af .i64 I)) (af .i64 H) (σ T 1) (Q (.c [T,C]))) (af .i64 E) (σ E 1) (IntKind.wrap .i64 E) (A=false) (G=false) (Q (.c [E,C]))) (.a .i64 0) (not (aa (Int.tmod a b) 0)) (not (aa b 0)) (not (bQ (not (ab 0 a)) (not (ab 0 b)))) (Int.tdiv a b)) (λ_=>by rfl) λQ' hQ=>?_;try dsimp only
     obtain⟨k1,k2,k3,k4,k5,k6⟩:=@Lx a b (by omega);have tb:=tdiv_bd a b h2 h1.1 h1.2;have w:IntKind.wrap .i64 (a.tdiv b)=a.tdiv b:=Bx .i64 _ (by grind [eH]) (by grind [eE]);have fin:∀n:Int,n=dc a b->Q' (.c [n,.a .i64 0]):=λn h=>hQ _ (by rw[h]);clear hQ;have e0:ab 0 b=true:=aq.mpr (by omega);simp only[w,e0,Bool.not_true];generalize a.tdiv b=q at *;generalize a.tmod b=r at *;simp only[az,reduceCtorEq];grind
   grind
 . unfold WC at he;split at he
   . rename_i a b;cases he;obtain⟨⟨h1,h2,h3,-⟩,hv⟩:=aF hv;rw[aE]at h1;rw[aq]at h2 h3;simp only[eH,eE]at h1;cases hv;refine jD aW ai (bE 10338111442274233) (R:=λQ=>(λ(E:AV)(C:Int)=>(λ(A G:Bool)(F:Int)(H:Prop)=>(λ(I:Bool)(B:Prop)=>aa b 0=false/\aa b (Neg.neg 1)=false/\not (aa b 0)/\(A->A/\A/\A/\A/\A/\(G->(I->Q (.c [F,E]))/\(I=false->Q (.c [(IntKind.wrap .i64 F),E])))/\(G=false->H))/\(B->B/\B/\B/\B/\B/\H)) (af .i64 F) (A=false)) (not (aa C 0)) (not (bQ (not (ab 0 C)) (not (ab 0 b)))) (ν C b) (Q (.c [C,E]))) (.a .i64 0) (Int.tmod a b)) (λ_=>by rfl) λQ' hQ=>?_;try dsimp only
     obtain⟨k1,k2,k3,k4,k5,k6⟩:=@Lx a b (by omega);have fin:∀n:Int,n=d8 a b->Q' (.c [n,.a .i64 0]):=λn h=>hQ _ (by rw[h]);clear hQ;have e0:ab 0 b=true:=aq.mpr (by omega);simp only[e0,Bool.not_true];generalize a.tdiv b=q at *;generalize a.tmod b=r at *;simp only[az,reduceCtorEq];grind
   grind
theorem MK:ak Tryz.prog cfg Hd:=by
 refine au Ja λargs t v he hv=>?_
 . unfold VO at he;split at he
   . rename_i y;cases he;obtain⟨h1,hv⟩:=eL hv;unfold IM at h1;rw[zAa,aq,aq]at h1;cases hv;refine jD Ja ai (bE 100100410010044000200200051001004100100440002002000541001004100100440002002000510010041001004400020020005440002002000510010041001004400020020005100100410010044000200200054100100410010044000200200051001004100100440002002000544000200200054100100410010044000200200051001004100100440002002000541001004100100440002002000510010041001004400020020005440002002000510010041001004400020020005100100410010044000200200054100100410010044000200200051001004100100440002002000544000200200054400020020005) (R:=λQ=>(λ(I:Int)=>(λ(A:Bool)(B G u3:Int)=>(λ(C H uA:Bool)(E N O P:Int)=>(λ(uB uD:Bool)(T V W Y uC uE:Int)(F U:Prop)=>(λ(uF uH uJ uL:Bool)(Z u0 u1 u2 u4 u5 u6 u7 u8 u9 ua ub uG uI uK uM:Int)=>(λ(uN uO uP uQ uR uT uV uW uX uY uZ v1:Bool)(uc ud ue uf ug uh ui uj uk ul um un uo up uq ur uS uU v0 v2:Int)=>(λ(v3 v4 v5 v6 v7 v8 v9 va vb vc vd ve vf vg vh vi:Bool)(us ut uu uv uw ux uy uz:Int)=>(λ(vj vk vl vm vn vo vp vq:Bool)=>(λ(vr:Prop->Prop)=>vr ((uA->(uB->vr ((H->(uF->vr ((C->(uN->Q u4)/\(uN=false->Q (IntKind.wrap .i64 u4)))/\(F->(uO->Q u5)/\(uO=false->Q (IntKind.wrap .i64 u5)))))/\(uF=false->vr ((C->(v3->Q uc)/\(v3=false->Q (IntKind.wrap .i64 uc)))/\(F->(v4->Q ud)/\(v4=false->Q (IntKind.wrap .i64 ud))))))/\(U->(uH->vr ((C->(uP->Q u6)/\(uP=false->Q (IntKind.wrap .i64 u6)))/\(F->(uQ->Q u7)/\(uQ=false->Q (IntKind.wrap .i64 u7)))))/\(uH=false->vr ((C->(v5->Q ue)/\(v5=false->Q (IntKind.wrap .i64 ue)))/\(F->(v6->Q uf)/\(v6=false->Q (IntKind.wrap .i64 uf))))))))/\(uB=false->vr ((H->(uR->vr ((C->(v7->Q ug)/\(v7=false->Q (IntKind.wrap .i64 ug)))/\(F->(v8->Q uh)/\(v8=false->Q (IntKind.wrap .i64 uh)))))/\(uR=false->vr ((C->(vj->Q us)/\(vj=false->Q (IntKind.wrap .i64 us)))/\(F->(vk->Q ut)/\(vk=false->Q (IntKind.wrap .i64 ut))))))/\(U->(uT->vr ((C->(v9->Q ui)/\(v9=false->Q (IntKind.wrap .i64 ui)))/\(F->(va->Q uj)/\(va=false->Q (IntKind.wrap .i64 uj)))))/\(uT=false->vr ((C->(vl->Q uu)/\(vl=false->Q (IntKind.wrap .i64 uu)))/\(F->(vm->Q uv)/\(vm=false->Q (IntKind.wrap .i64 uv)))))))))/\(uA=false->(uD->vr ((H->(uJ->vr ((C->(uV->Q u8)/\(uV=false->Q (IntKind.wrap .i64 u8)))/\(F->(uW->Q u9)/\(uW=false->Q (IntKind.wrap .i64 u9)))))/\(uJ=false->vr ((C->(vb->Q uk)/\(vb=false->Q (IntKind.wrap .i64 uk)))/\(F->(vc->Q ul)/\(vc=false->Q (IntKind.wrap .i64 ul))))))/\(U->(uL->vr ((C->(uX->Q ua)/\(uX=false->Q (IntKind.wrap .i64 ua)))/\(F->(uY->Q ub)/\(uY=false->Q (IntKind.wrap .i64 ub)))))/\(uL=false->vr ((C->(vd->Q um)/\(vd=false->Q (IntKind.wrap .i64 um)))/\(F->(ve->Q un)/\(ve=false->Q (IntKind.wrap .i64 un))))))))/\(uD=false->vr ((H->(uZ->vr ((C->(vf->Q uo)/\(vf=false->Q (IntKind.wrap .i64 uo)))/\(F->(vg->Q up)/\(vg=false->Q (IntKind.wrap .i64 up)))))/\(uZ=false->vr ((C->(vn->Q uw)/\(vn=false->Q (IntKind.wrap .i64 uw)))/\(F->(vo->Q ux)/\(vo=false->Q (IntKind.wrap .i64 ux))))))/\(U->(v1->vr ((C->(vh->Q uq)/\(vh=false->Q (IntKind.wrap .i64 uq)))/\(F->(vi->Q ur)/\(vi=false->Q (IntKind.wrap .i64 ur)))))/\(v1=false->vr ((C->(vp->Q uy)/\(vp=false->Q (IntKind.wrap .i64 uy)))/\(F->(vq->Q uz)/\(vq=false->Q (IntKind.wrap .i64 uz))))))))))) (λvs=>A/\A/\vs)) (af .i64 us) (af .i64 ut) (af .i64 uu) (af .i64 uv) (af .i64 uw) (af .i64 ux) (af .i64 uy) (af .i64 uz)) (af .i64 uc) (af .i64 ud) (af .i64 ue) (af .i64 uf) (af .i64 ug) (af .i64 uh) (af .i64 ui) (af .i64 uj) (af .i64 uk) (af .i64 ul) (af .i64 um) (af .i64 un) (af .i64 uo) (af .i64 up) (af .i64 uq) (af .i64 ur) (ν uS B) (ν uS E) (ν uU B) (ν uU E) (ν v0 B) (ν v0 E) (ν v2 B) (ν v2 E)) (af .i64 u4) (af .i64 u5) (af .i64 u6) (af .i64 u7) (af .i64 Z) (af .i64 u0) (af .i64 u8) (af .i64 u9) (af .i64 ua) (af .i64 ub) (af .i64 u1) (af .i64 u2) (ν uG B) (ν uG E) (ν uI B) (ν uI E) (ν Z B) (ν Z E) (ν u0 B) (ν u0 E) (ν uK B) (ν uK E) (ν uM B) (ν uM E) (ν u1 B) (ν u1 E) (ν u2 B) (ν u2 E) (IntKind.wrap .i64 Z) (IntKind.wrap .i64 u0) (IntKind.wrap .i64 u1) (IntKind.wrap .i64 u2)) (af .i64 T) (af .i64 V) (af .i64 W) (af .i64 Y) (ν uC G) (ν uC O) (ν uE G) (ν uE O) (ν T B) (ν T E) (ν V B) (ν V E) (ν W B) (ν W E) (ν Y B) (ν Y E) (IntKind.wrap .i64 T) (IntKind.wrap .i64 V) (IntKind.wrap .i64 W) (IntKind.wrap .i64 Y)) (af .i64 N) (af .i64 P) (ν N G) (ν N O) (ν P G) (ν P O) (IntKind.wrap .i64 N) (IntKind.wrap .i64 P) (C=false) (H=false)) (af .i64 B) (af .i64 G) (af .i64 u3) (IntKind.wrap .i64 B) (ν 1 u3) (IntKind.wrap .i64 G) (ν 1 (IntKind.wrap .i64 u3))) (af .i64 I) (ς 1 (dc I 400)) (ς (Neg.neg 1) (dc I 100)) (ς 1 (dc I 4))) (σ y 1)) (λ_=>by kernel_rfl) λQ' hQ=>?_;try dsimp only
     have fin:∀n:Int,n=qU y->Q' n:=λn h=>hQ _ (by rw[h]);clear hQ;simp only[az,reduceCtorEq,dc];unfold qU before at fin
     (repeat' first|exact trivial|refine⟨?_,?_⟩|intro)<;>first|omega|(apply fin;omega)
   . cases he
theorem Cd:ak Tryz.prog cfg He:=by
 refine au MK λargs t v he hv=>?_
 . unfold Vr at he;split at he
   . rename_i y;cases he;obtain⟨h1,hv⟩:=eL hv;unfold IM at h1;rw[zAa,aq,aq]at h1;cases hv;have hok:IM y=true:=by grind [IM,aq]
     have hb : -20000000000000000<=qU y/\qU y<=20000000000000000:=by grind [qU,before]
     refine jD MK ai (bE 114202) (R:=λQ=>(λ(B:Int)=>(λ(A:Int)=>(λ(C:Bool)=>af .i64 B/\and (ab (Neg.neg 20000000000000000) y) (ab y 20000000000000000)/\(C->Q A)/\(C=false->Q (IntKind.wrap .i64 A))) (af .i64 A)) (ν B (qU y))) (ς 365 y)) (λ_=>by rfl) λQ' hQ=>?_;try dsimp only
     have fin:∀n:Int,n=bf y->Q' n:=λn h=>hQ _ (by rw[h]);clear hQ;have e:bf y=365*y+qU y:=rfl;simp_all [az];omega
   grind
def eO(y:Int):Bool:=ab (-10000000000000000) y&&ab y 10000000000000000
def tL(m:Int):Bool:=ab 1 m&&ab m 12
def d6(y m:Int):Int:=mlen y m
def aG(y m:Int):Int:=mst y m
def WX:dP:=λ
 | [.a .i64 y]=>some (aH [eO y] (.a0 (.c [(aa (iE y) 1),.a .i64 0])))
 | _=>none
def Sd:dP:=λ
 | [.a .i64 y]=>some (aH [eO y] (.a0 (.c [(bf y),.a .i64 0])))
 | _=>none
def QV:dP:=λ
 | [.a .i64 y]=>some (aH [eO y] (.a0 (.c [.a .i64 (bf (y+1)-1),.a .i64 0])))
 | _=>none
def Hh:aQ:=d5 (d5 (d5 He 338 WX) 289 Sd) 290 QV
def Xm:dP:=λ
 | [.a .i64 y,.a .i64 m]=>some (aH [eO y,tL m] (.a0 (d6 y m)))
 | _=>none
def Zc:aQ:=d5 Hh 292 Xm
theorem bX{y:Int}:eO y=true↔-10000000000000000<=y/\y<=10000000000000000:=by grind [eO,aq]
theorem gX{m:Int}:tL m=true↔1<=m/\m<=12:=by grind [tL,aq]
theorem rm{y:Int}(h : -10000000000000000<=y)(h2:y<=10000000000000001) : -3652425000000000001<=bf y/\bf y<=3652425000000000400:=yst_bd y h h2
theorem Bg:ak Tryz.prog cfg Hh:=by
 refine au (au (au Cd λargs t v he hv=>?_) λargs t v he hv=>?_) λargs t v he hv=>?_
 . unfold WX at he;split at he
   . rename_i y;cases he;obtain⟨h1,hv⟩:=eL hv;rw[bX]at h1;cases hv;refine jD Cd ai (bE 12020203322) (R:=λQ=>(λ(B:Bool)(A:Int)=>(λ(C:Bool)=>C/\C/\B=false/\not (ab y 10000000000000000)=false/\af .i64 A/\and (ab (Neg.neg 20000000000000000) A) (ab A 20000000000000000)/\and (ab (Neg.neg 20000000000000000) y) (ab y 20000000000000000)/\Q (.c [(not (ab (qU A) (qU y))),.a .i64 0])) (not B)) (not (ab (Neg.neg 10000000000000000) y)) (ν y 1)) (λ_=>by rfl) λQ' hQ=>?_;try dsimp only
     have e:qU (y+1)=qU y+iE y:=before_succ y;have l:0<=iE y/\iE y<=1:=lp_01 y;have fin:∀b:Bool,b=aa (iE y) 1->Q' (.c [b,.a .i64 0]):=λb h=>hQ _ (by rw[h]);clear hQ;have hb:Bool.not (ab (qU (ν y 1)) (qU y))=aa (iE y) 1:=by
      grind [bF,ao]
     simp_all [az];omega
   grind
 . unfold Sd at he;split at he
   . rename_i y;cases he;obtain⟨h1,hv⟩:=eL hv;rw[bX]at h1;cases hv;refine jD Cd ai (bE 12003322) (R:=λQ=>(λ(A:Bool)=>(λ(B:Bool)=>B/\B/\A=false/\not (ab y 10000000000000000)=false/\and (ab (Neg.neg 20000000000000000) y) (ab y 20000000000000000)/\Q (.c [(bf y),.a .i64 0])) (not A)) (not (ab (Neg.neg 10000000000000000) y))) (λ_=>by rfl) λQ' hQ=>?_;simp_all [az];omega
   grind
 . unfold QV at he;split at he
   . rename_i y;cases he;obtain⟨h1,hv⟩:=eL hv;rw[bX]at h1;cases hv;refine jD Cd ai (bE 11420203322) (R:=λQ=>(λ(E:AV)(C:Bool)(A:Int)=>(λ(F:Bool)(B:Int)=>(λ(G:Bool)=>F/\F/\C=false/\not (ab y 10000000000000000)=false/\af .i64 A/\and (ab (Neg.neg 20000000000000000) A) (ab A 20000000000000000)/\(G->Q (.c [B,E]))/\(G=false->Q (.c [(IntKind.wrap .i64 B),E]))) (af .i64 B)) (not C) (σ (bf A) 1)) (.a .i64 0) (not (ab (Neg.neg 10000000000000000) y)) (ν y 1)) (λ_=>by rfl) λQ' hQ=>?_;try dsimp only
     have bd:=@rm (y+1) (by omega) (by omega);simp_all [az];omega
   grind
theorem RB{k:Nat}(hk:k<12):List.getD [AV.a .i64 31,.a .i64 28,.a .i64 31,.a .i64 30,.a .i64 31,.a .i64 30,.a .i64 31,.a .i64 31,.a .i64 30,.a .i64 31,.a .i64 30,.a .i64 31] (0+k*1) (AV.c [])=(len0.getD k 0):=by
 have:k=0\/k=1\/k=2\/k=3\/k=4\/k=5\/k=6\/k=7\/k=8\/k=9\/k=10\/k=11:=by omega
 rcases this with rfl|rfl|rfl|rfl|rfl|rfl|rfl|rfl|rfl|rfl|rfl|rfl<;>rfl
theorem Bb:ak Tryz.prog cfg Zc:=by
 refine au Bg λargs t v he hv=>?_;unfold Xm at he;split at he
 . rename_i y m;cases he;obtain⟨⟨h1,h2,-⟩,hv⟩:=aF hv;rw[bX]at h1;rw[gX]at h2;cases hv;refine jD Bg ai (bE 1270331271422420) (R:=λQ=>(λ(A C:AV)(B:Bool)(E:Int)=>(λ(G:Nat)(F:Prop)=>(λ(H:AV)=>(λ(I:Prop)=>and (ab (Neg.neg 10000000000000000) y) (ab y 10000000000000000)/\(B->B/\B/\(aa m 2->Q (.a .i64 29))/\(aa m 2=false->I))/\(F->F/\F/\I)) (af .i64 E/\ab 0 E/\aS G 12/\eB .i64 H/\Q (dx H))) (List.getD [A,.a .i64 28,A,C,A,C,A,A,C,A,C,A] (HAdd.hAdd 0 (HMul.hMul G 1)) (.c []))) E.toNat (B=false)) (.a .i64 31) (.a .i64 30) (aa (iE y) 1) (σ m 1)) (λ_=>by rfl) λQ' hQ=>?_;try dsimp only
   have hk:(σ m 1).toNat<12:=by grind
   rw[RB hk];have l:0<=iE y/\iE y<=1:=lp_01 y;have i0:∀n:Int,dx n=n:=λ_=>rfl;have ka:∀n:Int,eB .i64 n=true:=λn=>rfl;simp only[i0,ka];have fin:∀n:Int,n=d6 y m->Q' n:=λn h=>hQ _ (by rw[h]);have e29:m=2->iE y=1->d6 y m=29:=λk1 k2=>by subst k1;unfold d6 mlen;rw[if_pos rfl];unfold iE at k2;omega
   have en:(m≠2\/iE y=0)->d6 y m=len0.getD (m-1).toNat 0:=λh=>mlen_len0 y m h2.1 h2.2 h;have yb:=bX.2 h1;clear hQ hk;simp only[az,reduceCtorEq]
   (repeat' first|exact trivial|refine⟨?_,?_⟩|intro)<;>first|omega|assumption|(apply fin;rw[e29 (by omega) (by omega)])|(apply fin;rw[en (by omega)])
 . cases he
end Go.Ev
