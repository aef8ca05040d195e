import Derived.Test.YtcffhjfdlflbgaaGreatDoorP36
set_option linter.all false
open HAdd renaming hAdd->ν
open Int renaming ofNat->ξ,sub->σ
open List renaming getD->ο
open Nat renaming ble->π,beq->ς
open Bool renaming and_true->τ
open HMul renaming hMul->υ
set_option linter.all false
set_option maxRecDepth 100000
set_option maxHeartbeats 4000000
namespace Go.Ev
open Go Go.Proofs
variable{S:aQ}{k:Int}{ea la:Bool}{L:List It}{K:fg}
def xQ:dP:=λ
 | [.g [.e ng,.e lg,.f s,.a .i64 e,.a .i64 g,.f mo,.f da,.a .u8 a,.a .u8 b,.a .u8 c]]=>some (aH [wa ng lg s e g mo da a b c] (.a0 (bI (eX s g mo da))))
 | _=>none
def NV:aQ:=d5 (d5 (d5 gZ 46 tw) 126 ag_) 66 Zt
def BZ:dP:=λ
 | [.g [.e ng,.e lg,.f s,.a .i64 e,.a .i64 g,.f mo,.f da,.a .u8 a,.a .u8 b,.a .u8 c,.e r,.e ng',.e lg',.f s',.a .i64 e',.a .i64 g',.f mo',.f da',.a .u8 a',.a .u8 b',.a .u8 c'],.e all]=>some (aH [aap (bif all then 4 else 3) ⟨⟨ng,lg,s,e,g,mo,da,a,b,c⟩,r,⟨ng',lg',s',e',g',mo',da',a',b',c'⟩⟩] (.a0 (.a .i64 0)))
 | _=>none
def NP:aQ:=d5 (d5 (d5 (d5 (d5 gZ 46 tw) 111 xQ) 68 YA) 70 ahu) 126 ag_
def Gw:aQ:=d5 (d5 gZ 110 BZ) 111 xQ
def Dm(L:List It)(k:Int)(ea la:Bool):dW:=λ
 | [.h 15 0,.a .i64 i],⟨3,[.a z2 true none,.a z1 true none,.a (.a .u8 k1::.e false::.e false::.f []::.a .i64 0::.a .i64 0::.f []::.f []::.a .u8 0::.a .u8 0::.a .u8 0::.a .u8 0::.e false::.e false::.f []::.a .i64 0::.a .i64 0::.f []::.f []::.a .u8 0::.a .u8 0::.a .u8 0::.a .u8 0::.e false::.e false::.f []::.a .i64 0::.a .i64 0::.f []::.f []::.a .u8 0::.a .u8 0::.a .u8 0::.b 14 0 m K1::.e ea1::.e la1::[]) true none],[]⟩=>some (aH [ς L.length m,iw z2,iw z1,aa i 0,aa k1 k,bQ ea1 ea,bQ la1 la] (.a0 (.b 0,[.h 15 0,(ξ m)],⟨3,[.a z2 true none,.a z1 true none,.a (fS k (.b 14 0 m K1) ea la) true none],[]⟩)))
 | _,_=>none
def Mp(L:List It)(k:Int)(ea la:Bool):cx:=iz jE 0 (d9 156 [1,7] (Dm L k ea la))
noncomputable def Lr:aav:=λ
 | [.g (.a .u8 k::.e false::.e false::.f []::.a .i64 0::.a .i64 0::.f []::.f []::.a .u8 0::.a .u8 0::.a .u8 0::.a .u8 0::.e false::.e false::.f []::.a .i64 0::.a .i64 0::.f []::.f []::.a .u8 0::.a .u8 0::.a .u8 0::.a .u8 0::.e false::.e false::.f []::.a .i64 0::.a .i64 0::.f []::.f []::.a .u8 0::.a .u8 0::.a .u8 0::.b 14 0 n K::.e ea::.e la::[])],[.a w false none]=>some (aH [abk w n k ea la] (.a0 (.c [.a .i64 0,.a .i64 0],[])))
 | _,_=>none
noncomputable def NN:aQ:=eQ gZ 59 (fl 14 [21] Lr)
theorem akf:ec eS 59=some (dH 59,aL 59):=by rfl
theorem aiK:(bz (aL 59)).map (·.1)=[0]:=by rfl
theorem akd:ak Tryz.prog cfg NV:=bm (afa (aeN aW)) (MW 66 _ rfl)
theorem ae9{x:Da}(h:dF x):(π x.s.length 1000/\π x.mo.length 1000/\π x.da.length 1000=true)/\af .i64 x.e/\bW x.ng x.lg x.s x.e x.g x.mo x.da x.a x.b x.c=0:=by
 obtain⟨_,h2,_,_,_,_,h7⟩:=SA.1 (show wa _ _ _ _ _ _ _ _ _ _=true from h);grind [aej]
theorem ajQ(hS:ak Tryz.prog cfg S):ak Tryz.prog cfg (d5 S 111 xQ):=by
 refine au hS λargs t v he hv=>?_;unfold xQ at he;split at he
 . rename_i ng lg s e g mo da a b c;cases he;replace hv:=aF hv;obtain⟨⟨h1,-⟩,hv⟩:=hv;cases hv;obtain⟨⟨l1,l2,l3⟩,h2,h7⟩:=ae9 (x:=⟨ng,lg,s,e,g,mo,da,a,b,c⟩) h1;dsimp only at l1 l2 l3 h2 h7;refine nF akd ai (bE 1052331023311432020643270206422006) (R:=λQ=>(λ(A E F:List UInt8)(G:Prop)=>(λ(H I P T:Bool)=>(λ(B C:Bool)=>(λ(N O:Prop)=>P/\af .i64 (Da.e ⟨ng,lg,s,e,g,mo,da,a,b,c⟩)/\(B->B/\P/\π A.length 1000/\π F.length 1000/\B/\H=false/\(C->C/\C/\I=false/\(T->G)/\(T=false->Q (.a .i64 1)))/\(N->N/\N/\I/\G))/\(O->O/\O/\H/\G)) (C=false) (B=false)) (not H) (not I)) (not (aa (bW (Da.ng ⟨ng,lg,s,e,g,mo,da,a,b,c⟩) (Da.lg ⟨ng,lg,s,e,g,mo,da,a,b,c⟩) E (Da.e ⟨ng,lg,s,e,g,mo,da,a,b,c⟩) (Da.g ⟨ng,lg,s,e,g,mo,da,a,b,c⟩) A F (Da.a ⟨ng,lg,s,e,g,mo,da,a,b,c⟩) (Da.b ⟨ng,lg,s,e,g,mo,da,a,b,c⟩) (Da.c ⟨ng,lg,s,e,g,mo,da,a,b,c⟩)) 0)) (aa (bI (cK E (Da.g ⟨ng,lg,s,e,g,mo,da,a,b,c⟩) A F)) 0) (π E.length 1000) (not (ab (aR A) 0))) (Da.mo ⟨ng,lg,s,e,g,mo,da,a,b,c⟩) (Da.s ⟨ng,lg,s,e,g,mo,da,a,b,c⟩) (Da.da ⟨ng,lg,s,e,g,mo,da,a,b,c⟩) (Q (.a .i64 0))) (λ_=>by rfl) λQ' hQ=>?_;try dsimp only
   unfold eX at hQ;have hs0:ab (aR mo) 0=aa (aR mo) 0:=by
    have:=CF mo;grind [aq,ao]
   try dsimp only
   rw[h7,hs0];cases hn:cK s g mo da<;>cases hs:aa (aR mo) 0<;>rw[hn,hs]at hQ<;>simp only[l1,l2,l3,h2,show aa 0 0=true from rfl,show aa (bI true) 0=false from rfl,show aa (bI false) 0=true from rfl,zAi,true_and,and_true,true_imp_iff,reduceCtorEq,false_imp_iff]<;>exact hQ
 grind
theorem ag5:ak Tryz.prog cfg NP:=afa (afd (bm (ajQ (aeN aW)) (MW 68 _ rfl)))
theorem anF(hS:ak Tryz.prog cfg S):ak Tryz.prog cfg (d5 S 110 BZ):=by
 refine au hS λargs t v he hv=>?_;unfold BZ at he;split at he
 . rename_i ng lg s e g mo da a b c r ng' lg' s' e' g' mo' da' a' b' c' all;cases he;replace hv:=aF hv;obtain⟨⟨h1,-⟩,hv⟩:=hv;cases hv;unfold aap mB at h1;dsimp only at h1;rw[zAa,zAa,show aa (bif all then 4 else 3) 4=all by cases all<;>rfl]at h1;obtain⟨v1,v2,v3⟩:=h1;obtain⟨⟨l1,l2,l3⟩,h2,h7⟩:=ae9 v1;dsimp only at l1 l2 l3 h2 h7;have v1':wa ng lg s e g mo da a b c=true:=v1;have hno:all->cK s g mo da=true:=λh=>by rw[h]at v3;exact v3
   cases r with
   | false=>
     rw[cond_false]at v2;refine nF ag5 ai (bE 10381142270206240014005666322006) (R:=λQ=>(λ(F:Bool)(B C E:List UInt8)(A G:Prop)=>(λ(H I:Bool)=>H/\af .i64 (Da.e ⟨ng,lg,s,e,g,mo,da,a,b,c⟩)/\not (aa (bW (Da.ng ⟨ng,lg,s,e,g,mo,da,a,b,c⟩) (Da.lg ⟨ng,lg,s,e,g,mo,da,a,b,c⟩) B (Da.e ⟨ng,lg,s,e,g,mo,da,a,b,c⟩) (Da.g ⟨ng,lg,s,e,g,mo,da,a,b,c⟩) C E (Da.a ⟨ng,lg,s,e,g,mo,da,a,b,c⟩) (Da.b ⟨ng,lg,s,e,g,mo,da,a,b,c⟩) (Da.c ⟨ng,lg,s,e,g,mo,da,a,b,c⟩)) 0)=false/\(F->Q (.a .i64 5))/\(F=false->(all->all/\all/\H/\π C.length 1000/\π E.length 1000/\all/\all/\(I->Q (.a .i64 10))/\(I=false->G))/\(A->A/\A/\A/\A/\G))) (π B.length 1000) (aa (bI (cK B (Da.g ⟨ng,lg,s,e,g,mo,da,a,b,c⟩) C E)) 0)) (not (and (and (bQ (Da.ng ⟨ng',lg',s',e',g',mo',da',a',b',c'⟩) false) (and (bQ (Da.lg ⟨ng',lg',s',e',g',mo',da',a',b',c'⟩) false) (and (ae (Da.s ⟨ng',lg',s',e',g',mo',da',a',b',c'⟩) []) (and (aa (Da.e ⟨ng',lg',s',e',g',mo',da',a',b',c'⟩) 0) (and (aa (Da.g ⟨ng',lg',s',e',g',mo',da',a',b',c'⟩) 0) true))))) (and (ae (Da.mo ⟨ng',lg',s',e',g',mo',da',a',b',c'⟩) []) (and (ae (Da.da ⟨ng',lg',s',e',g',mo',da',a',b',c'⟩) []) (and (and (aa (Da.a ⟨ng',lg',s',e',g',mo',da',a',b',c'⟩) 0) (and (aa (Da.b ⟨ng',lg',s',e',g',mo',da',a',b',c'⟩) 0) (and (aa (Da.c ⟨ng',lg',s',e',g',mo',da',a',b',c'⟩) 0) true))) true))))) (Da.s ⟨ng,lg,s,e,g,mo,da,a,b,c⟩) (Da.mo ⟨ng,lg,s,e,g,mo,da,a,b,c⟩) (Da.da ⟨ng,lg,s,e,g,mo,da,a,b,c⟩) (all=false) (Q (.a .i64 0))) (λ_=>by rfl) λQ' hQ=>?_;simp_all [dZ,aa,bI]
   | true=>
     rw[cond_true,zAa]at v2;obtain⟨w1,w2⟩:=v2;obtain⟨⟨m1,m2,m3⟩,k2,k7⟩:=ae9 w1;have w1':wa ng' lg' s' e' g' mo' da' a' b' c'=true:=w1;dsimp only at m1 m2 m3 k2 k7;unfold mV at w2;simp only[zAa]at w2;obtain⟨o1,o2,o3,o4⟩:=w2;have x1:=qd v1' (qc.1 o1).1;have x2:=qd w1' (qc.1 o2).1;refine nF ag5 ai (bE 10288103811422702062414200620061432020622020624102881038114227020624142006200614320206220206244200620066300220056322006) (R:=λQ=>(λ(Y Z u1 u5:Bool)(P T U u0 u2 u3 u4 u6 u7 u8:Int)(A B F I N O:List UInt8)(V W uc:Prop)=>(λ(ud ue uf ug:Bool)(u9:Int)=>(λ(ua ub uh:Bool)(ui:Prop)=>(λ(C E:Bool)=>(λ(G H:Prop)=>(λ(uj:Prop->Prop->Prop)=>ud/\af .i64 P/\not (aa (bW Y u1 F P T A B u2 u3 u4) 0)=false/\π I.length 1000/\af .i64 U/\not (aa (bW Z u5 I U u0 N O u6 u7 u8) 0)=false/\wa Y u1 F P T A B u2 u3 u4/\wa Z u5 I U u0 N O u6 u7 u8/\(uh->(C->uj C (ua=false/\ui))/\(G->uj G (ua/\V)))/\(uh=false->(E->uj E (ub=false/\ui))/\(H->uj H (ub/\V)))) (λuk ul=>uk/\uk/\uk/\uk/\uk/\uk/\ul)) (C=false) (E=false)) (not ua) (not ub)) (aa u9 0) (aa (IntKind.wrap .i64 u9) 0) (af .i64 u9) ((ue->V)/\(ue=false->fL Y u1 F P T A B u2 u3 u4/\fL Z u5 I U u0 N O u6 u7 u8/\(uf->V)/\(uf=false->(all->all/\all/\ud/\π A.length 1000/\π B.length 1000/\all/\all/\(ug->V)/\(ug=false->uc))/\(W->W/\W/\W/\W/\uc))))) (π F.length 1000) (not (aa (dq A B) (dq N O))) (not (ab (aP Y F P A B) (aP Z I U N O))) (aa (bI (cK F T A B)) 0) (Int.mul (bI (eX F T A B)) (bI (eX I u0 N O)))) (Da.ng ⟨ng,lg,s,e,g,mo,da,a,b,c⟩) (Da.ng ⟨ng',lg',s',e',g',mo',da',a',b',c'⟩) (Da.lg ⟨ng,lg,s,e,g,mo,da,a,b,c⟩) (Da.lg ⟨ng',lg',s',e',g',mo',da',a',b',c'⟩) (Da.e ⟨ng,lg,s,e,g,mo,da,a,b,c⟩) (Da.g ⟨ng,lg,s,e,g,mo,da,a,b,c⟩) (Da.e ⟨ng',lg',s',e',g',mo',da',a',b',c'⟩) (Da.g ⟨ng',lg',s',e',g',mo',da',a',b',c'⟩) (Da.a ⟨ng,lg,s,e,g,mo,da,a,b,c⟩) (Da.b ⟨ng,lg,s,e,g,mo,da,a,b,c⟩) (Da.c ⟨ng,lg,s,e,g,mo,da,a,b,c⟩) (Da.a ⟨ng',lg',s',e',g',mo',da',a',b',c'⟩) (Da.b ⟨ng',lg',s',e',g',mo',da',a',b',c'⟩) (Da.c ⟨ng',lg',s',e',g',mo',da',a',b',c'⟩) (Da.mo ⟨ng,lg,s,e,g,mo,da,a,b,c⟩) (Da.da ⟨ng,lg,s,e,g,mo,da,a,b,c⟩) (Da.s ⟨ng,lg,s,e,g,mo,da,a,b,c⟩) (Da.s ⟨ng',lg',s',e',g',mo',da',a',b',c'⟩) (Da.mo ⟨ng',lg',s',e',g',mo',da',a',b',c'⟩) (Da.da ⟨ng',lg',s',e',g',mo',da',a',b',c'⟩) (Q (.a .i64 10)) (all=false) (Q (.a .i64 0))) (λ_=>by kernel_rfl) λQ' hQ=>?_;try dsimp only
     rw[h7,k7,o1,o2,show Int.mul (bI true) (bI true)=1 from rfl];rw[(qc.1 o1).1];simp only[l1,l2,l3,h2,m1,m2,m3,k2,v1',w1',x1,x2,o3,o4,show aa 0 0=true from rfl,show aa 1 0=false from rfl,show aa (bI true) 0=false from rfl,show af .i64 1=true from rfl,zAi,true_and,and_true,true_imp_iff,reduceCtorEq,false_imp_iff];grind
 grind
theorem afq:ak Tryz.prog cfg Gw:=ajQ (anF aW)
theorem ao5(h:nI k ea la L):cu Tryz.prog (cH cfg Gw) (Cw cfg [.a (dp L) false none]) (lb 59 0) 156 [1,7] (Dm L k ea la):=by
 have hw:=@ir L;intro vs o t Q hv hq J;unfold Dm at hv;split at hv
 . rename_i i z2 z1 k1 m K1 ea1 la1;cases hv;replace hq:=cO hq;obtain⟨⟨h1,h2,h3,h4,h5,h6,h7,-⟩,hq⟩:=hq;rw[aJ]at h1;rw[ao]at h4 h5;replace h6:=yl h6;replace h7:=yl h7;subst h1 h4 h5 h6 h7;simp only[aH,Tr.wp]at hq;have hn2:=h.n2;refine ia afq rfl rfl ai (ι:={i:Nat // i<=L.length}) (λx=>[.h 15 0,(ξ x.1)]) (λ_=>⟨3,[.a z2 true none,.a z1 true none,.a (fS k1 (.b 14 0 L.length K1) ea1 la1) true none],[]⟩) (λx=>L.length-x.1) 3 (λ_=>Nat.le_refl _) (λx J=>?_) (Nat.le_refl _) (λJ=>Wk.a0 ⟨⟨0,Nat.zero_le _⟩,J,rfl⟩) J;obtain⟨i,hi⟩:=x;dsimp only;refine jJ (bE 11200668812003035331002022812140203702062420245522702240331256302003152081214000302202062405203002488120030353310020228121402037020624202403020031023553303103022081214302302202062457324242270224022400200566277777770040) (R:=λQ=>(λ(uk ul:cD)(A G H U V uj:AV)(Y uh:Int)(ui:Nat)(B C u6:Prop)=>(λ(ur:cD)(un:AV)(N um:Bool)(up us:Int)(uq:List AV)(uo:Nat)=>(λ(ut:AV)(I u7 u8 uv:Bool)(uu:Nat)(W:Prop)=>(λ(uw:AV)(O u9:Bool)(ux:Nat)(P uy:Prop)=>(λ(uz:AV)(u0:List UInt8)(uA:Nat)(Z:Prop)=>(λ(uB:AV)(ua:Int)(uC:Nat)=>(λ(uD:AV)(u1:Int)(uE:Nat)=>(λ(uF:AV)(u2:List UInt8)(uG:Nat)=>(λ(uH:AV)(u3:List UInt8)(uI:Nat)=>(λ(uJ:AV)(uL:Bool)(ub:Int)(uK:Nat)=>(λ(uM:AV)(uc:Int)(uN:Nat)=>(λ(uO:AV)(ud:Int)(uP:Nat)=>(λ(uQ:AV)(T ue:Bool)(uR:Nat)=>(λ(uS:AV)(E:Bool)(uT:Nat)(uf:Prop)=>(λ(uU:AV)(uV:Nat)(F:Prop)=>(λ(uW:AV)(uX:Nat)=>(λ(uY:AV)(uZ:Nat)=>(λ(v0:AV)(v1:Nat)=>(λ(v2:AV)(v3:Nat)=>(λ(v4:AV)(v5:Nat)=>(λ(v6 v7:AV)=>(λ(u4 u5:Prop)=>(λ(ug:Prop)=>(λ(v8:Prop)=>(λ(v9:Prop->Prop)=>(um->aS i L.length/\Sn un/\Sn ut/\Iq uw/\eB .i64 uz/\eB .i64 uB/\Iq uD/\Iq uF/\eB .u8 uH/\eB .u8 uJ/\eB .u8 uM/\Sn uO/\Sn uQ/\Sn uS/\Iq uU/\eB .i64 uW/\eB .i64 uY/\Iq v0/\Iq v2/\eB .u8 v4/\eB .u8 v6/\eB .u8 v7/\aap (cond (aa k1 4) 4 3) (It.mk (Da.mk u7 u9 u0 ua u1 u2 u3 ub uc ud) T (Da.mk (KK uQ) (KK uS) (C9 uU) (dx uW) (dx uY) (C9 v0) (C9 v2) (dx v4) (dx v6) (dx v7)))/\(ea1->ea1/\ea1/\(B->v9 ((N->N/\(O->O/\uy/\O/\N/\O/\(E->E/\E/\ue/\E/\uf/\O/\P/\ug)/\(F->F/\F/\F/\T/\O/\P/\u4))/\(Z->Z/\Z/\Z/\Z/\I/\u4))/\(W->W/\u8/\W/\v8)))/\(C->C/\C/\C/\C/\C/\C/\(N->N/\uy/\N/\(E->E/\E/\ue/\E/\uf/\ug)/\(F->F/\F/\F/\T/\u4))/\(W->W/\u8/\W/\u5)))/\(u6->u6/\u6/\(B->v9 v8)/\(C->C/\C/\C/\C/\C/\C/\u5)))/\(um=false->Q (.b 0,uq,⟨3,[uk,ul,ur],[]⟩))) (λva=>B/\B/\B/\B/\uv/\B/\B/\va)) ((I->I/\I/\(E->E/\E/\ue/\E/\I/\uf/\I/\ug)/\(F->F/\F/\F/\I/\T/\I/\u4))/\(P->P/\P/\P/\P/\u5))) ((uL->u4)/\(uL=false->u5))) (Q (.c,uq,⟨4,[.a [u7,u9,u0,ua,u1,u2,u3,.a .u8 ub,.a .u8 uc,.a .u8 ud,T,(KK uQ),(KK uS),(C9 uU),(dx uW),(dx uY),(C9 v0),(C9 v2),.a .u8 (dx v4),.a .u8 (dx v6),.a .u8 (dx v7)] true none,uk,ul,ur],[]⟩)) (af .i64 us/\Q (.a,[uj,us],⟨4,[.a [u7,u9,u0,ua,u1,u2,u3,.a .u8 ub,.a .u8 uc,.a .u8 ud,T,(KK uQ),(KK uS),(C9 uU),(dx uW),(dx uY),(C9 v0),(C9 v2),.a .u8 (dx v4),.a .u8 (dx v6),.a .u8 (dx v7)] true none,uk,ul,ur],[]⟩))) (ο (dp L) v5 A) (ο (dp L) (ν v5 1) A)) (ο (dp L) v3 A) (ν v3 1)) (ο (dp L) v1 A) (ν v1 1)) (ο (dp L) uZ A) (ν uZ 1)) (ο (dp L) uX A) (ν uX 1)) (ο (dp L) uV A) (ν uV 1)) (ο (dp L) uT A) (ν uT 1) (E=false)) (ο (dp L) uR A) (not T) (ν uR 1) (T=false)) (ο (dp L) uP A) (KK uO) (wa u7 u9 u0 ua u1 u2 u3 ub uc ud) (ν uP 1)) (ο (dp L) uN A) (dx uM) (ν uN 1)) (ο (dp L) uK A) (dx uJ) (ν uK 1)) (ο (dp L) uI A) (aa (bI (eX u0 u1 u2 u3)) 0) (dx uH) (ν uI 1)) (ο (dp L) uG A) (C9 uF) (ν uG 1)) (ο (dp L) uE A) (C9 uD) (ν uE 1)) (ο (dp L) uC A) (dx uB) (ν uC 1)) (ο (dp L) uA A) (dx uz) (ν uA 1)) (ο (dp L) ux A) (C9 uw) (ν ux 1) (O=false)) (ο (dp L) uu A) (not I) (KK ut) (ν uu 1) (I=false) (u8=false)) (ο (dp L) uo A) (aa Y up) (KK un) (not N) (af .i64 up) (ν uo 1) (N=false)) (.a [.a .u8 k1,U,U,H,V,V,H,H,G,G,G,G,U,U,H,V,V,H,H,G,G,G,G,U,U,H,V,V,H,H,G,G,G,.b 14 0 L.length K1,ea1,la1] true none) (ο (dp L) ui A) (aa Y 0) (not (ab uh Y)) (σ uh 1) (Int.add Y 1) [uj,Y] (ν ui 1)) (.a z2 true none) (.a z1 true none) (.c []) (.a .u8 0) (.f []) false (.a .i64 0) (.h 15 0) (ξ i) (ξ L.length) (ν 0 (υ i 21)) la1 (la1=false) (ea1=false)) (λ_=>by kernel_rfl) λQ' hQ=>?_;try dsimp only
   by_cases hlt:i<L.length
   . have go:∀a:cD,Q' (AX.a,([.h 15 0,(Int.add (ξ i) 1)],⟨4,[a,.a z2 true none,.a z1 true none,.a (fS k1 (.b 14 0 L.length K1) ea1 la1) true none],[]⟩)):=λa=>
      hQ _ ⟨⟨i+1,hlt⟩,by dsimp only;omega,ad6 (top:=[a]) (B:=[.a z2 true none,.a z1 true none,.a (fS k1 (.b 14 0 L.length K1) ea1 la1) true none]) hw rfl rfl (λx hx=>by
       simp only[List.mem_cons,List.not_mem_nil,or_false]at hx;rcases hx with rfl|rfl|rfl
       . exact aO (gj.1 h2)
       . exact aO (gj.1 h3)
       . exact⟨rfl,λi hi=>by simp[fS,HL,bw,aC]at hi;subst hi;show 14<14+1+3;omega⟩) rfl⟩
     clear hQ hq;have itk:=h.it i hlt;have he:ea1->i=0->aaD (L.getD i fP)=true:=λa b=>by subst b;exact h.he a
     have hl:la1->i=L.length-1->aaD (L.getD i fP)=true:=λa b=>by subst b;exact h.hl a
     obtain⟨f0,f1,f2,f3,f4,f5,f6,f7,f8,f9,f10,f11,f12,f13,f14,f15,f16,f17,f18,f19,f20⟩:=ac3 hlt;generalize L.getD i fP=x at *;have hva:=aeU itk;unfold dF at hva;have hk4:(bif aa k1 4 then(4:Int)else 3)=k1:=by
      have:=h.hk;rw[Bool.or_eq_true,ao,ao]at this;rcases this with rfl|rfl<;>rfl
     unfold fS at go;have j1:ab (ξ L.length) (ξ i)=false:=by rw[bF];simp only[Int.ofNat_eq_natCast];omega
     have j2:aS i L.length=true:=aU.2 hlt;have j3:af .i64 (Int.add (ξ i) 1)=true:=by rw[aE];simp only[eH,eE];show _<=(i:Int)+1/\(i:Int)+1<=_;omega
     have j4:af .i64 (σ (ξ L.length) 1)=true:=by rw[aE];simp only[eH,eE];show _<=(L.length:Int)-1/\(L.length:Int)-1<=_;omega
     have kk:∀(a:IntKind) (n:Int),eB a (.a a n)=true:=λa n=>by cases a<;>rfl
     have ib:∀b:Bool,Sn b=true:=λ_=>rfl;have is:∀s:List UInt8,Iq s=true:=λ_=>rfl;have bo:∀b:Bool,KK b=b:=λ_=>rfl;have st:∀s:List UInt8,C9 s=s:=λ_=>rfl;have io:∀(a:IntKind) (n:Int),dx (.a a n)=n:=λ_ _=>rfl;have itk':aap k1 ⟨⟨x.f.ng,x.f.lg,x.f.s,x.f.e,x.f.g,x.f.mo,x.f.da,x.f.a,x.f.b,x.f.c⟩,x.r,⟨x.t.ng,x.t.lg,x.t.s,x.t.e,x.t.g,x.t.mo,x.t.da,x.t.a,x.t.b,x.t.c⟩⟩=true:=itk;simp only[f0,f1,f2,f3,f4,f5,f6,f7,f8,f9,f10,f11,f12,f13,f14,f15,f16,f17,f18,f19,f20,kk,ib,is,bo,st,io,j1,j2,j3,j4,hk4,itk',hva,zAi,true_and,and_true,true_imp_iff,reduceCtorEq,false_imp_iff];clear f0 f1 f2 f3 f4 f5 f6 f7 f8 f9 f10 f11 f12 f13 f14 f15 f16 f17 f18 f19 f20 itk itk';have e1:ea1->aa (ξ i) 0->x.r=false/\aa (bI (eX x.f.s x.f.g x.f.mo x.f.da)) 0=false:=λa b=>by
      have:=he a (by rw[ao]at b;exact Int.ofNat.inj b);unfold aaD kZ at this;rw[zAa,Bool.not_eq_true']at this;rw[this.2];exact⟨this.1,rfl⟩
     have e2:la1->aa (ξ i) (σ (ξ L.length) 1)->x.r=false/\aa (bI (eX x.f.s x.f.g x.f.mo x.f.da)) 0=false:=λa b=>by
      have:=hl a (by rw[ao]at b;have b:(i:Int)=(L.length:Int)-1:=b;omega);unfold aaD kZ at this;rw[zAa,Bool.not_eq_true']at this;rw[this.2];exact⟨this.1,rfl⟩
     have e3:ea1->la1->aa (ξ i) 0->aa (ξ i) (σ (ξ L.length) 1)->False:=λa b c d=>by
      have:=h.h1 a b;rw[ao]at c d;have c:(i:Int)=0:=c;have d:(i:Int)=(L.length:Int)-1:=d;omega
     clear he hl h hw hva hn2;generalize aa (bI (eX x.f.s x.f.g x.f.mo x.f.da)) 0=pl at *;generalize x.r=xr at *;generalize aa (ξ i) 0=i0 at *;generalize aa (ξ i) (σ (ξ L.length) 1)=il at *;cases ea1<;>cases la1<;>cases i0<;>cases il<;>simp only[true_imp_iff,reduceCtorEq,false_imp_iff]at e1 e2 e3<;>(try obtain⟨rfl,rfl⟩:=e1)<;>(try obtain⟨rfl,rfl⟩:=e2)<;>simp only[go,zAi,true_and,and_true,true_imp_iff,reduceCtorEq,false_imp_iff,implies_true,and_self]
   . obtain rfl:i=L.length:=by omega
     have j1:ab (ξ L.length) (ξ L.length)=true:=by rw[aq];exact Int.le_refl _
     simp only[j1,Bool.not_true,reduceCtorEq,false_imp_iff,true_and,true_imp_iff];exact hQ _ ⟨_,_,VW.a0,hq⟩
 . cases hv
theorem Qp(h:nI k ea la L):bu Tryz.prog cfg 59 [.g (fS k (.b 14 0 L.length K) ea la)] [.a (dp L) false none] (.c [.a .i64 0,.a .i64 0]) []:=by
 refine P0 afq (L:=Mp L k ea la) ir akf (by simp) (dv aiK λi hi e he st Q hw=>?_) (jJ (bE 17000230303030006620025566220062006220522062062200227022023317000230303030003030033003385200255662200620062205220620622032270220320240) (R:=λQ=>(λ(I:AV)(A B F:Bool)(H:Int)(C:Prop)=>(λ(E:Bool)(N:Prop)=>(λ(G:Prop)=>(λ(O:Prop->Prop)=>(E->E/\E/\F=false/\O (C/\B/\O (A/\A/\A/\A/\C/\C/\C/\C/\C/\C/\C/\C/\C/\N)))/\(G->G/\G/\F/\O (B/\O (A/\A/\A/\A/\N)))) (λu0=>B/\B/\B/\B/\A/\A/\A/\u0)) (E=false)) (not F) (aa k 1=false/\aa k 2=false/\aa H 0=false/\not (ab H 256)=false/\ς L.length L.length/\aa k k/\bQ ea ea/\bQ la la/\(∀J1:Nat->Value,Q (.c [I,I])))) (.a .i64 0) (not (aa k 2)) (not (aa k 1)) (aa k 3) (ξ L.length) (not (aa k 4)=false)) (λ_=>by kernel_rfl) λQ' hQ=>?_) (by rfl)
 . have hi:i=0:=by grind
   subst hi;cases he;exact bR (cC.a0 afq) (by decide) rfl (ao5 h) hw
 . have hQ:=hQ _ rfl;have hk:=h.hk;have n1:=h.n1;have n2:=h.n2;have l2:aa (ξ L.length) 0=false:=by grind [aw]
   have l3:ab (ξ L.length) 256=true:=by grind [aq]
   have l4:∀b:Bool,bQ b b=true:=λb=>by cases b<;>rfl
   have l5:ς L.length L.length=true:=aJ.mpr rfl;try dsimp only
   rw[Bool.or_eq_true,ao,ao]at hk;rcases hk with rfl|rfl
   . simp only[l2,l3,l4,l5,show aa 3 3=true from rfl,show aa 3 1=false from rfl,show aa 3 2=false from rfl,show aa 3 4=false from rfl,zAi,true_and,and_true,true_imp_iff,reduceCtorEq,false_imp_iff];grind
   . simp only[l2,l3,l4,l5,show aa 4 3=false from rfl,show aa 4 1=false from rfl,show aa 4 2=false from rfl,show aa 4 4=true from rfl,zAi,true_and,and_true,true_imp_iff,reduceCtorEq,false_imp_iff];grind
theorem ak3:ak Tryz.prog cfg NN:=by
 refine bm aW (fW dI.lv Az λargs ws t r he hr=>?_);unfold Lr at he;split at he
 . cases he;replace hr:=aF hr;obtain⟨⟨h1,-⟩,hr⟩:=hr;obtain⟨L,rfl,rfl,hs⟩:=rd.1 h1;cases hr;exact⟨Qp hs,λx hx=>by grind⟩
 grind
theorem Qo(h:nI k ea la L):bu Tryz.prog cfg 14 [.g (fS k (.b 14 0 L.length K) ea la)] [.a (dp L) false none] (.a .i64 0) []:=by
 refine ns ak3 ir ai (bE 1226666) (R:=λQ=>(λ(A:Nat)=>(λ(B:List AV)=>and true (and (π (ν 0 A) (dp L).length) (bc 14 B))/\abk B L.length k ea la/\Q (.a .i64 0)) (b_ (dp L) 0 A)) (υ L.length 21)) (λ_=>by rfl) λQ' hQ=>?_;grind [rd,qi,lU,al,lh]
theorem anl(hS:ak Tryz.prog cfg S):ak Tryz.prog cfg (eQ S 14 (fl 14 [21] sI)):=by
 refine bm hS (fW dI.lv Az λargs ws t r he hr=>?_);unfold sI at he;split at he
 . cases he;replace hr:=aF hr;obtain⟨⟨h1,-⟩,hr⟩:=hr;obtain⟨L,rfl,rfl,hs⟩:=rd.1 h1;cases hr;exact⟨Qo hs,λx hx=>by grind⟩
 grind
def wG:dP:=λ
 | [.g [.e ng,.e lg,.f s,.a .i64 e,.a .i64 g,.f mo,.f da,.a .u8 a,.a .u8 b,.a .u8 c]]=>some (aH [fL ng lg s e g mo da a b c] (.a0 (vR (aP ng s e mo da) (bq ng s e mo da))))
 | _=>none
def CE:dP:=λ
 | [.g [.e ng,.e lg,.f s,.a .i64 e,.a .i64 g,.f mo,.f da,.a .u8 a,.a .u8 b,.a .u8 c]]=>some (aH [fL ng lg s e g mo da a b c,aa (aR mo) 0] (.a0 (dq mo da)))
 | _=>none
def Gv:aQ:=d5 (d5 (d5 (d5 gZ 34 wG) 86 BN) 87 s9) 47 YD
noncomputable def xg(w:List AV)(n:Nat):Bool:=@decide (dp (acw w)=w/\(acw w).length=n) (Classical.propDecidable _)
noncomputable def FC:aav:=λ
 | [.g (.a .u8 k::.e false::.e false::.f []::.a .i64 0::.a .i64 0::.f []::.f []::.a .u8 0::.a .u8 0::.a .u8 0::.a .u8 0::.e false::.e false::.f []::.a .i64 0::.a .i64 0::.f []::.f []::.a .u8 0::.a .u8 0::.a .u8 0::.a .u8 0::.e false::.e false::.f []::.a .i64 0::.a .i64 0::.f []::.f []::.a .u8 0::.a .u8 0::.a .u8 0::.b 14 0 n K::.e ea::.e la::[]),.a .i64 i],[.a w false none]=>some (aH [xg w n,aS i.toNat n,ab 0 i,π n 200,nD ((acw w).getD i.toNat fP)] (.a0 (vS (W2 ea la (acw w) i.toNat),[])))
 | _,_=>none
def NI:aQ:=d5 gZ 34 wG
theorem aku(ng lg:Bool)(s:List UInt8)(e g:Int)(mo da:List UInt8)(a b c:Int){Q:EQ->Prop}:gG Q (bT Gv jE [] 33 [.g [ng,lg,s,e,g,mo,da,.a .u8 a,.a .u8 b,.a .u8 c]]) (bE 1020061000647006102020700640)=((λ(A B C E F G H I N O P T Z:AV)(U V u0:Bool)(W Y:Int)=>(λ(u2:cD)(u1 u3 u4:List AV)=>(U->V/\aV ng lg s e g/\ab 1 g/\kY W 0 0/\kY Y 0 0/\Q (.g u1,⟨2,[.a u1 true none,u2],[]⟩))/\(U=false->V/\π mo.length 1000/\π da.length 1000/\(u0->Q (.g u3,⟨2,[.a u3 true none,.a [G,H,I,N,O,P,T,A,A,A] true none],[]⟩))/\(u0=false->fL ng lg s e g mo da a b c/\Q (.g u4,⟨3,[.a [C,(aP ng s e mo da),C,(bq ng s e mo da)] true none,.a u4 true none,u2],[]⟩)))) (.a [G,H,I,N,O,P,T,.a .u8 a,.a .u8 b,.a .u8 c] true none) [.a .u8 3,.d,F,F,E,B,B,E,E,A,A,A,Z,C,(iO W 0 0),C,(iD Y 0 0)] [.a .u8 2,.d,G,H,I,N,O,P,T,A,A,A,A,C,B,C,B] [Z,.b 16 0 1 (fg.b 1),F,F,E,B,B,E,E,A,A,A,A,C,B,C,B]) (.a .u8 0) (.a .i64 0) (.a .i8 0) (.f []) false ng lg s e g mo da (.a .u8 1) (not (ab g 0)) (π s.length 1000) (aa (cond (eA ((s++mo)++da)) 1 0) 1) (jI ng s e g) (jL ng s e g)):=by rfl
theorem afG{f:Nat}{e:dP}{args:List AV}{t:Tr AV}{v:AV}(h:ak Tryz.prog cfg (d5 gZ f e))(he:e args=some t)(hv:t.b0=some v)(hc:nC (nX 14 (Cw cfg []) ⟨0,[],[]⟩ 20) args ⟨[],[],true⟩=some (args,⟨[],[],true⟩))(hm:kG 14 [] 20 v=some v):bu Tryz.prog cfg f args [] v []:=by
 have rb:∀{R S:Type} {t:Tr R} {K:R->Tr S} {a:R} {s:S},t.b0=some a->(K a).b0=some s->(t.h0 K).b0=some s:=λ{R S t K a s} h1 h2=>by
  induction t with
  | a0 b=>cases h1;exact h2
  | c0=>cases h1
  | d0 b k ih=>exact ih b h1
  | e0 i k ih=>exact ih i h1
  | f0 k=>cases h1
 have hg:tD Tryz.prog cfg f (fl 14 [] (adc e)):=h f _ (by simp[d5,eQ]);intro D m w hi hok;refine((hg (Cw cfg []) args ⟨0,[],[]⟩ (lu true ((t.h0 λv=>.a0 (v,[])).h0 (TT 14 14 (Cw cfg []) ⟨0,[],[]⟩))) (v,⟨0,[],[]⟩) ?_ ?_).1 D m w hi hok).a0 λV w' ⟨D',m',h1,h2,h3,_⟩=>⟨D',m',h1,h2,h3⟩
 . grind [fl,adc,ob]
 . refine rb (rb hv rfl) ?_;show(aT (kG 14 [] 20 v) _).b0=_;rw[hm];rfl
theorem ahh(hS:ak Tryz.prog cfg S):ak Tryz.prog cfg (d5 S 34 wG):=au hS λargs t v he hv=>by
 unfold wG at he;split at he
 . rename_i ng lg s e g mo da a b c;cases he;obtain⟨⟨h1,-⟩,hv⟩:=aF hv;cases hv;obtain⟨h6,i1,i2,i3,i4,h0,hx,rfl⟩:=ye.1 h1;obtain⟨p1,-,p3,p4,p5,-,-⟩:=aaj h0 hx h6;refine afG (amt aW) rfl ?_ rfl rfl;show(aH [agm s e,H4 mo,H4 da,kY (dY ng s e) (XR mo) (XR da)] _).b0=_;rw[p1,p3,p4,p5];rfl
 grind
theorem anf(hS:ak Tryz.prog cfg S):ak Tryz.prog cfg (d5 S 36 CE):=au hS λargs t v he hv=>by
 unfold CE at he;split at he
 . rename_i ng lg s e g mo da a b c;cases he;obtain⟨⟨h1,h2,-⟩,hv⟩:=aF hv;cases hv;rw[ao]at h2;obtain⟨h6,i1,i2,i3,i4,h0,hx,rfl⟩:=ye.1 h1;obtain⟨lm,ld,hds⟩:=aaX h0;obtain⟨-,-,p3,-⟩:=aaj h0 hx h6;refine nF aW ai (bE 1038114702024200140140) (R:=λQ=>(λ(C E F:Bool)(G:Int)(H:Prop)=>(λ(A I:Bool)=>(λ(B:Prop)=>(C->Q (.a .i64 3))/\(C=false->(E->Q (.a .i64 1))/\(E=false->F/\(A->A/\A/\F/\A/\A/\(I->Q (.a .i64 0))/\(I=false->H))/\(B->B/\B/\B/\B/\H)))) (A=false)) (ab 50 G) (ab G 57)) (not (ae da [])) (ae mo []) (aS 0 mo.length) (ξ (UInt8.toNat (ο mo 0 (UInt8.ofNat 0)))) (Q (.a .i64 2))) (λ_=>by rfl) λQ' hQ=>?_;try dsimp only
   cases hd:ae da []<;>cases hm:ae mo []
   . grind [dq]
   . grind
   . have hs:=aaU h0 hx hm h2;rcases x5 p3 with rfl|⟨x,y,rfl,hxy⟩
     . cases hm
     . have:ab 50 (ξ x.toNat)=false:=by
        rw[bF];change 1<=ko x y/\ko x y<=12 at hs;grind [ko,dB]
       simp_all [dq,aS]
   grind [dq]
 grind
theorem afg:ec eS 33=some (dH 33,aL 33):=by rfl
theorem afb:ak Tryz.prog cfg Gv:=Ue (UJ (amn (ahh aW)))
theorem ajW(hS:ak Tryz.prog cfg S):ak Tryz.prog cfg (eQ S 33 (fl 14 [] rE)):=by
 refine bm hS (fW dI.lv Az λargs ws t r he hr=>?_);unfold rE at he;split at he
 . rename_i ng lg s e g mo da a b c;cases he;replace hr:=aF hr;obtain⟨⟨h1,-⟩,hr⟩:=hr;obtain⟨n1,n2,n3⟩:=aej (x:=⟨ng,lg,s,e,g,mo,da,a,b,c⟩) h1;obtain⟨_,_,_,_,_,_,h0⟩:=yn.1 h1;have hY:=(dC (Cc h0) dE).1;have hg0:=agN h0;dsimp only at n1 n2 n3;change (Tr.b0 (bif ab 1 g then _ else _))=_ at hr;cases hg:ab 1 g with
   | true=>
     rw[hg]at hr;cases hr;obtain⟨s1,s2,-⟩:=ahZ hY (aq.mp hg);have k1:kY (jI ng s e g) 0 0=true:=by unfold kY;rw[bX.2 s1];rfl
     have k2:kY (jL ng s e g) 0 0=true:=by unfold kY;rw[bX.2 s2];rfl
     have j0:ab g 0=false:=by grind [aq]
     refine⟨abj afb (L:=jE) afg (by simp) ai (λ_=>aku ng lg s e g mo da a b c) λQ' hQ=>?_,λx hx=>by grind⟩;dsimp only;simp only[j0,n1,hY,hg,k1,k2,Bool.not_false,true_imp_iff,reduceCtorEq,false_imp_iff,and_true,true_and];exact hQ _ (dL.a0 rfl rfl rfl rfl)
   | false=>
     rw[hg]at hr;have j0:ab g 0=true:=by grind [bF]
     change (Tr.b0 (bif cK s g mo da then _ else _))=_ at hr;cases hn:cK s g mo da with
     | true=>
       rw[hn]at hr;cases hr;have hE:=qd h1 hn;have hl:cR 14 (.a (aab 0 (aP ng s e mo da) 0 (bq ng s e mo da)) true none):=⟨rfl,λi hi=>by grind [aab,HL,bw,aC]⟩;obtain⟨_,_,_,_,_,_,hx,rfl⟩:=ye.1 hE;refine⟨abj afb (L:=jE) afg (by simp) ai (λ_=>aku ng lg s e 0 mo da a b c) λQ' hQ=>?_,λx hx=>by rw[List.mem_singleton.1 hx];exact hl⟩;dsimp only;simp only[j0,n1,n2,n3,hE,hx,cond_false,Bool.not_true,Bool.not_false,true_imp_iff,reduceCtorEq,false_imp_iff,and_true,true_and,show aa 0 0=true from rfl,show aa 0 1=false from rfl];exact hQ _ (dL.last (k:=2) rfl rfl hl rfl)
     | false=>
       rw[hn]at hr;cases hr;have hz:g=0:=by grind [aq]
       subst hz;unfold cK at hn;rw[show aa 0 0=true from rfl,τ,Bool.not_eq_false']at hn;refine⟨abj afb (L:=jE) afg (by simp) ai (λ_=>aku ng lg s e 0 mo da a b c) λQ' hQ=>?_,λx hx=>by grind⟩;dsimp only;simp only[j0,n1,n2,n3,hn,cond_true,Bool.not_true,Bool.not_false,true_imp_iff,reduceCtorEq,false_imp_iff,and_true,true_and,show aa 0 0=true from rfl,show aa 1 1=true from rfl];exact hQ _ (dL.a0 rfl rfl rfl rfl)
 grind
theorem afH{w:List AV}{n:Nat}:xg w n=true↔dp (acw w)=w/\(acw w).length=n:=@decide_eq_true_iff _ (Classical.propDecidable _)
theorem akF:ak Tryz.prog cfg NI:=ahh aW
theorem QM{j:Nat}(hj:j<L.length)(hn:L.length<=200)(h5:nD (L.getD j fP)):bu Tryz.prog cfg 35 [.g (fS k (.b 14 0 L.length K) ea la),(ξ j)] [.a (dp L) false none] (vS (W2 ea la L j)) []:=by
 refine ns akF ir ai (bE 10058810510054227022400331005881051005422702240100588105100542270224004224010058810510054227022400331005881051005422702240100588105100542270224004224002006400200062777777700) (R:=λQ=>(λ(C E G N u3:AV)(u1 u2:Int)(u0:Nat)(A B F:Prop)=>(λ(u4:AV)(H O P:Bool)(u5:Nat)=>(λ(u6:AV)(T:Bool)(u7:Nat)(I u8 u9:Prop)=>(λ(ua:AV)(ub:Nat)=>(λ(uc:AV)(U:List UInt8)(ud:Nat)=>(λ(ue:AV)(V:Int)(uf:Nat)=>(λ(ug:AV)(uh:Nat)=>(λ(ui:AV)(W:List UInt8)(uj:Nat)=>(λ(uk:AV)(Y:List UInt8)(ul:Nat)=>(λ(Z um uo:AV)(un:Nat)=>(λ(up:AV)(uq:Nat)(ur us ut:Prop)=>(λ(uu:AV)(uv:Nat)(uw:Prop)=>(λ(ux:AV)(uy:Nat)=>(λ(uz:AV)(uA:Nat)=>(λ(uB:AV)(uC:Nat)=>(λ(uD:AV)(uE:Nat)=>(λ(uF:AV)(uG:Nat)=>(λ(uH:AV)(uI:Nat)=>(λ(uJ:AV)(uK:Nat)=>(λ(uL uN:AV)(uM:Nat)=>(λ(uO uP:AV)(uQ uR:Prop)=>(λ(uS:Prop)=>(λ(uT:Prop->Prop)=>aS j L.length/\Sn u4/\Sn u6/\Iq ua/\eB .i64 uc/\eB .i64 ue/\Iq ug/\Iq ui/\eB .u8 uk/\eB .u8 um/\eB .u8 up/\Sn uu/\Sn ux/\Sn uz/\Iq uB/\eB .i64 uD/\eB .i64 uF/\Iq uH/\Iq uJ/\eB .u8 uL/\eB .u8 uO/\eB .u8 uP/\fL T (KK u6) U V (dx ue) W Y (dx uk) (dx um) (dx up)/\(KK uu->fL (KK ux) (KK uz) (C9 uB) (dx uD) (dx uF) (C9 uH) (C9 uJ) (dx uL) (dx uO) (dx uP)/\(ea->ea/\ea/\(O->(A->uT (I->uQ))/\(B->B/\B/\B/\B/\B/\B/\uQ))/\(u9->uS))/\(F->F/\F/\uS))/\(KK uu=false->(ea->ea/\ea/\(O->(A->uT (I->us))/\(B->B/\B/\B/\B/\B/\B/\us))/\(u9->uw))/\(F->F/\F/\uw))) (λuU=>A/\A/\A/\A/\H/\A/\A/\u8/\uU)) ((A->A/\A/\A/\A/\H/\A/\A/\ur/\(I->uR))/\(B->B/\B/\B/\B/\B/\B/\uR))) (ο (dp L) uM C) (ο (dp L) (ν uM 1) C) (Q (.g [N,G,E,uN])) (Q (.g [E,Z,E,uN]))) (ο (dp L) uK C) (bq (KK ux) (C9 uB) (dx uD) (C9 uH) (C9 uJ)) (ν uK 1)) (ο (dp L) uI C) (ν uI 1)) (ο (dp L) uG C) (ν uG 1)) (ο (dp L) uE C) (ν uE 1)) (ο (dp L) uC C) (ν uC 1)) (ο (dp L) uA C) (ν uA 1)) (ο (dp L) uy C) (ν uy 1)) (ο (dp L) uv C) (ν uv 1)) (ο (dp L) uq C) (ν uq 1) ((A->A/\A/\A/\A/\H/\A/\A/\ur/\(I->ut))/\(B->B/\B/\B/\B/\B/\B/\ut))) (ο (dp L) un C) (ν un 1) (P->Q (.g [E,Z,u3,G])) (Q (.g [N,G,E,uo])) (Q (.g [E,Z,E,uo]))) (aP T U V W Y) (ο (dp L) ul C) (bq T U V W Y) (ν ul 1)) (ο (dp L) uj C) (C9 ui) (ν uj 1)) (ο (dp L) uh C) (C9 ug) (ν uh 1)) (ο (dp L) uf C) (ν uf 1)) (ο (dp L) ud C) (dx uc) (ν ud 1)) (ο (dp L) ub C) (C9 ua) (ν ub 1)) (ο (dp L) u7 C) (ν u7 1)) (ο (dp L) u5 C) (KK u4) (ν u5 1) (P=false) (P->Q (.g [N,G,u3,G])) (O=false)) (ο (dp L) u0 C) (af .i64 u2) (aa u1 0) (aa u1 u2) (ν u0 1)) (.c []) (.a .i8 0) (.a .i64 0) (.a .i8 (Neg.neg 1)) (.a .i8 1) (ξ j) (σ (ξ L.length) 1) (ν 0 (υ j 21)) la (la=false) (ea=false)) (λ_=>by kernel_rfl) (hi:=(by rfl)) λQ' hQ=>?_;have kk:∀(a:IntKind) (n:Int),eB a (.a a n)=true:=λa n=>by cases a<;>rfl
 have ib:∀b:Bool,Sn b=true:=λ_=>rfl;have is:∀s:List UInt8,Iq s=true:=λ_=>rfl;have bo:∀b:Bool,KK b=b:=λ_=>rfl;have st:∀s:List UInt8,C9 s=s:=λ_=>rfl;have io:∀(a:IntKind) (n:Int),dx (.a a n)=n:=λ_ _=>rfl;have j2:=aU.2 hj;have j4:af .i64 (σ (ξ L.length) 1)=true:=by grind [aE,eH,eE]
 have e0:ς j 0=aa (ξ j) 0:=by rfl
 have e1:ς (j+1) L.length=aa (ξ j) (σ (ξ L.length) 1):=by
  grind [aJ,ao]
 obtain⟨f0,f1,f2,f3,f4,f5,f6,f7,f8,f9,f10,f11,f12,f13,f14,f15,f16,f17,f18,f19,f20⟩:=ac3 hj;unfold vS W2 kW oB mw at hQ;rw[e0,e1]at hQ;unfold nD gN at h5;dsimp only;generalize L.getD j fP=x at *;simp only[f0,f1,f2,f3,f4,f5,f6,f7,f8,f9,f10,f11,f12,f13,f14,f15,f16,f17,f18,f19,f20,kk,ib,is,bo,st,io,j2,j4,true_and,and_true,true_imp_iff,reduceCtorEq,false_imp_iff];clear f0 f1 f2 f3 f4 f5 f6 f7 f8 f9 f10 f11 f12 f13 f14 f15 f16 f17 f18 f19 f20 kk ib is bo st io e0 e1;generalize aa (ξ j) 0=i0 at *;generalize aa (ξ j) (σ (ξ L.length) 1)=il at *;rw[zAa]at h5;obtain⟨h5,h6⟩:=h5;rw[h5];generalize fL x.t.ng x.t.lg x.t.s x.t.e x.t.g x.t.mo x.t.da x.t.a x.t.b x.t.c=ex at *;generalize x.r=xr at *;cases ea<;>cases la<;>cases i0<;>cases il<;>cases xr<;>simp at hQ h6 ⊢<;>simp_all
theorem anQ(hS:ak Tryz.prog cfg S):ak Tryz.prog cfg (eQ S 35 (fl 14 [21] FC)):=by
 refine bm hS (fW dI.lv Az λargs ws t r he hr=>?_);unfold FC at he;split at he
 . rename_i k n K ea la i w;cases he;replace hr:=aF hr;obtain⟨⟨h1,h2,h3,h4,h5,-⟩,hr⟩:=hr;cases hr;obtain⟨f1,rfl⟩:=afH.1 h1;obtain⟨j,rfl⟩:∃j:Nat,i=ξ j:=⟨i.toNat,by grind [aq]⟩;refine⟨?_,λx hx=>by grind⟩;have:=QM (k:=k) (ea:=ea) (la:=la) (K:=K) (aU.1 h2) (by simp_all) h5;rw[f1]at this;exact this
 grind
end Go.Ev
set_option linter.all false
set_option maxRecDepth 100000
set_option maxHeartbeats 4000000
section
namespace Go.Ev
open Go Go.Proofs
variable{L:List It}{ea la:Bool}{x y:Da}
noncomputable def vO:aQ:=eQ (eQ (d5 gZ 36 CE) 33 (fl 14 [] rE)) 35 (fl 14 [21] FC)
theorem aaL:∀{L:List It},acw (dp L)=L
 | []=>rfl
 | x::xs=>by simp only[dp,acw];rw[aaL]
theorem ahB:xg (dp L) L.length=true:=afH.2 ⟨by rw[aaL],by rw[aaL]⟩
theorem aea:ak Tryz.prog cfg vO:=anQ (ajW (anf aW))
theorem alC{mo da:List UInt8}:af .u8 (dq mo da)=true:=by
 unfold dq;cases ae mo []<;>cases ae da []<;>rfl
theorem ahp:(bz (aL 8)).map (·.1)=[0]:=by rfl
noncomputable def wX(w:List AV)(n i:Nat):List Bool:=[true&&(π (0+n*21) w.length&&bc 14 (b_ w 0 (n*21))),xg (b_ w 0 (n*21)) n,aS i n,π n 200,nD ((acw (b_ w 0 (n*21))).getD i fP)]
theorem agZ{i:Nat}(h:i<L.length)(hn:L.length<=200)(he:nD (L.getD i fP)):Tk (wX (dp L) L.length i):=by
 unfold wX;rw[qi,lU,ahB,aaL];exact⟨by rw[Bool.true_and,τ,al,lh];omega,rfl,aU.2 h,al.mpr hn,he,trivial⟩
theorem rL(w:List AV)(n i:Nat)(K1:fg)(J:Nat->Value)(ea la:Bool){Q:VQ->Prop}:∀(ac:Ac),∃D,gG Q (rT vO jE [.a w false none] 8 0 139 [1,5,6,7] [.h 15 0,.d,(w6 4 1 [ie 4 n K1 ea la] ac).1,iV i] J (w6 4 1 [ie 4 n K1 ea la] ac).2) D=ba n i (aS i n/\nE (tg (wF w i)) (nE (wX w n i) (nk 4 ac (nR i (Q (.a,[.h 15 0,.d,(ij 4 (rC (W2 ea la (acw (b_ w 0 (n*21))) i)) [.a (dp [jQ (wF w i)]) true none] (w6 4 1 [ie 4 n K1 ea la] ac)).1,iX i],(ij 4 (rC (W2 ea la (acw (b_ w 0 (n*21))) i)) [.a (dp [jQ (wF w i)]) true none] (w6 4 1 [ie 4 n K1 ea la] ac)).2)))))) (Q (.b 0,[.h 15 0,.d,(w6 4 1 [ie 4 n K1 ea la] ac).1,iV i],(w6 4 1 [ie 4 n K1 ea la] ac).2))
 | none=>⟨bE 1120522070006666277777770040,by kernel_rfl⟩
 | some (m,cs)=>⟨bE 112252022070006666277777770040,by kernel_rfl⟩
def DV(L:List It)(ea la:Bool):dW:=λvs o=>match vs with
 | [.h 15 0,.d,.d,.a .i64 i]=>s7 o λk1 m K1 ea1 la1=>aH [ς m L.length,aa i 0,aa k1 4,bQ ea1 ea,bQ la1 la] (.a0 (.b 0,[.h 15 0,.d,.b 16 0 L.length (.a 0),.a .i64 (ξ L.length)],⟨2,[.a (bh (km ea la L L.length)) true (some 4),.a (fS 4 (.b 14 0 L.length K1) ea la) true none],[]⟩))
 | _=>none
theorem aoy(h:nI 4 ea la L):cu Tryz.prog (cH cfg vO) (Cw cfg [.a (dp L) false none]) (lb 8 0) 139 [1,5,6,7] (DV L ea la):=by
 intro vs o t Q hv hq J;unfold DV at hv;split at hv
 . obtain⟨k1,m,K1,ea1,la1,rfl,rfl⟩:=aec hv;replace hq:=cO hq;obtain⟨⟨h1,h2,h3,h7,h8,-⟩,hq⟩:=hq;rw[aJ]at h1;rw[ao]at h2 h3;replace h7:=yl h7;replace h8:=yl h8;subst h1 h2 h3 h7 h8;refine WK aea rfl rfl (abX (by decide)) (ea:=ea1) (la:=la1) (P:=[_,_]) (T:=λe=>[e]) (λ_=>rfl) (λ_ _=>rfl) (λi hi J Q hX hE=>?_) (by rw[af7 h.n1];exact hq) J;obtain⟨D,hD⟩:=@rL (dp L) L.length i K1 J ea1 la1 Q (fF (km ea1 la1 L i));refine cg (hD.mpr (abi hi (λhl=>?_) hE));have n2:=h.n2;rw[qi,aaL];exact⟨aU.2 hl,mz (mz (abE (by rw[N2];omega) (aaH hl (by omega) (hX hl _))) (agZ hl n2 (ahr (h.it i hl)))) (afB hl).1⟩
 . cases hv
def xf(b:Bool)(X Y:Prop):Prop:=fk (not b) (rp 3 (not b) true (b=false/\X)) (rp 3 (not b) false (b/\Y))
def eR:Bool->Bool->Bool->Bool->Nat->Prop->Prop->Prop
 | true,true,i0,il,n,W,U=>fk (not i0) (rp 2 (not i0) true (sh true n (not i0/\i0=false/\fk il U W))) (rp 3 (not i0) false (i0/\U))
 | true,false,i0,_,_,W,U=>xf i0 W U
 | false,true,_,il,n,W,U=>sh true n (fk il U W)
 | false,false,_,_,_,W,_=>W
theorem amd{r i0 il:Bool}{n:Nat}{U W:Prop}(hn:n<=1000)(hU:(!r&&(!(ea&&i0)&&!(la&&il)))=false->U)(hW:(!r&&(!(ea&&i0)&&!(la&&il)))->W):xf r (eR ea la i0 il n W U) U:=by
 have hl:=@aeY true n True hn trivial;unfold sh yT at hl;cases r<;>cases ea<;>cases la<;>cases i0<;>cases il<;>simp_all [xf,fk,rp,eR,sh,yT]
noncomputable def tV(w:List AV)(n i:Nat)(ea la:Bool)(x:It)(lf:List AV->List cD->Prop):Prop:=nE [gN x.f,aa (aR x.f.mo) 0,af .u8 (dq x.f.mo x.f.da)] (nE (wX w n i) (lf (cU x (W2 ea la (acw (b_ w 0 (n*21))) i)) []))
noncomputable def Le(w:List AV)(n i m:Nat)(ea la:Bool)(lf:List AV->List cD->Prop):Prop:=aS i n/\nE (tg (wF w i)) (xf (jQ (wF w i)).r (eR ea la (aa (ξ i) 0) (aa (ξ i) (σ (ξ n) 1)) n (tW (jQ (wF w i)) m lf) (tV w n i ea la (jQ (wF w i)) lf)) (tV w n i ea la (jQ (wF w i)) lf))
theorem rM(w:List AV)(s0 s1 s2 s3 s4:cD)(n i:Nat)(K1:fg)(J:Nat->Value){Q:VQ->Prop}:∀(ac:Ac) (ea la:Bool),∃D,gG Q (rT vO jE [.a w false none] 8 0 139 [1,5,6,7] [.h 15 0,(w6 17 6 [s4,s3,s2,s1,s0,ie 3 n K1 ea la] ac).1,.d,iV i] J (w6 17 6 [s4,s3,s2,s1,s0,ie 3 n K1 ea la] ac).2) D=ba n i (Le w n i (16+(w6 17 6 [s4,s3,s2,s1,s0,ie 3 n K1 ea la] ac).2.n) ea la λc D=>nk 17 ac (nR i (Q (.a,[.h 15 0,(ij 17 c (D++[.a (dp [jQ (wF w i)]) true none]) (w6 17 6 [s4,s3,s2,s1,s0,ie 3 n K1 ea la] ac)).1,.d,iX i],(ij 17 c (D++[.a (dp [jQ (wF w i)]) true none]) (w6 17 6 [s4,s3,s2,s1,s0,ie 3 n K1 ea la] ac)).2)))) (Q (.b 0,[.h 15 0,(w6 17 6 [s4,s3,s2,s1,s0,ie 3 n K1 ea la] ac).1,.d,iV i],(w6 17 6 [s4,s3,s2,s1,s0,ie 3 n K1 ea la] ac).2))
 | none,true,true=>⟨bE 112052207666670566230033120522076666700062300533120512054120542006120522076666700643020200520243020020245277777770040,by kernel_rfl⟩
 | none,true,false=>⟨bE 112052207666670566230033120522076666700062300533120512054120542000630200520243020020245277777770040,by kernel_rfl⟩
 | none,false,true=>⟨bE 1120522076666705662300331205120541205420061205220766667006452063020020245277777770040,by kernel_rfl⟩
 | none,false,false=>⟨bE 1120522076666705662300331205120541205420005663020020245277777770040,by kernel_rfl⟩
 | some (m,cs),true,true=>⟨bE 112252022076666705662300331225202207666670006230053312252012252041225204200612252022076666700643020200520243020020245277777770040,by kernel_rfl⟩
 | some (m,cs),true,false=>⟨bE 1122520220766667056623003312252022076666700062300533122520122520412252042000630200520243020020245277777770040,by kernel_rfl⟩
 | some (m,cs),false,true=>⟨bE 11225202207666670566230033122520122520412252042006122520220766667006452063020020245277777770040,by kernel_rfl⟩
 | some (m,cs),false,false=>⟨bE 112252022076666705662300331225201225204122520420005663020020245277777770040,by kernel_rfl⟩
def D5(L:List It)(ea la:Bool):dW:=λvs o=>match vs with
 | [.h 15 0,.d,.d,.a .i64 i]=>s7 o λk1 m K1 ea1 la1=>aH [ς m L.length,aa i 0,aa k1 3,bQ ea1 ea,bQ la1 la] (.a0 (.b 0,[.h 15 0,.b 21 0 L.length (.a 0),.d,.a .i64 (ξ L.length)],⟨7,[.a (aaf ea la L L.length) true (some 17),qb ea la L L.length 4,qb ea la L L.length 3,qb ea la L L.length 2,qb ea la L L.length 1,qb ea la L L.length 0,.a (fS 3 (.b 14 0 L.length K1) ea la) true none],[]⟩))
 | _=>none
theorem aqo(h:nI 3 ea la L)(h5:L.length<=5):cu Tryz.prog (cH cfg vO) (Cw cfg [.a (dp L) false none]) (lb 8 0) 139 [1,5,6,7] (D5 L ea la):=by
 intro vs o t Q hv hq J;unfold D5 at hv;split at hv
 . obtain⟨k1,m,K1,ea1,la1,rfl,rfl⟩:=aec hv;replace hq:=cO hq;obtain⟨⟨h1,h2,h3,h7,h8,-⟩,hq⟩:=hq;rw[aJ]at h1;rw[ao]at h2 h3;replace h7:=yl h7;replace h8:=yl h8;subst h1 h2 h3 h7 h8;refine aju aea rfl rfl (ea:=ea1) (la:=la1) h5 (abX (by decide)) (P:=[_]) (T:=λe=>[_,e]) (λ_=>rfl) (λ_ _=>rfl) (λi hi J Q hX hE=>?_) (by obtain⟨m,hm⟩:∃m,L.length=m+1:=⟨L.length-1,by have:=h.n1;omega⟩;rw[hm]at hq ⊢;exact hq) J;obtain⟨D,hD⟩:=@rM (dp L) (qb ea1 la1 L i 0) (qb ea1 la1 L i 1) (qb ea1 la1 L i 2) (qb ea1 la1 L i 3) (qb ea1 la1 L i 4) L.length i K1 J Q (wU ea1 la1 L i) ea1 la1;refine cg (hD.mpr (abi hi (λhl=>?_) hE));obtain⟨k1,k2⟩:=afB hl;unfold Le tV;rw[k2,qi,aaL,show aa (ξ i) (σ (ξ L.length) 1)=ς (i+1) L.length by grind [aJ,ao]];refine⟨aU.2 hl,mz (amd (by omega) (λhd=>?_) λhd=>?_) k1⟩
   . obtain⟨u1,u2,u3⟩:=ah9 h hl hd;exact mz (mz (adV (by omega) (aaH hl (by omega) (hX _ [] hl (afv (P:=True) hd).1 (afv hd).2 _))) (agZ hl h.n2 u3)) (bs:=[_,_,_]) ⟨u1,u2,alC,trivial⟩
   . exact ajt (afr h hl).1 hd λc B h0 h1=>adV (by omega) (aaH hl (by omega) (hX c B hl h0 h1 _))
 . cases hv
noncomputable def zn:aQ:=eQ (eQ gZ 14 (fl 14 [21] sI)) 37 (fl 14 [4] FN)
def F9(L:List It)(ea la:Bool):cx:=iz jE 0 (d9 139 [1,5,6,7] (DV L ea la))
def Ga(L:List It)(ea la:Bool):cx:=iz jE 0 (d9 139 [1,5,6,7] (D5 L ea la))
theorem Pf(w:List AV)(L:List It)(ea la:Bool)(n:Nat)(K:fg){Q:EQ->Prop}:gG Q (bT zn (F9 L ea la) [.a w false none] 8 [.g (fS 4 (.b 14 0 n K) ea la)]) (bE 177002200205226666)=((λ(A B C F O:AV)(E N:Nat)=>(λ(H P:List AV)(T:Nat)=>(λ(I:List AV)=>(λ(G:List Rn)=>and true (and (π (ν 0 N) w.length) (bc 14 P))/\abk P n 4 ea la/\ς n E/\bQ ea ea/\bQ la la/\(∀J1:Nat->Value,and true (and (π (ν 0 T) H.length) (bc 14 I))/\eJ I/\ς G.length E/\π 1 E/\π E 900/\aeK G/\Q (.c [.b 18 0 1 (fg.b 1),C],⟨4,[.a [.a .u8 1,.b 17 0 (pP G) (fg.a 0),F,F,B,C,C,B,B,A,A,A,A,O,C,O,C] true none,.a (bh (cA G E)) true (some 4),.a H true (some 4),.a [.a .u8 4,F,F,B,C,C,B,B,A,A,A,A,F,F,B,C,C,B,B,A,A,A,A,F,F,B,C,C,B,B,A,A,A,.b 14 0 E K,.e ea,.e la] true none],[]⟩))) (g8 I)) (b_ H 0 T)) (bh (km ea la L E)) (b_ w 0 N) (υ E 4)) (.a .u8 0) (.f []) (.a .i64 0) (.e false) (.a .i8 0) L.length (υ n 21)):=by rfl
theorem Ph(w:List AV)(L:List It)(ea la:Bool)(n:Nat)(K:fg){Q:EQ->Prop}:gG Q (bT zn (Ga L ea la) [.a w false none] 8 [.g (fS 3 (.b 14 0 n K) ea la)]) (bE 1002200205226666)=((λ(A C E F:AV)(B G:Nat)=>(λ(H:List AV)=>and true (and (π (ν 0 G) w.length) (bc 14 H))/\abk H n 3 ea la/\ς n B/\bQ ea ea/\bQ la la/\(∀J1:Nat->Value,Q (.c [.b 21 0 B (fg.a 0),E],⟨7,[.a (aaf ea la L B) true (some 17),qb ea la L B 4,qb ea la L B 3,qb ea la L B 2,qb ea la L B 1,qb ea la L B 0,.a [.a .u8 3,F,F,C,E,E,C,C,A,A,A,A,F,F,C,E,E,C,C,A,A,A,A,F,F,C,E,E,C,C,A,A,A,.b 14 0 B K,.e ea,.e la] true none],[]⟩))) (b_ w 0 G)) (.a .u8 0) (.f []) (.a .i64 0) (.e false) L.length (υ n 21)):=by rfl
theorem acM:ec eS 8=some (dH 8,aL 8):=by rfl
theorem aii:ak Tryz.prog cfg zn:=al9 (anl aW)
theorem alI(h:nI 4 ea la L)(h5:L.length<=5):eJ (bh (km ea la L L.length))/\aeK (km ea la L L.length)/\cA (km ea la L L.length) L.length=rF (km ea la L L.length):=by
 obtain⟨-,-,hc,hi⟩:=aef h h5;have e:cA (km ea la L L.length) L.length=cA (km ea la L L.length) (km ea la L L.length).length:=by rw[N2]
 refine⟨adX hi,List.all_eq_true.2 λx hx=>ao.mpr (hc x hx),e.trans (am0 λx hx=>?_)⟩;obtain⟨i,hi',rfl⟩:=List.mem_map.1 hx;have hb:=ahL (h.it i (List.mem_range.1 hi'));have hc:=hc _ hx;unfold W2 kW at hc ⊢;constructor<;>grind
theorem Q2{ea la:Bool}{L:List It}{K:fg}(h:nI 4 ea la L)(h5:L.length<=5):bu Tryz.prog cfg 8 [.g (fS 4 (.b 14 0 L.length K) ea la)] [.a (dp L) false none] (.c [.b 16 0 1 (.b 1),.a .i64 0]) [.a (ft 1 (.b 15 0 (rF (km ea la L L.length)).length (.a 0)) gL 0 0 0 0 0) true none,.a (bh (rF (km ea la L L.length))) true (some 4)]:=by
 obtain⟨o1,o2,o3⟩:=alI h h5;refine abj aii (L:=F9 L ea la) acM (by simp) (dv ahp λi hi e he st Q hw=>?_) (λ_=>Pf (dp L) L ea la L.length K) λQ' hQ=>?_
 . have hi:i=0:=by grind
   subst hi;cases he;exact adh (bR (cC.a0 aea) (by decide) rfl (aoy h) hw)
 . try dsimp only
   have n1:=h.n1;have hB:abk (dp L) L.length 4 ea la=true:=rd.2 ⟨L,rfl,rfl,h⟩;have hl:(km ea la L L.length).length=L.length:=N2;have hw4:b_ (bh (km ea la L L.length)) 0 (L.length*4)=bh (km ea la L L.length):=by
    grind [b_,kC]
   have l1:π (0+L.length*21) (dp L).length=true:=by rw[al,lh];omega
   have l2:π (0+L.length*4) (bh (km ea la L L.length)).length=true:=by grind [al,kC]
   have l3:ς L.length L.length=true:=aJ.mpr rfl;have l4:∀b:Bool,bQ b b=true:=λb=>by cases b<;>rfl
   have l5:ς (km ea la L L.length).length L.length=true:=aJ.mpr hl;have l6:π 1 L.length=true:=al.mpr n1;have l7:π L.length 900=true:=al.mpr (by omega);have l8:pP (km ea la L L.length)=(rF (km ea la L L.length)).length:=by grind [pP]
   rw[qi,lU,hw4,ma,mZ,hB,l1,l2,l3,o1,o2,o3,l5,l6,l7,l8];simp only[l4,τ,true_and,and_true,true_imp_iff,reduceCtorEq,false_imp_iff];exact(λ_=>hQ _ (dL.fw ir (k:=1) (x:=gL) (p:=0) (a:=0) (b:=0) (c:=0) (d:=0) (kd:=2) (kf:=3) (by decide) (by decide) (by decide) rfl rfl sR))
theorem aqc{K:fg}{v:AV}{news:List cD}(h:nI 3 ea la L)(h5:L.length<=5)(hv:dL [.a (dp L) false none] v news (.c [.b 21 0 L.length (.a 0),.a .i64 0],ahJ ea la L (.a (fS 3 (.b 14 0 L.length K) ea la) true none) L.length)):bu Tryz.prog cfg 8 [.g (fS 3 (.b 14 0 L.length K) ea la)] [.a (dp L) false none] v news:=by
 refine abj aii (L:=Ga L ea la) acM (by simp) (dv ahp λi hi e he st Q hw=>?_) (λ_=>Ph (dp L) L ea la L.length K) λQ' hQ=>?_
 . have hi:i=0:=by grind
   subst hi;cases he;exact adh (bR (cC.a0 aea) (by decide) rfl (aqo h h5) hw)
 . try dsimp only
   have n1:=h.n1;have hB:abk (dp L) L.length 3 ea la=true:=rd.2 ⟨L,rfl,rfl,h⟩;have l1:π (0+L.length*21) (dp L).length=true:=by rw[al,lh];omega
   have l3:ς L.length L.length=true:=aJ.mpr rfl;have l4:∀b:Bool,bQ b b=true:=λb=>by cases b<;>rfl
   rw[qi,lU,hB,l1,l3];simp only[l4,τ,true_and,and_true,true_imp_iff,reduceCtorEq,false_imp_iff];refine λ_=>hQ _ ?_;obtain⟨m,hm⟩:∃m,L.length=m+1:=⟨L.length-1,by omega⟩;have hv':=hv;rw[hm,aeX,<-hm]at hv';exact hv'
def Ct:dP:=λ
 | [.g [.e ng,.e lg,.f s,.a .i64 e,.a .i64 g,.f mo,.f da,.a .u8 a,.a .u8 b,.a .u8 c]]=>some (aH [wa ng lg s e g mo da a b c] (.a0 (.a .i64 0)))
 | _=>none
def rW:aQ:=d5 (d5 (eQ (d5 gZ 34 wG) 33 (fl 14 [] rE)) 46 Ct) 21 aiH
section
variable(x y:Da){Q:FQ->Prop}
def O5:gG Q (fT rW 8 [.g (acB x)]) (bE 11414205625666666666666666666666)=tS x Q:=by kernel_rfl
def OG:gG Q (fT rW 8 [.g (ra (sZ 1 x) (sZ 1 y))]) (bE 16205626632200066666666666666666666)=(dJ 1 x/\dJ 1 y/\not (ab (jM 1 x 1 y) 0)=false/\gN x/\gN y/\Q (j7 0 (jc x) 0 (iQ y))):=by kernel_rfl
def OO:gG Q (fT rW 8 [.g (ra (sZ 1 x) (sZ 2 y))]) (bE 100620662200066666666666666666666)=(dJ 1 x/\dJ 2 y/\gN x/\Q (j7 0 (jc x) 1 0)):=by kernel_rfl
def OZ:gG Q (fT rW 8 [.g (ra (sZ 1 x) (sZ 3 y))]) (bE 100620662200066666666666666666666)=(dJ 1 x/\dJ 3 y/\gN x/\Q (nw 5 gL 0 0 (jc x) 1 0)):=by kernel_rfl
def O1:gG Q (fT rW 8 [.g (ra (sZ 2 x) (sZ 1 y))]) (bE 162000662200066666666666666666666)=(dJ 2 x/\dJ 1 y/\gN y/\Q (j7 (-1) 0 0 (iQ y))):=by kernel_rfl
def O3:gG Q (fT rW 8 [.g (ra (sZ 3 x) (sZ 1 y))]) (bE 100052000662200066666666666666666666)=(dJ 3 x/\dJ 1 y/\gN y/\Q (nw 4 gL 0 (-1) 0 0 (iQ y))):=by kernel_rfl
end
theorem amj{S:aQ}(hS:ak Tryz.prog cfg S):ak Tryz.prog cfg (d5 S 46 Ct):=au hS λargs t v he hv=>by
 unfold Ct at he;split at he
 . cases he;obtain⟨⟨h1,-⟩,hv⟩:=aF hv;cases hv;obtain⟨h6,i1,_,_,_,_,h0⟩:=yn.1 h1;have n1:=al.mpr h6;refine afG (aeN aW) rfl ?_ rfl rfl;show(aH [π _ 1000,af .i64 _] _).b0=_;rw[n1,i1,h0];rfl
 grind
theorem act:ak Tryz.prog cfg rW:=agM (amj (ajW (ahh aW)))
def zT{x:Da}(h:dF x):=ajA act acM (λx Q=>O5 x) h
theorem agx(h:dJ 1 x):gN x=true:=by
 simp_all [dJ,aa,gN]
theorem Rj(hk:dJ 1 x)(hl:dJ 1 y)(hp:jM 1 x 1 y=0):bu Tryz.prog cfg 8 [.g (ra (sZ 1 x) (sZ 1 y))] [] (j7 0 (jc x) 0 (iQ y)).1 (j7 0 (jc x) 0 (iQ y)).2:=zd act acM (by simp) (λQ=>OG x y) λQ hQ=>⟨hk,hl,by rw[hp];rfl,agx hk,agx hl,hQ⟩
theorem Rk(hk:dJ 1 x)(hl:dJ 2 y)(hp:jM 1 x 2 y=0):bu Tryz.prog cfg 8 [.g (ra (sZ 1 x) (sZ 2 y))] [] (j7 0 (jc x) 1 0).1 (j7 0 (jc x) 1 0).2:=zd act acM (by simp) (λQ=>OO x y) λQ hQ=>⟨hk,hl,agx hk,hQ⟩
theorem Rp(hk:dJ 1 x)(hl:dJ 3 y)(hp:jM 1 x 3 y=0):bu Tryz.prog cfg 8 [.g (ra (sZ 1 x) (sZ 3 y))] [] (nw 5 gL 0 0 (jc x) 1 0).1 (nw 5 gL 0 0 (jc x) 1 0).2:=zd act acM (by simp) (λQ=>OZ x y) λQ hQ=>⟨hk,hl,agx hk,hQ⟩
theorem Rq(hk:dJ 2 x)(hl:dJ 1 y)(hp:jM 2 x 1 y=0):bu Tryz.prog cfg 8 [.g (ra (sZ 2 x) (sZ 1 y))] [] (j7 (-1) 0 0 (iQ y)).1 (j7 (-1) 0 0 (iQ y)).2:=zd act acM (by simp) (λQ=>O1 x y) λQ hQ=>⟨hk,hl,agx hl,hQ⟩
theorem Rr(hk:dJ 3 x)(hl:dJ 1 y)(hp:jM 3 x 1 y=0):bu Tryz.prog cfg 8 [.g (ra (sZ 3 x) (sZ 1 y))] [] (nw 4 gL 0 (-1) 0 0 (iQ y)).1 (nw 4 gL 0 (-1) 0 0 (iQ y)).2:=zd act acM (by simp) (λQ=>O3 x y) λQ hQ=>⟨hk,hl,agx hl,hQ⟩
def af0(b:Nat)(ea la:Bool)(L:List It)(i:Nat):List AV:=
 bif mf ea la L i then(bif ab 1 (L.getD i fP).f.g then ft 3 .d gL 1 0 (bf (jI (L.getD i fP).f.ng (L.getD i fP).f.s (L.getD i fP).f.e (L.getD i fP).f.g)) 0 (bf (jL (L.getD i fP).f.ng (L.getD i fP).f.s (L.getD i fP).f.e (L.getD i fP).f.g+1)-1)
  else bif fy (L.getD i fP).f then ft 1 (.b (b+i) 0 1 (.b 1)) gL 0 0 0 0 0
  else ft 2 .d ⟨(L.getD i fP).f.ng,(L.getD i fP).f.lg,(L.getD i fP).f.s,(L.getD i fP).f.e,0,(L.getD i fP).f.mo,(L.getD i fP).f.da,0,0,0⟩ 0 0 0 0 0)
 else ft 3 .d gL (dq (L.getD i fP).f.mo (L.getD i fP).f.da) (W2 ea la L i).a (W2 ea la L i).b (W2 ea la L i).c (W2 ea la L i).d
def aeF(b:Nat)(ea la:Bool)(L:List It):Nat->List AV
 | 0=>[]
 | n+1=>aeF b ea la L n++af0 b ea la L n
theorem af4{b k j:Nat}{ρ:List (Nat×Nat)}{ea la:Bool}{L:List It}:∀{n:Nat},(∀i,i<n->To b ρ (16+i)=some (j+i))->yw (kG b ρ 20) (aaf ea la L n)=some (aeF j ea la L n)
 | 0,_=>rfl
 | n+1,h=>rB (af4 (k:=k) λi hi=>h i (by omega)) (by
   grind [abl,af0,acY,aa2])
def aia(ea la:Bool)(L:List It)(rw:Bool)(g:Option Nat):List cD:=[.a (aeF 15 ea la L L.length) rw g,qb ea la L L.length 4,qb ea la L L.length 3,qb ea la L L.length 2,qb ea la L L.length 1,qb ea la L L.length 0]
theorem dL.oo{rw:Bool}{g:Option Nat}{C:fg}{n k:Nat}{os:List cD}(hk:k=6\/k=7)(hn:k<n)(h5:L.length<=5)(h0:os.getD (n-1-k) .b=.a (aaf ea la L L.length) rw g)(h1:∀i,i<5->os.getD (n-1-(1+i)) .b=qb ea la L L.length i):dL [.a (dp L) false none] (.c [.b 20 0 L.length C,.a .i64 0]) (aia ea la L rw g) (.c [.b (15+k) 0 L.length C,.a .i64 0],⟨n,os,[]⟩):=by
 have hv':kG ((Cw cfg [.a (dp L) false none]).lo+0) (eM (Cw cfg [.a (dp L) false none]).lo 0 [1,2,3,4,5,k]) 20 (.c [.b (15+k) 0 L.length C,.a .i64 0])=some (.c [.b 20 0 L.length C,.a .i64 0]):=by
  rcases hk with rfl|rfl<;>rfl
 have hm:∀i,i<L.length->To 15 (eM 15 0 [1,2,3,4,5,k]) (16+i)=some (15+i):=λi hi=>by
  rcases(by omega:i=0\/i=1\/i=2\/i=3\/i=4)with rfl|rfl|rfl|rfl|rfl<;>rcases hk with rfl|rfl<;>rfl
 refine(oX dI.lv (C:=Cw cfg [.a (dp L) false none]) (st:=⟨.c0 (.c [.b (15+k) 0 L.length C,.a .i64 0]) .a0 .a0,1,⟨n,os,[]⟩,[],none⟩) (kb:=0) (sel:=[1,2,3,4,5,k]) (ts':=.c0 (.c [.b 20 0 L.length C,.a .i64 0]) .a0 .a0) (o':=⟨6,aia ea la L rw g,[]⟩) (B6 ir) (Nat.zero_le _) (λs hs=>?_) (by simp;omega) (λp hp=>by grind) rfl rfl rfl (λi hi=>absurd hi (Nat.not_lt_zero i)) (λt ht=>?_) ?_ (λd hd=>by grind) (λi hi=>by grind)).b0 λs hs=>?_
 . grind
 . have sl:∀i,i<5->WD 15 (eM 15 0 [1,2,3,4,5,k]) (os.getD (n-1-(1+i)) .b) (qb ea la L L.length i):=λi hi=>.inl ⟨(h1 i hi).symm,by grind [fK]⟩;have:t=0\/t=1\/t=2\/t=3\/t=4\/t=5:=by grind
   rcases this with rfl|rfl|rfl|rfl|rfl|rfl
   . exact sl 0 (by decide)
   . exact sl 1 (by decide)
   . exact sl 2 (by decide)
   . exact sl 3 (by decide)
   . exact sl 4 (by decide)
   . exact .inr ⟨_,_,_,_,h0,af4 (k:=0) hm,rfl⟩
 . grind [xB,ob]
 . rw[hs];exact⟨rfl,rfl⟩
theorem wt{ea la:Bool}{L:List It}{K:fg}(h:nI 3 ea la L)(h5:L.length<=5):bu Tryz.prog cfg 8 [.g (fS 3 (.b 14 0 L.length K) ea la)] [.a (dp L) false none] (.c [.b 20 0 L.length (.a 0),.a .i64 0]) (aia ea la L true (some 17)):=by
 refine aqc h h5 ?_;have n1:=h.n1;obtain⟨m,hm⟩:∃m,L.length=m+1:=⟨L.length-1,by omega⟩;rw[show ahJ ea la L (.a (fS 3 (.b 14 0 L.length K) ea la) true none) L.length=⟨7,[.a (aaf ea la L L.length) true (some 17),qb ea la L L.length 4,qb ea la L L.length 3,qb ea la L L.length 2,qb ea la L L.length 1,qb ea la L L.length 0,.a (fS 3 (.b 14 0 L.length K) ea la) true none],[]⟩by rw[hm];rfl];grind [dL.oo]
theorem aiS{cs vs:List AV}(h:cs.length=vs.length):JL cs 0 vs=vs:=by
 cases cs<;>exact aeC h
theorem afN:∀{a b:List AV},dM a->dM b->dM (a++b)=true
 | [],_,_,h=>h
 | v::a,b,h,h'=>by
   rw[dM,zAa]at h;show(KU v&&dM (a++b))=true;rw[h.1,afN h.2 h'];rfl
theorem ael{ea la:Bool}{L:List It}:∀{n:Nat},dM (aaf ea la L n)=true
 | 0=>rfl
 | n+1=>afN ael (by
   unfold abl;cases mf ea la L n<;>cases ab 1 (L.getD n fP).f.g<;>cases fy (L.getD n fP).f<;>rfl)
theorem alr:ak Tryz.prog cfg Hc:=ajV aW
theorem Q9{ea la:Bool}{L:List It}{K:fg}(h:nI 3 ea la L)(h5:L.length<=5):bu Tryz.prog cfg 7 [.g (fS 3 (.b 14 0 L.length K) ea la)] [.a (dp L) false none] (.c [.b 20 0 L.length (.b L.length),.a .i64 0]) (aia ea la L true none):=by
 refine abj alr (L:=Gf L ea la) abc (by simp) (dv afR λi hi e he st Q hw=>?_) (λ_=>Pn (dp L) L ea la L.length K) λQ' hQ=>?_
 . have hi:i=0:=by grind
   subst hi;cases he;exact adh (bR (cC.a0 aj0) (by decide) rfl (aog h h5) hw)
 . try dsimp only
   have n1:=h.n1;have hB:abk (dp L) L.length 3 ea la=true:=rd.2 ⟨L,rfl,rfl,h⟩;have hl:(aaf ea la L L.length).length=L.length*17:=adr;have hT:List.take (L.length*17) (List.drop 0 (aaf ea la L L.length))=aaf ea la L L.length:=by grind
   have l1:π (0+L.length*21) (dp L).length=true:=by rw[al,lh];omega
   have l3:ς L.length L.length=true:=aJ.mpr rfl;have l4:∀b:Bool,bQ b b=true:=λb=>by cases b<;>rfl
   have l5:aa (ξ L.length) 0=false:=by grind [aw]
   have l6:π L.length L.length=true:=al.mpr (Nat.le_refl _);have l7:π L.length 10000=true:=al.mpr (by omega);rw[qi,lU,hB,l1,l3,hT];simp only[l4,l5,l6,l7,hl,aa0,τ,true_and,and_true,true_imp_iff,reduceCtorEq,false_imp_iff];have hz:∀z:List AV,z.length=17->(mX z L.length).length=L.length*17:=λz hz=>by rw[zu,hz]
   have l8:π (0+L.length*17) (L.length*17)=true:=by simp
   rw[aiS (by simp_all),hz _ rfl,l8,ael];refine λ_=>⟨rfl,rfl,rfl,hQ _ (dL.oo (.inr rfl) (by decide) h5 rfl λi hi=>?_)⟩;grind
end Go.Ev
end
section
namespace Go.Ev
open Go Go.RowKit
variable{kb:Nat}{o':aB}
section
variable{cfg:cL}{C:bg}{st:St}
theorem aha(hK:qX cfg){sel:List Nat}{ts':Ts}(hlow:Ns C)(hkb:kb<=st.o.n)
 (hsel:∀s∈sel,kb<=s/\s<st.o.n) (hnd:sel.Nodup)
 (hle:∀p∈st.o.le,cR (C.lo+kb) p.2) (hle':o'.le=st.o.le) (hn:o'.n=kb+sel.length) (hlen:o'.os.length=o'.n)
 (hold:∀i,i<kb->WD (C.lo+kb) (eM C.lo kb sel) (st.o.at i) (o'.at i))
 (hnew:∀t,t<sel.length->WD (C.lo+kb) (eM C.lo kb sel) (st.o.at (sel.getD t 0)) (o'.at (kb+t)))
 (hts:xB (kG (C.lo+kb) (eM C.lo kb sel) 20) st.ts=some ts') (hds:∀d∈st.ds,d<C.lo+kb) (hro:∀i,st.ro=some i->i<C.lo+kb) :
 Wk cfg C kb st λs=>s=⟨ts',st.tn,o',st.ds,st.ro⟩:=by
 intro D m a w hi ht;obtain⟨D',hD'⟩:∃D':Nat->Prop,D'=λid=>(id<C.lo+kb/\D id)\/∃t,t<sel.length/\id=C.lo+kb+t/\D (C.lo+sel.getD t 0):=⟨_,rfl⟩;obtain⟨m',hm'⟩:∃m':Nat->bv,m'=λid=>if id<C.lo+kb then m id else m (C.lo+sel.getD (id-(C.lo+kb)) 0):=⟨_,rfl⟩
 have mlow:∀i,i<C.lo+kb->m' i=m i:=λi h=>by grind
 have mnew:∀t,m' (C.lo+kb+t)=m (C.lo+sel.getD t 0):=λt=>by
  grind
 have ok:Fl (C.lo+kb) (eM C.lo kb sel) D D' m m':=by
  refine⟨λi hd hlt=>⟨by grind,mlow i hlt⟩,λi j hl hd=>?_⟩;grind [xE]
 have hselt:∀t,t<sel.length->kb<=sel.getD t 0/\sel.getD t 0<st.o.n:=λt h=>hsel _ (by grind);have glo:∀i,i<C.lo->fB C o' i=fB C st.o i/\cR (C.lo+kb) (fB C st.o i):=λi h=>by
  unfold fB gB;rw[jT (by omega),cond_false,cond_false,hle'];refine⟨rfl,?_⟩;simp only;have lw:cR (C.lo+kb) (gB C.B i):=⟨(hlow i h).1,λj hj=>by have:=(hlow i h).2 j hj;omega⟩;cases hx:fp st.o.le i with
  | none=>omega
  | some x=>
    have:∀le:List (Nat×cD),fp le i=some x->∃p∈le,p.2=x:=by
     intro le;induction le<;>grind [fp]
    grind
 have glow:∀i,i<C.lo+kb->WD (C.lo+kb) (eM C.lo kb sel) (fB C st.o i) (fB C o' i):=λi h=>by
  by_cases hc:C.lo<=i
  . grind [fB,gB,eK]
  . exact .inl (glo i (by omega))
 have gnew:∀t,t<sel.length->WD (C.lo+kb) (eM C.lo kb sel) (fB C st.o (C.lo+sel.getD t 0)) (fB C o' (C.lo+kb+t)):=λt h=>by
  unfold fB gB;rw[eK.2 (by omega:C.lo<=C.lo+sel.getD t 0),eK.2 (by omega:C.lo<=C.lo+kb+t),cond_true,cond_true,show C.lo+sel.getD t 0-C.lo=sel.getD t 0 by omega,show C.lo+kb+t-C.lo=kb+t by omega];grind
 have inj:∀t u,t<sel.length->u<sel.length->sel.getD t 0=sel.getD u 0->t=u:=λt u h1 h2 e=>by
  grind [List.pairwise_iff_getElem]
 have src:∀i,D' i->∃j,D j/\m' i=m j/\oQ (fB C o' i)=oQ (fB C st.o j)/\Ep (fB C o' i)=Ep (fB C st.o j)/\((i<C.lo+kb/\j=i)\/∃t,t<sel.length/\i=C.lo+kb+t/\j=C.lo+sel.getD t 0):=λi h=>by
  grind [Lq]
 have hinv:dX cfg D' m' C o' w:=by
  refine⟨λi hd=>?_,λi j hdi hdj hij hl hr=>?_,λi hd=>?_,λg hg=>?_,λi hid=>?_,λi hid=>hi.le i (by grind),hi.lo,hlen⟩
  . rw[hD']at hd;rcases hd with⟨h1,h2⟩|⟨t,h1,rfl,h2⟩
    . rw[mlow i h1];exact OP ok (hi.a0 i h2) (glow i h1)
    . rw[mnew t];exact OP ok (hi.a0 _ h2) (gnew t h1)
  . obtain⟨i',di,ei,li,ri,ci⟩:=src i hdi;obtain⟨j',dj,ej,lj,rj,cj⟩:=src j hdj;rw[ei,ej];refine hi.inj i' j' di dj (λe=>hij ?_) (by rw[<-li];exact hl) (by rw[<-rj];exact hr);rcases ci with⟨c1,rfl⟩|⟨t,c1,rfl,rfl⟩<;>rcases cj with⟨d1,rfl⟩|⟨u,d1,rfl,rfl⟩
    . exact e
    . have:=hselt u d1;omega
    . have:=hselt t c1;omega
    . have:=inj t u c1 d1 (by omega);omega
  . rw[hD']at hd;rcases hd with⟨h1,h2⟩|⟨t,h1,rfl,h2⟩<;>omega
  . obtain⟨a1,a2,a3⟩:=hi.c0 g hg;have hlt:g<C.lo+kb:=by have:=hK.G;have:=hi.lo;omega
    exact⟨by rw[hD'];exact .inl ⟨hlt,a1⟩,by rw[mlow g hlt];exact a2,by rw[mlow g hlt];exact a3⟩
  . obtain⟨a1,a2⟩:=hi.b0 i hid;have hlt:i<C.lo+kb:=by have:=hi.lo;omega
    exact⟨by rw[hD'];exact .inl ⟨hlt,a1⟩,by rw[(glo i (by have:=hi.lo;omega)).1];exact a2⟩
 refine⟨_,D',m',rfl,⟨ht.b0,λt=>?_,λt=>?_,?_,λd hd=>by rw[hD'];exact .inl ⟨hds d hd,ht.e0 d hd⟩,λi h=>by rw[hD'];exact .inl ⟨hro i h,ht.f0 i h⟩⟩,rfl,?_,hinv,λD0 m0 o0 w0 ho hl he=>?_⟩
 . have:=wx (f:=kG (C.lo+kb) (eM C.lo kb sel) 20) rfl t hts;rw[ht.d0 t];exact(tG ok this (ht.c0 t)).1.symm
 . have:=wx (f:=kG (C.lo+kb) (eM C.lo kb sel) 20) rfl t hts;exact(tG ok this (ht.c0 t)).2
 . rw[ht.a0];exact List.map_congr_left λd hd=>by rw[mlow d (hds d hd)]
 . cases hr:st.ro with
   | none=>rfl
   | some i=>simp only[wo,Option.map_some,mlow i (hro i hr)]
 . have low0:∀i,D0 i->i<C.lo+kb:=λi h=>by have:=hl i h;omega
   refine⟨hinv,λi h=>by rw[hD'];exact .inl ⟨low0 i h,he.g0 i h⟩,λi h=>by rw[mlow i (low0 i h)];exact he.a0 i h,λi h=>?_,by simp only;omega,he.os,he.j0,he.c0,he.i0,he.f0,by simp only[hle'];exact he.m0,λi h hn=>?_⟩
   . rw[hD']at h;rcases h with⟨h1,h2⟩|⟨t,h1,rfl,h2⟩
     . exact he.l0 i h2
     . exact .inr (by omega)
   . rw[hD']at h;rcases h with⟨h1,h2⟩|⟨t,h1,rfl,h2⟩
     . rw[mlow i h1];exact he.e0 i h2 hn
     . rw[mnew t];have:=hselt t h1;exact he.e0 _ h2 λh0=>by have:=hl _ h0;omega
end
section
variable{cfg:cL}{C:bg}
theorem VW.f0(hK:qX cfg){tn:Nat}{rel:List Nat}{sel:List Nat}{vs vs':List AV}{o:aB}(hlow:Ns C)(hkb:kb<=o.n)
 (hsel:∀s∈sel,kb<=s/\s<o.n) (hnd:sel.Nodup)
 (hle:∀p∈o.le,cR (C.lo+kb) p.2) (hle':o'.le=o.le) (hn:o'.n=kb+sel.length) (hlen:o'.os.length=o'.n)
 (hold:∀i,i<kb->WD (C.lo+kb) (eM C.lo kb sel) (o.at i) (o'.at i))
 (hnew:∀t,t<sel.length->WD (C.lo+kb) (eM C.lo kb sel) (o.at (sel.getD t 0)) (o'.at (kb+t)))
 (hvs:yw (kG (C.lo+kb) (eM C.lo kb sel) 20) vs=some vs'):VW cfg C kb tn rel vs o vs' o':=by
 intro J;have hts:xB (kG (C.lo+kb) (eM C.lo kb sel) 20) (tr tn rel vs J o).ts=some (iY rel vs' (tF J tn .a0)):=F3 (f:=kG (C.lo+kb) (eM C.lo kb sel) 20) (rel:=rel) rfl hvs (GI (f:=kG (C.lo+kb) (eM C.lo kb sel) 20) (n:=tn) (t:=.a0) rfl (λ_=>rfl) rfl);refine(aha hK (st:=tr tn rel vs J o) hlow hkb hsel hnd hle hle' hn hlen hold hnew hts (λd hd=>by cases hd) (λi hi=>by cases hi)).b0 λs hs=>⟨J,?_⟩;rw[hs];rfl
end
end Go.Ev
end
