import Derived.Test.YtcffhjfdlflbgaaGreatDoorP37
set_option linter.all false
open Int renaming ofNat->ν
open HAdd renaming hAdd->ξ
open List renaming getD->ο
open Nat renaming ble->π,beq->ς
set_option linter.all false
set_option maxRecDepth 100000
set_option maxHeartbeats 4000000
namespace Go.Ev
open Go Go.Proofs
variable{K:fg}{S:aQ}{k:Int}{ea la:Bool}
def aeK(R:List Rn):Bool:=R.all λx=>aa (bA x.a x.b x.c x.d) 0
def GX:aQ:=eQ (pX gZ 48 Pm) 90 (fl 14 [4] Fj)
def Ej(R:List Rn):dW:=λ
 | [.c 14 0 n K,.a .i64 i],⟨0,[],[]⟩=>some (aH [ς R.length n,π n 900,aeK R,aa i 0] (.a0 (.b 0,[.c 14 0 n K,.a .i64 (ν n)],dO)))
 | _,_=>none
def MQ(R:List Rn):cx:=iz jE 0 (d9 25 [0,4] (Ej R))
def FN:aav:=λ
 | [.c 14 0 n K],[.a w false none]=>some (aH [eJ w,ς (g8 w).length n,π 1 n,π n 900,aeK (g8 w)] (.a0 (.d [.c 15 0 (pP (g8 w)) (.a 0),.a .i64 0],[.a (bh (cA (g8 w) n)) true (some 4)])))
 | _,_=>none
theorem akE:ec tab 37=some (dH 37,aL 37):=by rfl
theorem aiz:(bz (aL 37)).map (·.1)=[0]:=by rfl
theorem aeV:ak Tryz.prog cfg GX:=anp (eG aW RQ)
theorem aiY{R:List Rn}(h:aeK R){i:Nat}(hi:i<R.length):aa (bA (R.getD i ek).a (R.getD i ek).b (R.getD i ek).c (R.getD i ek).d) 0=true:=by
 grind [aeK]
theorem aoR{R:List Rn}:cu Tryz.prog (cH cfg GX) (Cw cfg [.a (bh R) false none]) (lb 37 0) 25 [0,4] (Ej R):=by
 intro vs o t Q hv hq J;unfold Ej at hv;split at hv
 . rename_i n K i;cases hv;replace hq:=cO hq;obtain⟨⟨h1,h2,h3,h4,-⟩,hq⟩:=hq;rw[aJ]at h1;rw[al]at h2;rw[ao]at h4;subst h1 h4;simp only[aH,Tr.wp]at hq;refine ia aeV rfl rfl ai (ι:={i:Nat // i<=R.length}) (λx=>[.c 14 0 R.length K,.a .i64 (ν x.1)]) (λ_=>dO) (λx=>R.length-x.1) 0 (λ_=>Nat.zero_le _) (λx J=>?_) (Nat.le_refl _) (λJ=>Wk.a0 ⟨⟨0,Nat.zero_le _⟩,J,rfl⟩) J;obtain⟨i,hi⟩:=x;dsimp only;have kk:∀(a:IntKind) (n:Int),eB a (.a a n)=true:=λa n=>by cases a<;>rfl
   have io:∀(a:IntKind) (n:Int),dx (.a a n)=n:=λ_ _=>rfl;refine jJ (bE 1121422704) (R:=λQ=>(λ(A E:AV)(B:Int)(C:Nat)=>(λ(G:AV)(F:Bool)(I:Int)(H:Nat)=>(λ(N:AV)(O:Nat)=>(λ(P T:AV)=>(λ(U:Bool)=>(F->aS i R.length/\eB .i8 G/\eB .i64 N/\eB .i8 P/\eB .i64 T/\(U->Q (.c,[E,.a .i64 B],⟨0,[],[]⟩))/\(U=false->af .i64 I/\Q (.a,[E,.a .i64 I],⟨0,[],[]⟩)))/\(F=false->Q (.b 0,[E,.a .i64 B],⟨0,[],[]⟩))) (not (aa (bA (dx G) (dx N) (dx P) (dx T)) 0))) (ο (bh R) O A) (ο (bh R) (ξ O 1) A)) (ο (bh R) H A) (ξ H 1)) (ο (bh R) C A) (not (ab (ν R.length) B)) (Int.add B 1) (ξ C 1)) (.d []) (.c 14 0 R.length K) (ν i) (ξ 0 (HMul.hMul i 4))) (λ_=>by rfl) λQ' hQ=>?_;try dsimp only
   try dsimp only
   by_cases hlt:i<R.length
   . have j1:ab (ν R.length) (ν i)=false:=by grind [bF]
     have j2:aS i R.length=true:=aU.2 hlt;have j3:af .i64 (Int.add (ν i) 1)=true:=by grind [aE,eH,eE]
     obtain⟨f1,f2,f3,f4⟩:=acG hlt;have ok:=aiY h3 hlt;have go:Q' (AX.a,([.c 14 0 R.length K,.a .i64 (Int.add (ν i) 1)],dO)):=hQ _ ⟨⟨i+1,hlt⟩,by grind,VW.b0 rfl rfl⟩;grind
   grind [aq,VW.a0]
 grind
theorem Rf{R:List Rn}(hR:eJ (bh R))(h1:1<=R.length)(hn:R.length<=900)(ho:aeK R):bu Tryz.prog cfg 37 [.c 14 0 R.length K] [.a (bh R) false none] (.d [.c 15 0 (pP R) (.a 0),.a .i64 0]) [.a (bh (cA R R.length)) true (some 4)]:=by
 refine Bu aeV (L:=MQ R) akE (by simp) (dv aiz λi hi e he st Q hw=>?_) (jJ (bE 1227073) (R:=λQ=>(λ(C:Bool)(E:Nat)=>(λ(A:List AV)=>(λ(B:List Rn)=>not (ab (ν R.length) 4096)=false/\ς R.length R.length/\C/\aeK R/\(∀J1:Nat->Value,and true (and (π (ξ 0 E) (bh R).length) (bc 14 A))/\eJ A/\ς B.length R.length/\π 1 R.length/\C/\Q (.d [.c 15 0 (pP B) (fg.a 0),.a .i64 0],⟨1,[.a (bh (cA B R.length)) true (some 4)],[]⟩))) (g8 A)) (b_ (bh R) 0 E)) (π R.length 900) (HMul.hMul R.length 4)) (λ_=>by rfl) λQ' hQ=>?_)
 . have hi:i=0:=by grind
   subst hi;cases he;exact bR (cC.a0 aeV) (by decide) rfl aoR hw
 . try dsimp only
   have l0:ab (ν R.length) 4096=true:=by grind [aq]
   have hw4:b_ (bh R) 0 (R.length*4)=bh R:=by
    grind [b_,kC]
   have l1:π (0+R.length*4) (bh R).length=true:=by rw[al,kC];omega
   rw[hw4,ma,mZ,show ς R.length R.length=true from aJ.mpr rfl];simp only[l0,l1,hR,ho,al.mpr h1,al.mpr hn,Bool.and_true,Bool.not_true,true_and,and_true,true_imp_iff,reduceCtorEq,false_imp_iff];exact λ_=>hQ _ dL.b0
theorem al9(hS:ak Tryz.prog cfg S):ak Tryz.prog cfg (eQ S 37 (fl 14 [4] FN)):=by
 refine bm hS (fW eb.lv Az λargs ws t r he hr=>?_);unfold FN at he;split at he
 . rename_i n K w;cases he;replace hr:=aF hr;obtain⟨⟨h1,h2,h3,h4,h5,-⟩,hr⟩:=hr;rw[aJ]at h2;rw[al]at h3 h4;have ew:=hZ h1;generalize g8 w=R at *;subst h2 ew;cases hr;grind [Rf,hH]
 grind
def xQ:dP:=λ
 | [.h [.b ng,.b lg,.e s,.a .i64 e,.a .i64 g,.e mo,.e da,.a .u8 a,.a .u8 b,.a .u8 c]]=>some (aH [wa ng lg s e g mo da a b c] (.a0 (.a .i64 (bI (eX s g mo da)))))
 | _=>none
def NV:aQ:=d5 (d5 (d5 gZ 46 tw) 126 ag_) 66 Zt
def BZ:dP:=λ
 | [.h [.b ng,.b lg,.e s,.a .i64 e,.a .i64 g,.e mo,.e da,.a .u8 a,.a .u8 b,.a .u8 c,.b r,.b ng',.b lg',.e s',.a .i64 e',.a .i64 g',.e mo',.e da',.a .u8 a',.a .u8 b',.a .u8 c'],.b all]=>some (aH [aap (bif all then 4 else 3) ⟨⟨ng,lg,s,e,g,mo,da,a,b,c⟩,r,⟨ng',lg',s',e',g',mo',da',a',b',c'⟩⟩] (.a0 (.a .i64 0)))
 | _=>none
def NP:aQ:=d5 (d5 (d5 (d5 (d5 gZ 46 tw) 111 xQ) 68 YA) 70 ahu) 126 ag_
def Gw:aQ:=d5 (d5 gZ 110 BZ) 111 xQ
def Dm(L:List It)(k:Int)(ea la:Bool):dW:=λ
 | [.g 15 0,.a .i64 i],⟨3,[.a z2 true none,.a z1 true none,.a (.a .u8 k1::.b false::.b false::.e []::.a .i64 0::.a .i64 0::.e []::.e []::.a .u8 0::.a .u8 0::.a .u8 0::.a .u8 0::.b false::.b false::.e []::.a .i64 0::.a .i64 0::.e []::.e []::.a .u8 0::.a .u8 0::.a .u8 0::.a .u8 0::.b false::.b false::.e []::.a .i64 0::.a .i64 0::.e []::.e []::.a .u8 0::.a .u8 0::.a .u8 0::.c 14 0 m K1::.b ea1::.b la1::[]) true none],[]⟩=>some (aH [ς L.length m,iw z2,iw z1,aa i 0,aa k1 k,bQ ea1 ea,bQ la1 la] (.a0 (.b 0,[.g 15 0,.a .i64 (ν m)],⟨3,[.a z2 true none,.a z1 true none,.a (fS k (.c 14 0 m K1) ea la) true none],[]⟩)))
 | _,_=>none
def Mp(L:List It)(k:Int)(ea la:Bool):cx:=iz jE 0 (d9 156 [1,7] (Dm L k ea la))
noncomputable def Lr:aav:=λ
 | [.h (.a .u8 k::.b false::.b false::.e []::.a .i64 0::.a .i64 0::.e []::.e []::.a .u8 0::.a .u8 0::.a .u8 0::.a .u8 0::.b false::.b false::.e []::.a .i64 0::.a .i64 0::.e []::.e []::.a .u8 0::.a .u8 0::.a .u8 0::.a .u8 0::.b false::.b false::.e []::.a .i64 0::.a .i64 0::.e []::.e []::.a .u8 0::.a .u8 0::.a .u8 0::.c 14 0 n K::.b ea::.b la::[])],[.a w false none]=>some (aH [abk w n k ea la] (.a0 (.d [.a .i64 0,.a .i64 0],[])))
 | _,_=>none
noncomputable def NN:aQ:=eQ gZ 59 (fl 14 [21] Lr)
theorem YR:ec tab 110=some (dH 110,aL 110):=by rfl
theorem akf:ec tab 59=some (dH 59,aL 59):=by rfl
theorem YP:ec tab 14=some (dH 14,aL 14):=by rfl
theorem aiK:(bz (aL 59)).map (·.1)=[0]:=by rfl
theorem akd:ak Tryz.prog cfg NV:=bm (afa (aeN aW)) (MW 66 _ rfl)
theorem ae9{x:Da}(h:dF x):(π x.s.length 1000/\π x.mo.length 1000/\π x.da.length 1000=true)/\af .i64 x.e/\bW x.ng x.lg x.s x.e x.g x.mo x.da x.a x.b x.c=0:=by
 obtain⟨_,h2,_,_,_,_,h7⟩:=SA.1 (show wa _ _ _ _ _ _ _ _ _ _=true from h);grind [aej]
theorem ajQ(hS:ak Tryz.prog cfg S):ak Tryz.prog cfg (d5 S 111 xQ):=by
 refine au hS λargs t v he hv=>?_;unfold xQ at he;split at he
 . rename_i ng lg s e g mo da a b c;cases he;replace hv:=aF hv;obtain⟨⟨h1,-⟩,hv⟩:=hv;cases hv;obtain⟨⟨l1,l2,l3⟩,h2,h7⟩:=ae9 (x:=⟨ng,lg,s,e,g,mo,da,a,b,c⟩) h1;dsimp only at l1 l2 l3 h2 h7;refine nF akd ai (bE 1052331023311432020643270206422006) (R:=λQ=>(λ(A E F:List UInt8)(G:Prop)=>(λ(H I P T:Bool)=>(λ(B C:Bool)=>(λ(N O:Prop)=>P/\af .i64 (Da.e ⟨ng,lg,s,e,g,mo,da,a,b,c⟩)/\(B->B/\P/\π A.length 1000/\π F.length 1000/\B/\H=false/\(C->C/\C/\I=false/\(T->G)/\(T=false->Q (.a .i64 1)))/\(N->N/\N/\I/\G))/\(O->O/\O/\H/\G)) (C=false) (B=false)) (not H) (not I)) (not (aa (bW (Da.ng ⟨ng,lg,s,e,g,mo,da,a,b,c⟩) (Da.lg ⟨ng,lg,s,e,g,mo,da,a,b,c⟩) E (Da.e ⟨ng,lg,s,e,g,mo,da,a,b,c⟩) (Da.g ⟨ng,lg,s,e,g,mo,da,a,b,c⟩) A F (Da.a ⟨ng,lg,s,e,g,mo,da,a,b,c⟩) (Da.b ⟨ng,lg,s,e,g,mo,da,a,b,c⟩) (Da.c ⟨ng,lg,s,e,g,mo,da,a,b,c⟩)) 0)) (aa (bI (cK E (Da.g ⟨ng,lg,s,e,g,mo,da,a,b,c⟩) A F)) 0) (π E.length 1000) (not (ab (aR A) 0))) (Da.mo ⟨ng,lg,s,e,g,mo,da,a,b,c⟩) (Da.s ⟨ng,lg,s,e,g,mo,da,a,b,c⟩) (Da.da ⟨ng,lg,s,e,g,mo,da,a,b,c⟩) (Q (.a .i64 0))) (λ_=>by rfl) λQ' hQ=>?_;try dsimp only
   unfold eX at hQ;have hs0:ab (aR mo) 0=aa (aR mo) 0:=by
    have:=CF mo;grind [aq,ao]
   try dsimp only
   rw[h7,hs0];cases hn:cK s g mo da<;>cases hs:aa (aR mo) 0<;>rw[hn,hs]at hQ<;>simp only[l1,l2,l3,h2,show aa 0 0=true from rfl,show aa (bI true) 0=false from rfl,show aa (bI false) 0=true from rfl,zAi,true_and,and_true,true_imp_iff,reduceCtorEq,false_imp_iff]<;>exact hQ
 grind
theorem ag5:ak Tryz.prog cfg NP:=afa (afd (bm (ajQ (aeN aW)) (MW 68 _ rfl)))
theorem anF(hS:ak Tryz.prog cfg S):ak Tryz.prog cfg (d5 S 110 BZ):=by
 refine au hS λargs t v he hv=>?_;unfold BZ at he;split at he
 . rename_i ng lg s e g mo da a b c r ng' lg' s' e' g' mo' da' a' b' c' all;cases he;replace hv:=aF hv;obtain⟨⟨h1,-⟩,hv⟩:=hv;cases hv;unfold aap mB at h1;dsimp only at h1;rw[zAa,zAa,show aa (bif all then 4 else 3) 4=all by cases all<;>rfl]at h1;obtain⟨v1,v2,v3⟩:=h1;obtain⟨⟨l1,l2,l3⟩,h2,h7⟩:=ae9 v1;dsimp only at l1 l2 l3 h2 h7;have v1':wa ng lg s e g mo da a b c=true:=v1;have hno:all->cK s g mo da=true:=λh=>by rw[h]at v3;exact v3
   cases r with
   | false=>
     rw[cond_false]at v2;refine nF ag5 ai (bE 10381142270206240014005666322006) (R:=λQ=>(λ(F:Bool)(B C E:List UInt8)(A G:Prop)=>(λ(H I:Bool)=>H/\af .i64 (Da.e ⟨ng,lg,s,e,g,mo,da,a,b,c⟩)/\not (aa (bW (Da.ng ⟨ng,lg,s,e,g,mo,da,a,b,c⟩) (Da.lg ⟨ng,lg,s,e,g,mo,da,a,b,c⟩) B (Da.e ⟨ng,lg,s,e,g,mo,da,a,b,c⟩) (Da.g ⟨ng,lg,s,e,g,mo,da,a,b,c⟩) C E (Da.a ⟨ng,lg,s,e,g,mo,da,a,b,c⟩) (Da.b ⟨ng,lg,s,e,g,mo,da,a,b,c⟩) (Da.c ⟨ng,lg,s,e,g,mo,da,a,b,c⟩)) 0)=false/\(F->Q (.a .i64 5))/\(F=false->(all->all/\all/\H/\π C.length 1000/\π E.length 1000/\all/\all/\(I->Q (.a .i64 10))/\(I=false->G))/\(A->A/\A/\A/\A/\G))) (π B.length 1000) (aa (bI (cK B (Da.g ⟨ng,lg,s,e,g,mo,da,a,b,c⟩) C E)) 0)) (not (and (and (bQ (Da.ng ⟨ng',lg',s',e',g',mo',da',a',b',c'⟩) false) (and (bQ (Da.lg ⟨ng',lg',s',e',g',mo',da',a',b',c'⟩) false) (and (ae (Da.s ⟨ng',lg',s',e',g',mo',da',a',b',c'⟩) []) (and (aa (Da.e ⟨ng',lg',s',e',g',mo',da',a',b',c'⟩) 0) (and (aa (Da.g ⟨ng',lg',s',e',g',mo',da',a',b',c'⟩) 0) true))))) (and (ae (Da.mo ⟨ng',lg',s',e',g',mo',da',a',b',c'⟩) []) (and (ae (Da.da ⟨ng',lg',s',e',g',mo',da',a',b',c'⟩) []) (and (and (aa (Da.a ⟨ng',lg',s',e',g',mo',da',a',b',c'⟩) 0) (and (aa (Da.b ⟨ng',lg',s',e',g',mo',da',a',b',c'⟩) 0) (and (aa (Da.c ⟨ng',lg',s',e',g',mo',da',a',b',c'⟩) 0) true))) true))))) (Da.s ⟨ng,lg,s,e,g,mo,da,a,b,c⟩) (Da.mo ⟨ng,lg,s,e,g,mo,da,a,b,c⟩) (Da.da ⟨ng,lg,s,e,g,mo,da,a,b,c⟩) (all=false) (Q (.a .i64 0))) (λ_=>by rfl) λQ' hQ=>?_;simp_all [dZ,aa,bI]
   | true=>
     rw[cond_true,zAa]at v2;obtain⟨w1,w2⟩:=v2;obtain⟨⟨m1,m2,m3⟩,k2,k7⟩:=ae9 w1;have w1':wa ng' lg' s' e' g' mo' da' a' b' c'=true:=w1;dsimp only at m1 m2 m3 k2 k7;unfold mV at w2;simp only[zAa]at w2;obtain⟨o1,o2,o3,o4⟩:=w2;have x1:=qd v1' (qc.1 o1).1;have x2:=qd w1' (qc.1 o2).1;refine nF ag5 ai (bE 10288103811422702062414200620061432020622020624102881038114227020624142006200614320206220206244200620066300220056322006) (R:=λQ=>(λ(Y Z u1 u5:Bool)(P T U u0 u2 u3 u4 u6 u7 u8:Int)(A B F I N O:List UInt8)(V W uc:Prop)=>(λ(ud ue uf ug:Bool)(u9:Int)=>(λ(ua ub uh:Bool)(ui:Prop)=>(λ(C E:Bool)=>(λ(G H:Prop)=>(λ(uj:Prop->Prop->Prop)=>ud/\af .i64 P/\not (aa (bW Y u1 F P T A B u2 u3 u4) 0)=false/\π I.length 1000/\af .i64 U/\not (aa (bW Z u5 I U u0 N O u6 u7 u8) 0)=false/\wa Y u1 F P T A B u2 u3 u4/\wa Z u5 I U u0 N O u6 u7 u8/\(uh->(C->uj C (ua=false/\ui))/\(G->uj G (ua/\V)))/\(uh=false->(E->uj E (ub=false/\ui))/\(H->uj H (ub/\V)))) (λuk ul=>uk/\uk/\uk/\uk/\uk/\uk/\ul)) (C=false) (E=false)) (not ua) (not ub)) (aa u9 0) (aa (IntKind.wrap .i64 u9) 0) (af .i64 u9) ((ue->V)/\(ue=false->fL Y u1 F P T A B u2 u3 u4/\fL Z u5 I U u0 N O u6 u7 u8/\(uf->V)/\(uf=false->(all->all/\all/\ud/\π A.length 1000/\π B.length 1000/\all/\all/\(ug->V)/\(ug=false->uc))/\(W->W/\W/\W/\W/\uc))))) (π F.length 1000) (not (aa (dq A B) (dq N O))) (not (ab (aP Y F P A B) (aP Z I U N O))) (aa (bI (cK F T A B)) 0) (Int.mul (bI (eX F T A B)) (bI (eX I u0 N O)))) (Da.ng ⟨ng,lg,s,e,g,mo,da,a,b,c⟩) (Da.ng ⟨ng',lg',s',e',g',mo',da',a',b',c'⟩) (Da.lg ⟨ng,lg,s,e,g,mo,da,a,b,c⟩) (Da.lg ⟨ng',lg',s',e',g',mo',da',a',b',c'⟩) (Da.e ⟨ng,lg,s,e,g,mo,da,a,b,c⟩) (Da.g ⟨ng,lg,s,e,g,mo,da,a,b,c⟩) (Da.e ⟨ng',lg',s',e',g',mo',da',a',b',c'⟩) (Da.g ⟨ng',lg',s',e',g',mo',da',a',b',c'⟩) (Da.a ⟨ng,lg,s,e,g,mo,da,a,b,c⟩) (Da.b ⟨ng,lg,s,e,g,mo,da,a,b,c⟩) (Da.c ⟨ng,lg,s,e,g,mo,da,a,b,c⟩) (Da.a ⟨ng',lg',s',e',g',mo',da',a',b',c'⟩) (Da.b ⟨ng',lg',s',e',g',mo',da',a',b',c'⟩) (Da.c ⟨ng',lg',s',e',g',mo',da',a',b',c'⟩) (Da.mo ⟨ng,lg,s,e,g,mo,da,a,b,c⟩) (Da.da ⟨ng,lg,s,e,g,mo,da,a,b,c⟩) (Da.s ⟨ng,lg,s,e,g,mo,da,a,b,c⟩) (Da.s ⟨ng',lg',s',e',g',mo',da',a',b',c'⟩) (Da.mo ⟨ng',lg',s',e',g',mo',da',a',b',c'⟩) (Da.da ⟨ng',lg',s',e',g',mo',da',a',b',c'⟩) (Q (.a .i64 10)) (all=false) (Q (.a .i64 0))) (λ_=>by kernel_rfl) λQ' hQ=>?_;try dsimp only
     rw[h7,k7,o1,o2,show Int.mul (bI true) (bI true)=1 from rfl];rw[(qc.1 o1).1];simp only[l1,l2,l3,h2,m1,m2,m3,k2,v1',w1',x1,x2,o3,o4,show aa 0 0=true from rfl,show aa 1 0=false from rfl,show aa (bI true) 0=false from rfl,show af .i64 1=true from rfl,zAi,true_and,and_true,true_imp_iff,reduceCtorEq,false_imp_iff];grind
 grind
theorem afq:ak Tryz.prog cfg Gw:=ajQ (anF aW)
theorem ao5{L:List It}(h:nI k ea la L):cu Tryz.prog (cH cfg Gw) (Cw cfg [.a (dp L) false none]) (lb 59 0) 156 [1,7] (Dm L k ea la):=by
 have hw:=@dT L;intro vs o t Q hv hq J;unfold Dm at hv;split at hv
 . rename_i i z2 z1 k1 m K1 ea1 la1;cases hv;replace hq:=cO hq;obtain⟨⟨h1,h2,h3,h4,h5,h6,h7,-⟩,hq⟩:=hq;rw[aJ]at h1;rw[ao]at h4 h5;replace h6:=yl h6;replace h7:=yl h7;subst h1 h4 h5 h6 h7;simp only[aH,Tr.wp]at hq;have hn2:=h.n2;refine ia afq rfl rfl ai (ι:={i:Nat // i<=L.length}) (λx=>[.g 15 0,.a .i64 (ν x.1)]) (λ_=>⟨3,[.a z2 true none,.a z1 true none,.a (fS k1 (.c 14 0 L.length K1) ea1 la1) true none],[]⟩) (λx=>L.length-x.1) 3 (λ_=>Nat.le_refl _) (λx J=>?_) (Nat.le_refl _) (λJ=>Wk.a0 ⟨⟨0,Nat.zero_le _⟩,J,rfl⟩) J;obtain⟨i,hi⟩:=x;dsimp only;refine jJ (bE 11200668812003035331002022812140203702062420245522702240331256302003152081214000302202062405203002488120030353310020228121402037020624202403020031023553303103022081214302302202062457324242270224022400200566277777770040) (R:=λQ=>(λ(uk ul:cD)(A G H U V uj:AV)(Y uh:Int)(ui:Nat)(B C u6:Prop)=>(λ(ur:cD)(un:AV)(N um:Bool)(up us:Int)(uq:List AV)(uo:Nat)=>(λ(ut:AV)(I u7 u8 uv:Bool)(uu:Nat)(W:Prop)=>(λ(uw:AV)(O u9:Bool)(ux:Nat)(P uy:Prop)=>(λ(uz:AV)(u0:List UInt8)(uA:Nat)(Z:Prop)=>(λ(uB:AV)(ua:Int)(uC:Nat)=>(λ(uD:AV)(u1:Int)(uE:Nat)=>(λ(uF:AV)(u2:List UInt8)(uG:Nat)=>(λ(uH:AV)(u3:List UInt8)(uI:Nat)=>(λ(uJ:AV)(uL:Bool)(ub:Int)(uK:Nat)=>(λ(uM:AV)(uc:Int)(uN:Nat)=>(λ(uO:AV)(ud:Int)(uP:Nat)=>(λ(uQ:AV)(T ue:Bool)(uR:Nat)=>(λ(uS:AV)(E:Bool)(uT:Nat)(uf:Prop)=>(λ(uU:AV)(uV:Nat)(F:Prop)=>(λ(uW:AV)(uX:Nat)=>(λ(uY:AV)(uZ:Nat)=>(λ(v0:AV)(v1:Nat)=>(λ(v2:AV)(v3:Nat)=>(λ(v4:AV)(v5:Nat)=>(λ(v6 v7:AV)=>(λ(u4 u5:Prop)=>(λ(ug:Prop)=>(λ(v8:Prop)=>(λ(v9:Prop->Prop)=>(um->aS i L.length/\Sn un/\Sn ut/\Iq uw/\eB .i64 uz/\eB .i64 uB/\Iq uD/\Iq uF/\eB .u8 uH/\eB .u8 uJ/\eB .u8 uM/\Sn uO/\Sn uQ/\Sn uS/\Iq uU/\eB .i64 uW/\eB .i64 uY/\Iq v0/\Iq v2/\eB .u8 v4/\eB .u8 v6/\eB .u8 v7/\aap (cond (aa k1 4) 4 3) (It.mk (Da.mk u7 u9 u0 ua u1 u2 u3 ub uc ud) T (Da.mk (KK uQ) (KK uS) (C9 uU) (dx uW) (dx uY) (C9 v0) (C9 v2) (dx v4) (dx v6) (dx v7)))/\(ea1->ea1/\ea1/\(B->v9 ((N->N/\(O->O/\uy/\O/\N/\O/\(E->E/\E/\ue/\E/\uf/\O/\P/\ug)/\(F->F/\F/\F/\T/\O/\P/\u4))/\(Z->Z/\Z/\Z/\Z/\I/\u4))/\(W->W/\u8/\W/\v8)))/\(C->C/\C/\C/\C/\C/\C/\(N->N/\uy/\N/\(E->E/\E/\ue/\E/\uf/\ug)/\(F->F/\F/\F/\T/\u4))/\(W->W/\u8/\W/\u5)))/\(u6->u6/\u6/\(B->v9 v8)/\(C->C/\C/\C/\C/\C/\C/\u5)))/\(um=false->Q (.b 0,uq,⟨3,[uk,ul,ur],[]⟩))) (λva=>B/\B/\B/\B/\uv/\B/\B/\va)) ((I->I/\I/\(E->E/\E/\ue/\E/\I/\uf/\I/\ug)/\(F->F/\F/\F/\I/\T/\I/\u4))/\(P->P/\P/\P/\P/\u5))) ((uL->u4)/\(uL=false->u5))) (Q (.c,uq,⟨4,[.a [.b u7,.b u9,.e u0,.a .i64 ua,.a .i64 u1,.e u2,.e u3,.a .u8 ub,.a .u8 uc,.a .u8 ud,.b T,.b (KK uQ),.b (KK uS),.e (C9 uU),.a .i64 (dx uW),.a .i64 (dx uY),.e (C9 v0),.e (C9 v2),.a .u8 (dx v4),.a .u8 (dx v6),.a .u8 (dx v7)] true none,uk,ul,ur],[]⟩)) (af .i64 us/\Q (.a,[uj,.a .i64 us],⟨4,[.a [.b u7,.b u9,.e u0,.a .i64 ua,.a .i64 u1,.e u2,.e u3,.a .u8 ub,.a .u8 uc,.a .u8 ud,.b T,.b (KK uQ),.b (KK uS),.e (C9 uU),.a .i64 (dx uW),.a .i64 (dx uY),.e (C9 v0),.e (C9 v2),.a .u8 (dx v4),.a .u8 (dx v6),.a .u8 (dx v7)] true none,uk,ul,ur],[]⟩))) (ο (dp L) v5 A) (ο (dp L) (ξ v5 1) A)) (ο (dp L) v3 A) (ξ v3 1)) (ο (dp L) v1 A) (ξ v1 1)) (ο (dp L) uZ A) (ξ uZ 1)) (ο (dp L) uX A) (ξ uX 1)) (ο (dp L) uV A) (ξ uV 1)) (ο (dp L) uT A) (ξ uT 1) (E=false)) (ο (dp L) uR A) (not T) (ξ uR 1) (T=false)) (ο (dp L) uP A) (KK uO) (wa u7 u9 u0 ua u1 u2 u3 ub uc ud) (ξ uP 1)) (ο (dp L) uN A) (dx uM) (ξ uN 1)) (ο (dp L) uK A) (dx uJ) (ξ uK 1)) (ο (dp L) uI A) (aa (bI (eX u0 u1 u2 u3)) 0) (dx uH) (ξ uI 1)) (ο (dp L) uG A) (C9 uF) (ξ uG 1)) (ο (dp L) uE A) (C9 uD) (ξ uE 1)) (ο (dp L) uC A) (dx uB) (ξ uC 1)) (ο (dp L) uA A) (dx uz) (ξ uA 1)) (ο (dp L) ux A) (C9 uw) (ξ ux 1) (O=false)) (ο (dp L) uu A) (not I) (KK ut) (ξ uu 1) (I=false) (u8=false)) (ο (dp L) uo A) (aa Y up) (KK un) (not N) (af .i64 up) (ξ uo 1) (N=false)) (.a [.a .u8 k1,U,U,H,V,V,H,H,G,G,G,G,U,U,H,V,V,H,H,G,G,G,G,U,U,H,V,V,H,H,G,G,G,.c 14 0 L.length K1,.b ea1,.b la1] true none) (ο (dp L) ui A) (aa Y 0) (not (ab uh Y)) (Int.sub uh 1) (Int.add Y 1) [uj,.a .i64 Y] (ξ ui 1)) (.a z2 true none) (.a z1 true none) (.d []) (.a .u8 0) (.e []) (.b false) (.a .i64 0) (.g 15 0) (ν i) (ν L.length) (ξ 0 (HMul.hMul i 21)) la1 (la1=false) (ea1=false)) (λ_=>by kernel_rfl) λQ' hQ=>?_;try dsimp only
   by_cases hlt:i<L.length
   . have go:∀a:cD,Q' (AX.a,([.g 15 0,.a .i64 (Int.add (ν i) 1)],⟨4,[a,.a z2 true none,.a z1 true none,.a (fS k1 (.c 14 0 L.length K1) ea1 la1) true none],[]⟩)):=λa=>
      hQ _ ⟨⟨i+1,hlt⟩,by dsimp only;omega,ad6 (top:=[a]) (B:=[.a z2 true none,.a z1 true none,.a (fS k1 (.c 14 0 L.length K1) ea1 la1) true none]) hw rfl rfl (λx hx=>by
       simp only[List.mem_cons,List.not_mem_nil,or_false]at hx;rcases hx with rfl|rfl|rfl
       . exact aO (gj.1 h2)
       . exact aO (gj.1 h3)
       . exact⟨rfl,λi hi=>by simp[fS,HL,bw,aC]at hi;subst hi;show 14<14+1+3;omega⟩) rfl⟩
     clear hQ hq;have itk:=h.it i hlt;have he:ea1->i=0->aaD (L.getD i fP)=true:=λa b=>by subst b;exact h.he a
     have hl:la1->i=L.length-1->aaD (L.getD i fP)=true:=λa b=>by subst b;exact h.hl a
     obtain⟨f0,f1,f2,f3,f4,f5,f6,f7,f8,f9,f10,f11,f12,f13,f14,f15,f16,f17,f18,f19,f20⟩:=ac3 hlt;generalize L.getD i fP=x at *;have hva:=aeU itk;unfold dF at hva;have hk4:(bif aa k1 4 then(4:Int)else 3)=k1:=by
      have:=h.hk;rw[Bool.or_eq_true,ao,ao]at this;rcases this with rfl|rfl<;>rfl
     unfold fS at go;have j1:ab (ν L.length) (ν i)=false:=by rw[bF];simp only[Int.ofNat_eq_natCast];omega
     have j2:aS i L.length=true:=aU.2 hlt;have j3:af .i64 (Int.add (ν i) 1)=true:=by rw[aE];simp only[eH,eE];show _<=(i:Int)+1/\(i:Int)+1<=_;omega
     have j4:af .i64 (Int.sub (ν L.length) 1)=true:=by rw[aE];simp only[eH,eE];show _<=(L.length:Int)-1/\(L.length:Int)-1<=_;omega
     have kk:∀(a:IntKind) (n:Int),eB a (.a a n)=true:=λa n=>by cases a<;>rfl
     have ib:∀b:Bool,Sn (.b b)=true:=λ_=>rfl;have is:∀s:List UInt8,Iq (.e s)=true:=λ_=>rfl;have bo:∀b:Bool,KK (.b b)=b:=λ_=>rfl;have st:∀s:List UInt8,C9 (.e s)=s:=λ_=>rfl;have io:∀(a:IntKind) (n:Int),dx (.a a n)=n:=λ_ _=>rfl;have itk':aap k1 ⟨⟨x.f.ng,x.f.lg,x.f.s,x.f.e,x.f.g,x.f.mo,x.f.da,x.f.a,x.f.b,x.f.c⟩,x.r,⟨x.t.ng,x.t.lg,x.t.s,x.t.e,x.t.g,x.t.mo,x.t.da,x.t.a,x.t.b,x.t.c⟩⟩=true:=itk;simp only[f0,f1,f2,f3,f4,f5,f6,f7,f8,f9,f10,f11,f12,f13,f14,f15,f16,f17,f18,f19,f20,kk,ib,is,bo,st,io,j1,j2,j3,j4,hk4,itk',hva,zAi,true_and,and_true,true_imp_iff,reduceCtorEq,false_imp_iff];clear f0 f1 f2 f3 f4 f5 f6 f7 f8 f9 f10 f11 f12 f13 f14 f15 f16 f17 f18 f19 f20 itk itk';have e1:ea1->aa (ν i) 0->x.r=false/\aa (bI (eX x.f.s x.f.g x.f.mo x.f.da)) 0=false:=λa b=>by
      have:=he a (by rw[ao]at b;exact Int.ofNat.inj b);unfold aaD kZ at this;rw[zAa,Bool.not_eq_true']at this;rw[this.2];exact⟨this.1,rfl⟩
     have e2:la1->aa (ν i) (Int.sub (ν L.length) 1)->x.r=false/\aa (bI (eX x.f.s x.f.g x.f.mo x.f.da)) 0=false:=λa b=>by
      have:=hl a (by rw[ao]at b;have b:(i:Int)=(L.length:Int)-1:=b;omega);unfold aaD kZ at this;rw[zAa,Bool.not_eq_true']at this;rw[this.2];exact⟨this.1,rfl⟩
     have e3:ea1->la1->aa (ν i) 0->aa (ν i) (Int.sub (ν L.length) 1)->False:=λa b c d=>by
      have:=h.h1 a b;rw[ao]at c d;have c:(i:Int)=0:=c;have d:(i:Int)=(L.length:Int)-1:=d;omega
     clear he hl h hw hva hn2;generalize aa (bI (eX x.f.s x.f.g x.f.mo x.f.da)) 0=pl at *;generalize x.r=xr at *;generalize aa (ν i) 0=i0 at *;generalize aa (ν i) (Int.sub (ν L.length) 1)=il at *;cases ea1<;>cases la1<;>cases i0<;>cases il<;>simp only[true_imp_iff,reduceCtorEq,false_imp_iff]at e1 e2 e3<;>(try obtain⟨rfl,rfl⟩:=e1)<;>(try obtain⟨rfl,rfl⟩:=e2)<;>simp only[go,zAi,true_and,and_true,true_imp_iff,reduceCtorEq,false_imp_iff,implies_true,and_self]
   . obtain rfl:i=L.length:=by omega
     have j1:ab (ν L.length) (ν L.length)=true:=by rw[aq];exact Int.le_refl _
     simp only[j1,Bool.not_true,reduceCtorEq,false_imp_iff,true_and,true_imp_iff];exact hQ _ ⟨_,_,VW.a0,hq⟩
 . cases hv
theorem Qp{L:List It}(h:nI k ea la L):bu Tryz.prog cfg 59 [.h (fS k (.c 14 0 L.length K) ea la)] [.a (dp L) false none] (.d [.a .i64 0,.a .i64 0]) []:=by
 refine P0 afq (L:=Mp L k ea la) dT akf (by simp) (dv aiK λi hi e he st Q hw=>?_) (jJ (bE 17000230303030006620025566220062006220522062062200227022023317000230303030003030033003385200255662200620062205220620622032270220320240) (R:=λQ=>(λ(I:AV)(A B F:Bool)(H:Int)(C:Prop)=>(λ(E:Bool)(N:Prop)=>(λ(G:Prop)=>(λ(O:Prop->Prop)=>(E->E/\E/\F=false/\O (C/\B/\O (A/\A/\A/\A/\C/\C/\C/\C/\C/\C/\C/\C/\C/\N)))/\(G->G/\G/\F/\O (B/\O (A/\A/\A/\A/\N)))) (λu0=>B/\B/\B/\B/\A/\A/\A/\u0)) (E=false)) (not F) (aa k 1=false/\aa k 2=false/\aa H 0=false/\not (ab H 256)=false/\ς L.length L.length/\aa k k/\bQ ea ea/\bQ la la/\(∀J1:Nat->Value,Q (.d [I,I])))) (.a .i64 0) (not (aa k 2)) (not (aa k 1)) (aa k 3) (ν L.length) (not (aa k 4)=false)) (λ_=>by kernel_rfl) λQ' hQ=>?_) (by rfl)
 . have hi:i=0:=by grind
   subst hi;cases he;exact bR (cC.a0 afq) (by decide) rfl (ao5 h) hw
 . have hQ:=hQ _ rfl;have hk:=h.hk;have n1:=h.n1;have n2:=h.n2;have l2:aa (ν L.length) 0=false:=by grind [aw]
   have l3:ab (ν L.length) 256=true:=by grind [aq]
   have l4:∀b:Bool,bQ b b=true:=λb=>by cases b<;>rfl
   have l5:ς L.length L.length=true:=aJ.mpr rfl;try dsimp only
   rw[Bool.or_eq_true,ao,ao]at hk;rcases hk with rfl|rfl
   . simp only[l2,l3,l4,l5,show aa 3 3=true from rfl,show aa 3 1=false from rfl,show aa 3 2=false from rfl,show aa 3 4=false from rfl,zAi,true_and,and_true,true_imp_iff,reduceCtorEq,false_imp_iff];grind
   . simp only[l2,l3,l4,l5,show aa 4 3=false from rfl,show aa 4 1=false from rfl,show aa 4 2=false from rfl,show aa 4 4=true from rfl,zAi,true_and,and_true,true_imp_iff,reduceCtorEq,false_imp_iff];grind
theorem ak3:ak Tryz.prog cfg NN:=by
 refine bm aW (fW eb.lv Az λargs ws t r he hr=>?_);unfold Lr at he;split at he
 . cases he;replace hr:=aF hr;obtain⟨⟨h1,-⟩,hr⟩:=hr;obtain⟨L,rfl,rfl,hs⟩:=rd.1 h1;cases hr;exact⟨Qp hs,λx hx=>by grind⟩
 grind
theorem Qo{L:List It}(h:nI k ea la L):bu Tryz.prog cfg 14 [.h (fS k (.c 14 0 L.length K) ea la)] [.a (dp L) false none] (.a .i64 0) []:=by
 refine ns ak3 dT ai (bE 1226666) (R:=λQ=>(λ(A:Nat)=>(λ(B:List AV)=>and true (and (π (ξ 0 A) (dp L).length) (bc 14 B))/\abk B L.length k ea la/\Q (.a .i64 0)) (b_ (dp L) 0 A)) (HMul.hMul L.length 21)) (λ_=>by rfl) λQ' hQ=>?_;grind [rd,qi,lU,al,lh]
theorem anl(hS:ak Tryz.prog cfg S):ak Tryz.prog cfg (eQ S 14 (fl 14 [21] sI)):=by
 refine bm hS (fW eb.lv Az λargs ws t r he hr=>?_);unfold sI at he;split at he
 . cases he;replace hr:=aF hr;obtain⟨⟨h1,-⟩,hr⟩:=hr;obtain⟨L,rfl,rfl,hs⟩:=rd.1 h1;cases hr;exact⟨Qo hs,λx hx=>by grind⟩
 grind
end Go.Ev
