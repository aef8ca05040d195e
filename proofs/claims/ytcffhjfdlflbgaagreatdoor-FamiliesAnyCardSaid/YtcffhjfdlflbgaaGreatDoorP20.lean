import Derived.Test.YtcffhjfdlflbgaaGreatDoorP19
set_option linter.all false
open Int renaming add->ν,sub->ξ
set_option linter.all false
set_option maxRecDepth 100000
set_option maxHeartbeats 4000000
namespace Go.Ev
open Go Go.Proofs Go.Proofs.YtcffhjfdlflbgaaGreatDoor
def RH:dW:=λ
 | [.e [c0,c1],.a .i64 g,.a .i64 n,.b r],⟨0,[],[]⟩=>some (aH [aa n 1,bQ r false,ab 0 g,ab g 99] (.d0 (eW [c0,c1] g.toNat) λb=>bif b then .f0 λJ=>.a0 (.c,[.e [c0,c1],.a .i64 g,.j (J 0),.b true],dO)else .a0 (.b 0,[.e [c0,c1],.a .i64 g,.a .i64 (ν g 1),.b false],dO)))
 | _,_=>none
def Vq:cx:=iz jE 0 (d9 46 [0,1,5,4] RH)
def V9:dP:=λ
 | [.e s,.a .i64 g]=>some (aH [ab 0 g,ab g 99] (.a0 (.b (eW s g.toNat))))
 | _=>none
def Xq:dP:=λ
 | [.h [.b ng,.b lg,.e s,.a .i64 e,.a .i64 g,.e mo,.e da,.a .u8 a,.a .u8 b,.a .u8 c]]=>some (.a0 (.a .i64 (dq mo da)))
 | _=>none
def Xy:dP:=λ
 | [.h [.a .u8 a,.a .u8 b,.a .u8 c],.a .i64 n]=>some (aH [af .u8 a,af .u8 b,af .u8 c,ab 1 n,ab n 3] (.a0 (.a .i64 (errMk a b c n))))
 | _=>none
def FY:aQ:=d5 (d5 (d5 Zg 169 V9) 171 Xq) 170 Xy
theorem GQ:ec tab 169=some (dH 169,aL 169):=by rfl
theorem Dn:(bz (aL 169)).map (·.1)=[0]:=by rfl
theorem ST{C:bg}{kb tn:Nat}{rel:List Nat}{vs vs' vs'':List AV}{o o' o'':aB}(h1:VW cfg C kb tn rel vs o vs' o')(h2:VW cfg C kb tn rel vs' o' vs'' o''):VW cfg C kb tn rel vs o vs'' o'':=λJ=>(h1 J).c0 λs ⟨J',e⟩=>by rw[e];exact h2 J'
theorem Lo{tn:Nat}{rel:List Nat}{vs vs':List AV}{o:aB}(hle:o.le=[])(hvs:yw (kG 14 [] 20) vs=some vs'):VW cfg (Cw cfg []) 0 tn rel vs o vs' dO:=
 VW.d0 eb.lv (C:=Cw cfg []) (kb:=0) (sel:=[]) zW (Nat.zero_le _) (λs hs=>by grind) List.nodup_nil (λp hp=>by grind) hle.symm rfl rfl (λi hi=>absurd hi (Nat.not_lt_zero i)) (λt ht=>absurd ht (Nat.not_lt_zero t)) hvs
theorem LP{c0 c1:UInt8}{n:Int}:agr [c0,c1] n=true↔(c0.toNat=88\/(c0.toNat:Int)=48+n/10)/\(c1.toNat=88\/(c1.toNat:Int)=48+n%10):=by
 grind [agr,ad7]
theorem P6:cu Tryz.prog (cH cfg Zg) (Cw cfg []) (lb 169 0) 46 [0,1,5,4] RH:=by
 intro vs o t Q hv hq J;unfold RH at hv;split at hv
 . rename_i c0 c1 g n r;cases hv;obtain⟨h1,hq1⟩:=cZ hq;obtain⟨h2,hq2⟩:=cZ hq1;obtain⟨h3,hq3⟩:=cZ hq2;obtain⟨h4,hq4⟩:=cZ hq3;clear hq hq1 hq2 hq3;rw[ao]at h1;rw[Jl]at h2;rw[aq]at h3 h4;subst h1 h2;have hq:Tr.wp Q (bif eW [c0,c1] g.toNat then .f0 λJ=>.a0 (.c,[.e [c0,c1],.a .i64 g,.j (J 0),.b true],dO)else .a0 (.b 0,[.e [c0,c1],.a .i64 g,.a .i64 (g+1),.b false],dO)):=hq4;refine ia nt rfl rfl ai (ι:={i:Nat // i<=g.toNat/\∀k,k<i->agr [c0,c1] ((k:Int)+1)=false}) (λx=>[.e [c0,c1],.a .i64 g,.a .i64 ((x.1:Int)+1),.b false]) (λ_=>dO) (λx=>g.toNat-x.1) 0 (λ_=>Nat.le_refl _) (λx J=>?_) (Nat.le_refl _) (λJ=>Wk.a0 ⟨⟨0,Nat.zero_le _,λk hk=>absurd hk (Nat.not_lt_zero k)⟩,J,rfl⟩) J;obtain⟨i,hi,hp⟩:=x;dsimp only;refine jJ (bE 110020381214030202002002400523812033058107381214232202002002422002432020020024000220704) (R:=λQ=>(λ(N O u0 u2:AV)(I W Y Z u1:Int)=>(λ(H U:Bool)(P T:Int)=>(λ(A C E u4:Bool)(V u3 u5:Prop)=>(λ(B F G u6:Prop)=>(ab ((i:Int)+1) g->af .i64 I/\af .u8 I/\af .u8 P/\af .u8 W/\af .u8 T/\(E->E/\E/\E/\E/\U=false/\(C->C/\C/\C/\(A->A/\A/\A/\A/\C/\u3/\C/\u6)/\(B->B/\B/\B/\B/\C/\H/\C/\V))/\(F->F/\F/\F/\F/\F/\u5))/\(G->G/\G/\G/\G/\U/\(A->A/\A/\A/\A/\u3/\u6)/\(B->B/\B/\B/\B/\H/\V)))/\(ab ((i:Int)+1) g=false->Q (.b 0,[N,O,u0,u2],⟨0,[],[]⟩))) (A=false) (C=false) (E=false) ((u4->V)/\(u4=false->u5))) (not H) (aa Y P) (not U) (aa Z T) (Q (.c,[N,O,u0,.b true],⟨1,[.a [.a .u8 P,.a .u8 T] true none],[]⟩)) (H=false) (af .i64 u1/\Q (.a,[N,O,.a .i64 u1,u2],⟨1,[.a [.a .u8 P,.a .u8 T] true none],[]⟩))) (aa Z 88) (aa Y 88) (ν 48 I) (ν 48 W)) (.e [c0,c1]) (.a .i64 g) (.a .i64 ((i:Int)+1)) (.b false) (Int.tdiv ((i:Int)+1) 10) (Int.tmod ((i:Int)+1) 10) (Int.ofNat c0.toNat) (Int.ofNat c1.toNat) (ν ((i:Int)+1) 1)) (λ_=>by rfl) λQ' hQ=>?_;try dsimp only
   have t1:((i:Int)+1).tdiv 10=((i:Int)+1)/10:=Int.tdiv_eq_ediv_of_nonneg (by omega);have t2:((i:Int)+1).tmod 10=((i:Int)+1)%10:=Int.tmod_eq_emod_of_nonneg (by omega);have yes:i<g.toNat->agr [c0,c1] ((i:Int)+1)->Q' (.c,[.e [c0,c1],.a .i64 g,.a .i64 ((i:Int)+1),.b true],⟨1,[.a [.a .u8 (48+((i:Int)+1)/10),.a .u8 (48+((i:Int)+1)%10)] true none],[]⟩):=λh ha=>by
    rw[Ob h ha,cond_true]at hq;exact hQ (.c,_,_) ⟨_,_,ST (Lo rfl rfl) (VW.c0 (.a0 (.a0 (.b0 (.a0 .c0)))) rfl),hq (jv [_])⟩
   have no:i<g.toNat->¬agr [c0,c1] ((i:Int)+1)->Q' (.a,[.e [c0,c1],.a .i64 g,.a .i64 ((i:Int)+1+1),.b false],⟨1,[.a [.a .u8 (48+((i:Int)+1)/10),.a .u8 (48+((i:Int)+1)%10)] true none],[]⟩):=λh ha=>
    hQ (.a,_,_) ⟨⟨i+1,by omega,λk hk=>by
     grind⟩,by grind,Lo rfl rfl⟩
   have fin:¬i<g.toNat->Q' (.b 0,[.e [c0,c1],.a .i64 g,.a .i64 ((i:Int)+1),.b false],dO):=λh=>by
    obtain rfl:i=g.toNat:=by omega
    rw[GB.2 hp,cond_false]at hq;exact hQ (.b 0,_,_) ⟨_,_,VW.b0 (by grind) rfl,hq⟩
   rw[LP]at yes no;clear hQ hq hq4 hp;rw[t1,t2];simp only[az,reduceCtorEq]
   (repeat' first|exact trivial|refine⟨?_,?_⟩|intro)<;>first|omega|exact fin (by omega)|exact yes (by omega) (by omega)|exact no (by omega) (by omega)
 . cases hv
theorem SJ:ak Tryz.prog cfg FY:=by
 refine au (au (au nt λargs t v he hv=>?_) λargs t v he hv=>?_) λargs t v he hv=>?_
 . unfold V9 at he;split at he
   . rename_i s g;cases he;obtain⟨⟨h1,h2,-⟩,hv⟩:=aF hv;rw[aq]at h1 h2;cases hv;by_cases hs:s.length=2
     . match s,hs with
       | [c0,c1],_=>
         refine kA nt (L:=Vq) GQ (by simp) (dv Dn λi hi e he st Q hw=>?_) (jJ (bE 11422000) (R:=λQ=>(λ(A:Bool)=>ab 0 g/\ab g 99/\(A->(∀J1 J2:Nat->Value,Q (.b true)))/\(A=false->(∀J1:Nat->Value,Q (.b false)))) (eW [c0,c1] g.toNat)) (λ_=>by rfl) λQ' hQ=>?_) (by rfl)
         . have hi:i=0:=by grind
           subst hi;cases he;exact bR (cC.a0 nt) (by decide) rfl P6 hw
         . try dsimp only
           have fin:∀b:Bool,b=eW [c0,c1] g.toNat->Q' (.b b):=λb h=>hQ _ (by rw[h]);clear hQ;generalize eW [c0,c1] g.toNat=sa at *;simp only[az,reduceCtorEq];grind
     . refine kA nt (L:=Vq) GQ (by simp) (dv Dn λi hi e he st Q hw=>?_) (jJ (.t .z) (R:=λQ=>not (aa (Int.ofNat s.length) 2)/\Q (.b false)) (λ_=>by rfl) λQ' hQ=>?_) (by rfl)
       . have hi:i=0:=by grind
         subst hi;cases he;exact bR (cC.a0 nt) (by decide) rfl P6 hw
       . have sn:eW s g.toNat=false:=GB.2 λk hk=>by grind [agr]
         simp_all [az];omega
   grind
 . unfold Xq at he;split at he
   . rename_i ng lg s e g mo da a b c;cases he;cases hv;refine jD nt ai (bE 1001000405100100040054005) (R:=λQ=>(λ(A B:Bool)(C:Prop)=>(λ(E:Prop)=>(B->(A->Q (.a .i64 3))/\(E->C))/\(B=false->(A->C)/\(E->Q (.a .i64 1)))) (A=false)) (not (ae da [])) (not (ae mo [])) (Q (.a .i64 2))) (λ_=>by rfl) λQ' hQ=>?_;grind [dq]
   grind
 . unfold Xy at he;split at he
   . rename_i a b c n;cases he;obtain⟨⟨h1,h2,h3,h4,h5,-⟩,hv⟩:=aF hv;rw[aE]at h1 h2 h3;simp only[eH,eE]at h1 h2 h3;rw[aq]at h4 h5;cases hv;refine jD nt ai (bE 1530310014020245164000530310014020225164051402024516400053033516400053322) (R:=λQ=>(λ(B C H I N O P T:Bool)(A E U:Prop)=>(λ(V:Bool)(F G W Y:Prop)=>V/\V/\H=false/\not (ab n 3)=false/\(I->A)/\(I=false->E/\E/\E/\(N->A)/\(N=false->(C->C/\C/\(O->A)/\(O=false->(P->A)/\(W->B/\Y)))/\(F->F/\F/\(P->A)/\(W->(B->Y)/\(G->G/\G/\U)))))) (not H) (C=false) (B=false) (P=false) (B/\B/\(T->A)/\(T=false->U))) (ab n 2) (ab n 1) (not (ab 1 n)) (not (ab a 3)) (not (ab b 3)) (not (aa b 0)) (not (ab c 3)) (not (aa c 0)) (Q (.a .i64 9)) (ab n 0=false) (Q (.a .i64 0))) (λ_=>by rfl) λQ' hQ=>?_;try dsimp only
     have fin:∀v:Int,v=errMk a b c n->Q' (.a .i64 v):=λv h=>hQ _ (by rw[h]);clear hQ;unfold errMk at fin;simp only[az,reduceCtorEq];grind
   grind
def iE(y:Int):Int:=lp y
def bf(y:Int):Int:=yst y
def qU(y:Int):Int:=before y
def dc(a b:Int):Int:=a/b
def d8(a b:Int):Int:=a%b
def UM:dP:=λ
 | [.a .i64 a,.a .i64 b]=>some (aH [af .i64 a,ab 2 b,ab b 200000] (.a0 (.d [.a .i64 (dc a b),.a .i64 0])))
 | _=>none
def WC:dP:=λ
 | [.a .i64 a,.a .i64 b]=>some (aH [af .i64 a,ab 2 b,ab b 200000] (.a0 (.d [.a .i64 (d8 a b),.a .i64 0])))
 | _=>none
def Z8:aQ:=d5 (d5 gZ 283 UM) 284 WC
def IM(y:Int):Bool:=ab (-20000000000000000) y&&ab y 20000000000000000
def VO:dP:=λ
 | [.a .i64 y]=>some (aH [IM y] (.a0 (.a .i64 (qU y))))
 | _=>none
def Vr:dP:=λ
 | [.a .i64 y]=>some (aH [IM y] (.a0 (.a .i64 (bf y))))
 | _=>none
def Hd:aQ:=d5 Z8 337 VO
def He:aQ:=d5 Hd 287 Vr
theorem Lx{a b:Int}(hb:0<b):(a.tmod b<0->a.tdiv b-1=dc a b/\a.tmod b+b=d8 a b)/\(0<=a.tmod b->a.tdiv b=dc a b/\a.tmod b=d8 a b)/\-b<a.tmod b/\a.tmod b<b/\(a.tmod b<0->a<0)/\(0<a.tmod b->0<a):=by
 have e:=tq_cases a b hb;have h1:=Int.lt_tmod_of_pos a hb;have h2:=Int.tmod_lt_of_pos a hb;have h3:0<=a->0<=a.tmod b:=λh=>Int.tmod_nonneg b h;have h4:a<=0->a.tmod b<=0:=λh=>by
  have:=Int.tmod_nonneg b (show 0<=-a by omega);simp_all
 grind [dc,d8]
theorem Ja:ak Tryz.prog cfg Z8:=by
 refine au (au aW λargs t v he hv=>?_) λargs t v he hv=>?_
 . unfold UM at he;split at he
   . rename_i a b;cases he;obtain⟨⟨h1,h2,h3,-⟩,hv⟩:=aF hv;rw[aE]at h1;rw[aq]at h2 h3;simp only[eH,eE]at h1;cases hv;refine jD aW ai (bE 1033811144227421033811144227424233) (R:=λQ=>(λ(C:AV)(A F G:Bool)(E:Int)=>(λ(N:Bool)(H T:Int)(B O P:Prop)=>(λ(U:Bool)(I:Int)(V:Prop)=>(λ(W:Bool)=>aa b 0=false/\aa b (Neg.neg 1)=false/\F/\(N->F/\(A->A/\A/\A/\A/\A/\(G->(U->Q (.d [.a .i64 H,C]))/\(U=false->Q (.d [.a .i64 (IntKind.wrap .i64 H),C])))/\(O->P))/\(B->B/\B/\B/\B/\B/\P))/\(N=false->F/\(A->A/\A/\A/\A/\A/\(G->(W->Q (.d [.a .i64 I,C]))/\(W=false->Q (.d [.a .i64 (IntKind.wrap .i64 I),C])))/\(O->V))/\(B->B/\B/\B/\B/\B/\V))) (af .i64 I)) (af .i64 H) (ξ T 1) (Q (.d [.a .i64 T,C]))) (af .i64 E) (ξ E 1) (IntKind.wrap .i64 E) (A=false) (G=false) (Q (.d [.a .i64 E,C]))) (.a .i64 0) (not (aa (Int.tmod a b) 0)) (not (aa b 0)) (not (bQ (not (ab 0 a)) (not (ab 0 b)))) (Int.tdiv a b)) (λ_=>by rfl) λQ' hQ=>?_;try dsimp only
     obtain⟨k1,k2,k3,k4,k5,k6⟩:=@Lx a b (by omega);have tb:=tdiv_bd a b h2 h1.1 h1.2;have w:IntKind.wrap .i64 (a.tdiv b)=a.tdiv b:=Bx .i64 _ (by grind [eH]) (by grind [eE]);have fin:∀n:Int,n=dc a b->Q' (.d [.a .i64 n,.a .i64 0]):=λn h=>hQ _ (by rw[h]);clear hQ;have e0:ab 0 b=true:=aq.mpr (by omega);simp only[w,e0,Bool.not_true];generalize a.tdiv b=q at *;generalize a.tmod b=r at *;simp only[az,reduceCtorEq];grind
   grind
 . unfold WC at he;split at he
   . rename_i a b;cases he;obtain⟨⟨h1,h2,h3,-⟩,hv⟩:=aF hv;rw[aE]at h1;rw[aq]at h2 h3;simp only[eH,eE]at h1;cases hv;refine jD aW ai (bE 10338111442274233) (R:=λQ=>(λ(E:AV)(C:Int)=>(λ(A G:Bool)(F:Int)(H:Prop)=>(λ(I:Bool)(B:Prop)=>aa b 0=false/\aa b (Neg.neg 1)=false/\not (aa b 0)/\(A->A/\A/\A/\A/\A/\(G->(I->Q (.d [.a .i64 F,E]))/\(I=false->Q (.d [.a .i64 (IntKind.wrap .i64 F),E])))/\(G=false->H))/\(B->B/\B/\B/\B/\B/\H)) (af .i64 F) (A=false)) (not (aa C 0)) (not (bQ (not (ab 0 C)) (not (ab 0 b)))) (ν C b) (Q (.d [.a .i64 C,E]))) (.a .i64 0) (Int.tmod a b)) (λ_=>by rfl) λQ' hQ=>?_;try dsimp only
     obtain⟨k1,k2,k3,k4,k5,k6⟩:=@Lx a b (by omega);have fin:∀n:Int,n=d8 a b->Q' (.d [.a .i64 n,.a .i64 0]):=λn h=>hQ _ (by rw[h]);clear hQ;have e0:ab 0 b=true:=aq.mpr (by omega);simp only[e0,Bool.not_true];generalize a.tdiv b=q at *;generalize a.tmod b=r at *;simp only[az,reduceCtorEq];grind
   grind
theorem MK:ak Tryz.prog cfg Hd:=by
 refine au Ja λargs t v he hv=>?_
 . unfold VO at he;split at he
   . rename_i y;cases he;obtain⟨h1,hv⟩:=eL hv;unfold IM at h1;rw[zAa,aq,aq]at h1;cases hv;refine jD Ja ai (bE 100100410010044000200200051001004100100440002002000541001004100100440002002000510010041001004400020020005440002002000510010041001004400020020005100100410010044000200200054100100410010044000200200051001004100100440002002000544000200200054100100410010044000200200051001004100100440002002000541001004100100440002002000510010041001004400020020005440002002000510010041001004400020020005100100410010044000200200054100100410010044000200200051001004100100440002002000544000200200054400020020005) (R:=λQ=>(λ(I:Int)=>(λ(A:Bool)(B G u3:Int)=>(λ(C H uA:Bool)(E N O P:Int)=>(λ(uB uD:Bool)(T V W Y uC uE:Int)(F U:Prop)=>(λ(uF uH uJ uL:Bool)(Z u0 u1 u2 u4 u5 u6 u7 u8 u9 ua ub uG uI uK uM:Int)=>(λ(uN uO uP uQ uR uT uV uW uX uY uZ v1:Bool)(uc ud ue uf ug uh ui uj uk ul um un uo up uq ur uS uU v0 v2:Int)=>(λ(v3 v4 v5 v6 v7 v8 v9 va vb vc vd ve vf vg vh vi:Bool)(us ut uu uv uw ux uy uz:Int)=>(λ(vj vk vl vm vn vo vp vq:Bool)=>(λ(vr:Prop->Prop)=>vr ((uA->(uB->vr ((H->(uF->vr ((C->(uN->Q (.a .i64 u4))/\(uN=false->Q (.a .i64 (IntKind.wrap .i64 u4))))/\(F->(uO->Q (.a .i64 u5))/\(uO=false->Q (.a .i64 (IntKind.wrap .i64 u5))))))/\(uF=false->vr ((C->(v3->Q (.a .i64 uc))/\(v3=false->Q (.a .i64 (IntKind.wrap .i64 uc))))/\(F->(v4->Q (.a .i64 ud))/\(v4=false->Q (.a .i64 (IntKind.wrap .i64 ud)))))))/\(U->(uH->vr ((C->(uP->Q (.a .i64 u6))/\(uP=false->Q (.a .i64 (IntKind.wrap .i64 u6))))/\(F->(uQ->Q (.a .i64 u7))/\(uQ=false->Q (.a .i64 (IntKind.wrap .i64 u7))))))/\(uH=false->vr ((C->(v5->Q (.a .i64 ue))/\(v5=false->Q (.a .i64 (IntKind.wrap .i64 ue))))/\(F->(v6->Q (.a .i64 uf))/\(v6=false->Q (.a .i64 (IntKind.wrap .i64 uf)))))))))/\(uB=false->vr ((H->(uR->vr ((C->(v7->Q (.a .i64 ug))/\(v7=false->Q (.a .i64 (IntKind.wrap .i64 ug))))/\(F->(v8->Q (.a .i64 uh))/\(v8=false->Q (.a .i64 (IntKind.wrap .i64 uh))))))/\(uR=false->vr ((C->(vj->Q (.a .i64 us))/\(vj=false->Q (.a .i64 (IntKind.wrap .i64 us))))/\(F->(vk->Q (.a .i64 ut))/\(vk=false->Q (.a .i64 (IntKind.wrap .i64 ut)))))))/\(U->(uT->vr ((C->(v9->Q (.a .i64 ui))/\(v9=false->Q (.a .i64 (IntKind.wrap .i64 ui))))/\(F->(va->Q (.a .i64 uj))/\(va=false->Q (.a .i64 (IntKind.wrap .i64 uj))))))/\(uT=false->vr ((C->(vl->Q (.a .i64 uu))/\(vl=false->Q (.a .i64 (IntKind.wrap .i64 uu))))/\(F->(vm->Q (.a .i64 uv))/\(vm=false->Q (.a .i64 (IntKind.wrap .i64 uv))))))))))/\(uA=false->(uD->vr ((H->(uJ->vr ((C->(uV->Q (.a .i64 u8))/\(uV=false->Q (.a .i64 (IntKind.wrap .i64 u8))))/\(F->(uW->Q (.a .i64 u9))/\(uW=false->Q (.a .i64 (IntKind.wrap .i64 u9))))))/\(uJ=false->vr ((C->(vb->Q (.a .i64 uk))/\(vb=false->Q (.a .i64 (IntKind.wrap .i64 uk))))/\(F->(vc->Q (.a .i64 ul))/\(vc=false->Q (.a .i64 (IntKind.wrap .i64 ul)))))))/\(U->(uL->vr ((C->(uX->Q (.a .i64 ua))/\(uX=false->Q (.a .i64 (IntKind.wrap .i64 ua))))/\(F->(uY->Q (.a .i64 ub))/\(uY=false->Q (.a .i64 (IntKind.wrap .i64 ub))))))/\(uL=false->vr ((C->(vd->Q (.a .i64 um))/\(vd=false->Q (.a .i64 (IntKind.wrap .i64 um))))/\(F->(ve->Q (.a .i64 un))/\(ve=false->Q (.a .i64 (IntKind.wrap .i64 un)))))))))/\(uD=false->vr ((H->(uZ->vr ((C->(vf->Q (.a .i64 uo))/\(vf=false->Q (.a .i64 (IntKind.wrap .i64 uo))))/\(F->(vg->Q (.a .i64 up))/\(vg=false->Q (.a .i64 (IntKind.wrap .i64 up))))))/\(uZ=false->vr ((C->(vn->Q (.a .i64 uw))/\(vn=false->Q (.a .i64 (IntKind.wrap .i64 uw))))/\(F->(vo->Q (.a .i64 ux))/\(vo=false->Q (.a .i64 (IntKind.wrap .i64 ux)))))))/\(U->(v1->vr ((C->(vh->Q (.a .i64 uq))/\(vh=false->Q (.a .i64 (IntKind.wrap .i64 uq))))/\(F->(vi->Q (.a .i64 ur))/\(vi=false->Q (.a .i64 (IntKind.wrap .i64 ur))))))/\(v1=false->vr ((C->(vp->Q (.a .i64 uy))/\(vp=false->Q (.a .i64 (IntKind.wrap .i64 uy))))/\(F->(vq->Q (.a .i64 uz))/\(vq=false->Q (.a .i64 (IntKind.wrap .i64 uz)))))))))))) (λvs=>A/\A/\vs)) (af .i64 us) (af .i64 ut) (af .i64 uu) (af .i64 uv) (af .i64 uw) (af .i64 ux) (af .i64 uy) (af .i64 uz)) (af .i64 uc) (af .i64 ud) (af .i64 ue) (af .i64 uf) (af .i64 ug) (af .i64 uh) (af .i64 ui) (af .i64 uj) (af .i64 uk) (af .i64 ul) (af .i64 um) (af .i64 un) (af .i64 uo) (af .i64 up) (af .i64 uq) (af .i64 ur) (ν uS B) (ν uS E) (ν uU B) (ν uU E) (ν v0 B) (ν v0 E) (ν v2 B) (ν v2 E)) (af .i64 u4) (af .i64 u5) (af .i64 u6) (af .i64 u7) (af .i64 Z) (af .i64 u0) (af .i64 u8) (af .i64 u9) (af .i64 ua) (af .i64 ub) (af .i64 u1) (af .i64 u2) (ν uG B) (ν uG E) (ν uI B) (ν uI E) (ν Z B) (ν Z E) (ν u0 B) (ν u0 E) (ν uK B) (ν uK E) (ν uM B) (ν uM E) (ν u1 B) (ν u1 E) (ν u2 B) (ν u2 E) (IntKind.wrap .i64 Z) (IntKind.wrap .i64 u0) (IntKind.wrap .i64 u1) (IntKind.wrap .i64 u2)) (af .i64 T) (af .i64 V) (af .i64 W) (af .i64 Y) (ν uC G) (ν uC O) (ν uE G) (ν uE O) (ν T B) (ν T E) (ν V B) (ν V E) (ν W B) (ν W E) (ν Y B) (ν Y E) (IntKind.wrap .i64 T) (IntKind.wrap .i64 V) (IntKind.wrap .i64 W) (IntKind.wrap .i64 Y)) (af .i64 N) (af .i64 P) (ν N G) (ν N O) (ν P G) (ν P O) (IntKind.wrap .i64 N) (IntKind.wrap .i64 P) (C=false) (H=false)) (af .i64 B) (af .i64 G) (af .i64 u3) (IntKind.wrap .i64 B) (ν 1 u3) (IntKind.wrap .i64 G) (ν 1 (IntKind.wrap .i64 u3))) (af .i64 I) (Int.mul 1 (dc I 400)) (Int.mul (Neg.neg 1) (dc I 100)) (Int.mul 1 (dc I 4))) (ξ y 1)) (λ_=>by kernel_rfl) λQ' hQ=>?_;try dsimp only
     have fin:∀n:Int,n=qU y->Q' (.a .i64 n):=λn h=>hQ _ (by rw[h]);clear hQ;simp only[az,reduceCtorEq,dc];unfold qU before at fin
     (repeat' first|exact trivial|refine⟨?_,?_⟩|intro)<;>first|omega|(apply fin;omega)
   . cases he
theorem Cd:ak Tryz.prog cfg He:=by
 refine au MK λargs t v he hv=>?_
 . unfold Vr at he;split at he
   . rename_i y;cases he;obtain⟨h1,hv⟩:=eL hv;unfold IM at h1;rw[zAa,aq,aq]at h1;cases hv;have hok:IM y=true:=by grind [IM,aq]
     have hb : -20000000000000000<=qU y/\qU y<=20000000000000000:=by grind [qU,before]
     refine jD MK ai (bE 114202) (R:=λQ=>(λ(B:Int)=>(λ(A:Int)=>(λ(C:Bool)=>af .i64 B/\and (ab (Neg.neg 20000000000000000) y) (ab y 20000000000000000)/\(C->Q (.a .i64 A))/\(C=false->Q (.a .i64 (IntKind.wrap .i64 A)))) (af .i64 A)) (ν B (qU y))) (Int.mul 365 y)) (λ_=>by rfl) λQ' hQ=>?_;try dsimp only
     have fin:∀n:Int,n=bf y->Q' (.a .i64 n):=λn h=>hQ _ (by rw[h]);clear hQ;have e:bf y=365*y+qU y:=rfl;simp_all [az];omega
   grind
def eO(y:Int):Bool:=ab (-10000000000000000) y&&ab y 10000000000000000
def tL(m:Int):Bool:=ab 1 m&&ab m 12
def d6(y m:Int):Int:=mlen y m
def aG(y m:Int):Int:=mst y m
def WX:dP:=λ
 | [.a .i64 y]=>some (aH [eO y] (.a0 (.d [.b (aa (iE y) 1),.a .i64 0])))
 | _=>none
def Sd:dP:=λ
 | [.a .i64 y]=>some (aH [eO y] (.a0 (.d [.a .i64 (bf y),.a .i64 0])))
 | _=>none
def QV:dP:=λ
 | [.a .i64 y]=>some (aH [eO y] (.a0 (.d [.a .i64 (bf (y+1)-1),.a .i64 0])))
 | _=>none
def Hh:aQ:=d5 (d5 (d5 He 338 WX) 289 Sd) 290 QV
def Xm:dP:=λ
 | [.a .i64 y,.a .i64 m]=>some (aH [eO y,tL m] (.a0 (.a .i64 (d6 y m))))
 | _=>none
def Zc:aQ:=d5 Hh 292 Xm
theorem bX{y:Int}:eO y=true↔-10000000000000000<=y/\y<=10000000000000000:=by grind [eO,aq]
theorem gX{m:Int}:tL m=true↔1<=m/\m<=12:=by grind [tL,aq]
theorem rm{y:Int}(h : -10000000000000000<=y)(h2:y<=10000000000000001) : -3652425000000000001<=bf y/\bf y<=3652425000000000400:=yst_bd y h h2
theorem Bg:ak Tryz.prog cfg Hh:=by
 refine au (au (au Cd λargs t v he hv=>?_) λargs t v he hv=>?_) λargs t v he hv=>?_
 . unfold WX at he;split at he
   . rename_i y;cases he;obtain⟨h1,hv⟩:=eL hv;rw[bX]at h1;cases hv;refine jD Cd ai (bE 12020203322) (R:=λQ=>(λ(B:Bool)(A:Int)=>(λ(C:Bool)=>C/\C/\B=false/\not (ab y 10000000000000000)=false/\af .i64 A/\and (ab (Neg.neg 20000000000000000) A) (ab A 20000000000000000)/\and (ab (Neg.neg 20000000000000000) y) (ab y 20000000000000000)/\Q (.d [.b (not (ab (qU A) (qU y))),.a .i64 0])) (not B)) (not (ab (Neg.neg 10000000000000000) y)) (ν y 1)) (λ_=>by rfl) λQ' hQ=>?_;try dsimp only
     have e:qU (y+1)=qU y+iE y:=before_succ y;have l:0<=iE y/\iE y<=1:=lp_01 y;have fin:∀b:Bool,b=aa (iE y) 1->Q' (.d [.b b,.a .i64 0]):=λb h=>hQ _ (by rw[h]);clear hQ;have hb:Bool.not (ab (qU (ν y 1)) (qU y))=aa (iE y) 1:=by
      grind [bF,ao]
     simp_all [az];omega
   grind
 . unfold Sd at he;split at he
   . rename_i y;cases he;obtain⟨h1,hv⟩:=eL hv;rw[bX]at h1;cases hv;refine jD Cd ai (bE 12003322) (R:=λQ=>(λ(A:Bool)=>(λ(B:Bool)=>B/\B/\A=false/\not (ab y 10000000000000000)=false/\and (ab (Neg.neg 20000000000000000) y) (ab y 20000000000000000)/\Q (.d [.a .i64 (bf y),.a .i64 0])) (not A)) (not (ab (Neg.neg 10000000000000000) y))) (λ_=>by rfl) λQ' hQ=>?_;simp_all [az];omega
   grind
 . unfold QV at he;split at he
   . rename_i y;cases he;obtain⟨h1,hv⟩:=eL hv;rw[bX]at h1;cases hv;refine jD Cd ai (bE 11420203322) (R:=λQ=>(λ(E:AV)(C:Bool)(A:Int)=>(λ(F:Bool)(B:Int)=>(λ(G:Bool)=>F/\F/\C=false/\not (ab y 10000000000000000)=false/\af .i64 A/\and (ab (Neg.neg 20000000000000000) A) (ab A 20000000000000000)/\(G->Q (.d [.a .i64 B,E]))/\(G=false->Q (.d [.a .i64 (IntKind.wrap .i64 B),E]))) (af .i64 B)) (not C) (ξ (bf A) 1)) (.a .i64 0) (not (ab (Neg.neg 10000000000000000) y)) (ν y 1)) (λ_=>by rfl) λQ' hQ=>?_;try dsimp only
     have bd:=@rm (y+1) (by omega) (by omega);simp_all [az];omega
   grind
theorem RB{k:Nat}(hk:k<12):List.getD [AV.a .i64 31,.a .i64 28,.a .i64 31,.a .i64 30,.a .i64 31,.a .i64 30,.a .i64 31,.a .i64 31,.a .i64 30,.a .i64 31,.a .i64 30,.a .i64 31] (0+k*1) (AV.d [])=.a .i64 (len0.getD k 0):=by
 have:k=0\/k=1\/k=2\/k=3\/k=4\/k=5\/k=6\/k=7\/k=8\/k=9\/k=10\/k=11:=by omega
 rcases this with rfl|rfl|rfl|rfl|rfl|rfl|rfl|rfl|rfl|rfl|rfl|rfl<;>rfl
theorem Bb:ak Tryz.prog cfg Zc:=by
 refine au Bg λargs t v he hv=>?_;unfold Xm at he;split at he
 . rename_i y m;cases he;obtain⟨⟨h1,h2,-⟩,hv⟩:=aF hv;rw[bX]at h1;rw[gX]at h2;cases hv;refine jD Bg ai (bE 1270331271422420) (R:=λQ=>(λ(A C:AV)(B:Bool)(E:Int)=>(λ(G:Nat)(F:Prop)=>(λ(H:AV)=>(λ(I:Prop)=>and (ab (Neg.neg 10000000000000000) y) (ab y 10000000000000000)/\(B->B/\B/\(aa m 2->Q (.a .i64 29))/\(aa m 2=false->I))/\(F->F/\F/\I)) (af .i64 E/\ab 0 E/\aS G 12/\eB .i64 H/\Q (.a .i64 (dx H)))) (List.getD [A,.a .i64 28,A,C,A,C,A,A,C,A,C,A] (HAdd.hAdd 0 (HMul.hMul G 1)) (.d []))) E.toNat (B=false)) (.a .i64 31) (.a .i64 30) (aa (iE y) 1) (ξ m 1)) (λ_=>by rfl) λQ' hQ=>?_;try dsimp only
   have hk:(ξ m 1).toNat<12:=by grind
   rw[RB hk];have l:0<=iE y/\iE y<=1:=lp_01 y;have i0:∀n:Int,dx (.a .i64 n)=n:=λ_=>rfl;have ka:∀n:Int,eB .i64 (.a .i64 n)=true:=λn=>rfl;simp only[i0,ka];have fin:∀n:Int,n=d6 y m->Q' (.a .i64 n):=λn h=>hQ _ (by rw[h]);have e29:m=2->iE y=1->d6 y m=29:=λk1 k2=>by subst k1;unfold d6 mlen;rw[if_pos rfl];unfold iE at k2;omega
   have en:(m≠2\/iE y=0)->d6 y m=len0.getD (m-1).toNat 0:=λh=>mlen_len0 y m h2.1 h2.2 h;have yb:=bX.2 h1;clear hQ hk;simp only[az,reduceCtorEq]
   (repeat' first|exact trivial|refine⟨?_,?_⟩|intro)<;>first|omega|assumption|(apply fin;rw[e29 (by omega) (by omega)])|(apply fin;rw[en (by omega)])
 . cases he
def Q0:dW:=λ
 | [.a .i64 y,.a .i64 d,.a .i64 k,.a .i64 i],⟨0,[],[]⟩=>some (aH [eO y,ab 0 k,ab k 11,aa i 0,aa d (bf y)] (.a0 (.b 0,[.a .i64 y,.a .i64 (aG y (ν k 1)),.a .i64 k,.a .i64 k],dO)))
 | _,_=>none
def Y6:cx:=iz jE 0 (d9 34 [0,7,22,23] Q0)
def Q4:dP:=λ
 | [.a .i64 y,.a .i64 m]=>some (aH [eO y,tL m] (.a0 (.d [.a .i64 (aG y m),.a .i64 0])))
 | _=>none
def Qw:dP:=λ
 | [.a .i64 y,.a .i64 m]=>some (aH [eO y,tL m] (.a0 (.d [.a .i64 (aG y (m+1)-1),.a .i64 0])))
 | _=>none
def Hi:aQ:=d5 Zc 293 Q4
def YS:aQ:=d5 Hi 294 Qw
theorem OU:ec tab 293=some (dH 293,aL 293):=by rfl
theorem Mx:(bz (aL 293)).map (·.1)=[0]:=by rfl
theorem mst_1(y:Int):aG y 1=bf y:=by grind [aG,mst,mcum,bf]
theorem p9{y m:Int}(h1:1<=m)(h2:m<=12):aG y (m+1)=aG y m+d6 y m:=by
 grind [aG,mst,d6,mcum_succ]
theorem jk(y m:Int):28<=d6 y m/\d6 y m<=31:=mlen_bd y m
theorem mst_bd{y m:Int}(hy : -10000000000000000<=y/\y<=10000000000000000)(h1:1<=m)(h2:m<=13) : -3652425000000000001<=aG y m/\aG y m<=3652425000000000800:=by
 have:=rm hy.1 (by omega);have:=mcum_bd y m h1 h2;grind [aG,mst,bf]
theorem Up:cu Tryz.prog (cH cfg Zc) (Cw cfg []) (lb 293 0) 34 [0,7,22,23] Q0:=by
 intro vs o t Q hv hq J;unfold Q0 at hv;split at hv
 . rename_i y d k i;cases hv;obtain⟨h1,hq1⟩:=cZ hq;obtain⟨h2,hq2⟩:=cZ hq1;obtain⟨h3,hq3⟩:=cZ hq2;obtain⟨h4,hq4⟩:=cZ hq3;obtain⟨h5,hq5⟩:=cZ hq4;clear hq hq1 hq2 hq3 hq4;rw[aq]at h2 h3;rw[ao]at h4 h5;subst h4 h5;have hy:=bX.1 h1;have hq:Q (.b 0,[.a .i64 y,.a .i64 (aG y (k+1)),.a .i64 k,.a .i64 k],dO):=hq5;refine ia Bb rfl rfl ai (ι:={i:Nat // (i:Int)<=k}) (λx=>[.a .i64 y,.a .i64 (aG y ((x.1:Int)+1)),.a .i64 k,.a .i64 (x.1:Int)]) (λ_=>dO) (λx=>k.toNat-x.1) 0 (λ_=>Nat.zero_le _) (λx J=>?_) (Nat.le_refl _) (λJ=>Wk.a0 ⟨⟨0,h2⟩,J,by rw[<-mst_1];rfl⟩) J;obtain⟨i,hi⟩:=x;dsimp only;refine jJ (bE 11212422024) (R:=λQ=>(λ(B C:AV)(G:Bool)(A:Int)=>(λ(H:AV)(E:Bool)(F:Int)=>(λ(I:Bool)=>(G->E/\and (ab (Neg.neg 10000000000000000) y) (ab y 10000000000000000)/\and (ab 1 A) (ab A 12)/\(I->E/\Q (.a,[B,.a .i64 F,C,H],⟨0,[],[]⟩))/\(I=false->E/\Q (.a,[B,.a .i64 (IntKind.wrap .i64 F),C,H],⟨0,[],[]⟩)))/\(G=false->Q (.b 0,[B,.a .i64 (aG y ((i:Int)+1)),C,.a .i64 i],⟨0,[],[]⟩))) (af .i64 F)) (.a .i64 A) (af .i64 A) (ν (aG y ((i:Int)+1)) (d6 y A))) (.a .i64 y) (.a .i64 k) (not (ab k i)) (ν i 1)) (λ_=>by rfl) λQ' hQ=>?_;try dsimp only
   have go:(i:Int)<k->Q' (.a,[.a .i64 y,.a .i64 (aG y ((i:Int)+1)+d6 y ((i:Int)+1)),.a .i64 k,.a .i64 ((i:Int)+1)],dO):=λh=>
    hQ (.a,_,_) ⟨⟨i+1,by omega⟩,by grind,VW.b0 (by grind [p9]) rfl⟩
   have fin:¬(i:Int)<k->Q' (.b 0,[.a .i64 y,.a .i64 (aG y ((i:Int)+1)),.a .i64 k,.a .i64 (i:Int)],dO):=λh=>by
    grind [VW.b0]
   have b1:=mst_bd (m:=(i:Int)+1) hy (by omega) (by omega);have b2:=jk y ((i:Int)+1);have om:tL ((i:Int)+1)=(decide ((i:Int)<12)):=by
    grind [gX]
   simp_all [az];omega
 grind
theorem EG:ak Tryz.prog cfg Hi:=by
 refine au Bb λargs t v he hv=>?_;unfold Q4 at he;split at he
 . rename_i y m;cases he;obtain⟨⟨h1,h2,-⟩,hv⟩:=aF hv;rw[gX]at h2;cases hv;have hy:=bX.1 h1;refine kA Bb (L:=Y6) OU (by simp) (dv Mx λi hi e he st Q hw=>?_) (jJ (bE 12022700332203322) (R:=λQ=>(λ(B C E:Bool)(A:Int)=>(λ(F G H:Bool)=>(λ(I:Bool)=>I/\I/\F=false/\not C=false/\G/\G/\E=false/\not (ab m 12)=false/\H/\af .i64 A/\H/\ab 0 A/\ab A 11/\aa (bf y) (bf y)/\(∀J1:Nat->Value,Q (.d [.a .i64 (aG y (ν A 1)),.a .i64 0]))) (not F)) (not B) (not E) (and B C)) (ab (Neg.neg 10000000000000000) y) (ab y 10000000000000000) (not (ab 1 m)) (ξ m 1)) (λ_=>by rfl) λQ' hQ=>?_) (by rfl)
   . have hi:i=0:=by grind
     subst hi;cases he;exact bR (cC.a0 Bb) (by decide) rfl Up hw
   . dsimp only;have e1:ν (ξ m 1) 1=m:=by grind
     simp_all [az];omega
 grind
theorem A_:ak Tryz.prog cfg YS:=by
 refine au EG λargs t v he hv=>?_;unfold Qw at he;split at he
 . rename_i y m;cases he;obtain⟨⟨h1,h2,-⟩,hv⟩:=aF hv;have hm:=gX.1 h2;cases hv;have hy:=bX.1 h1;refine jD EG ai (bE 11411442200220) (R:=λQ=>(λ(A:AV)(F G:Bool)(B:Int)=>(λ(H:Bool)(C E:Int)=>(λ(I N:Bool)=>F/\G/\F/\G/\(H->(I->Q (.d [.a .i64 C,A]))/\(I=false->Q (.d [.a .i64 (IntKind.wrap .i64 C),A])))/\(H=false->(N->Q (.d [.a .i64 E,A]))/\(N=false->Q (.d [.a .i64 (IntKind.wrap .i64 E),A])))) (af .i64 C) (af .i64 E)) (af .i64 B) (ξ B 1) (ξ (IntKind.wrap .i64 B) 1)) (.a .i64 0) (and (ab (Neg.neg 10000000000000000) y) (ab y 10000000000000000)) (and (ab 1 m) (ab m 12)) (ν (aG y m) (d6 y m))) (λ_=>by rfl) λQ' hQ=>?_;try dsimp only
   have b1:=mst_bd (m:=m) hy hm.1 (by omega);have b2:=jk y m;simp_all [p9,az];omega
 grind
def Pq:dP:=λ
 | [.a .i64 y,.a .i64 m]=>some (aH [eO y,tL m] (.a0 (.d [.a .i64 (d6 y m),.a .i64 0])))
 | _=>none
def Hj:aQ:=d5 YS 246 Pq
def fR(c:Int):Int:=sFrom c
def mR(c:Int):Int:=sMany c
def zI(c:Int):Bool:=ab 21 c&&ab c 41
def fq(y c:Int):Int:=dc (12*y+(fR c-1)+(mR c-1)) 12
def kX(y c:Int):Int:=d8 (12*y+(fR c-1)+(mR c-1)) 12
def Nz:dP:=λ
 | [.a .i64 y,.a .i64 c]=>some (aH [eO y,zI c] (.d0 (eO (fq y c)) λb=>bif b then .a0 (.d [.h [.a .i8 0,.a .i64 (aG y (fR c)),.a .i8 0,.a .i64 (aG (fq y c) (kX y c+2)-1)],.a .i64 0])else .a0 (.d [.h [.a .i8 0,.a .i64 0,.a .i8 0,.a .i64 0],.a .i64 6])))
 | _=>none
def Sq:dP:=λ
 | [.a .i64 a,.a .i64 b]=>some (aH [af .i64 (ν a b)] (.a0 (.d [.a .i64 (ν a b),.a .i64 0])))
 | _=>none
def Vj:dP:=λ
 | [.a .i64 c]=>some (aH [zI c] (.a0 (.d [.a .i64 (fR c),.a .i64 (mR c),.a .i64 0])))
 | _=>none
def Hx:aQ:=d5 (pX Hj 311 Sq) 295 Vj
theorem VD(y m:Int){Q:AV->Prop}:gG Q (pT YS jE 246 [.a .i64 y,.a .i64 m]) (bE 12200332203322)=((λ(A B C:Bool)=>(λ(E F:Bool)=>(λ(G:Bool)=>G/\G/\E=false/\not B=false/\F/\F/\C=false/\not (ab m 12)=false/\and A B/\and (ab 1 m) (ab m 12)/\Q (.d [.a .i64 (d6 y m),.a .i64 0])) (not E)) (not A) (not C)) (ab (Neg.neg 10000000000000000) y) (ab y 10000000000000000) (not (ab 1 m))):=by rfl
theorem Cv:ec tab 246=some (dH 246,aL 246):=by rfl
theorem mg{c:Int}:zI c=true↔21<=c/\c<=41:=by grind [zI,aq]
theorem oJ{c:Int}(h:21<=c/\c<=41):c=21\/c=22\/c=23\/c=24\/c=25\/c=26\/c=27\/c=28\/c=29\/c=30\/c=31\/c=32\/c=33\/c=34\/c=35\/c=36\/c=37\/c=38\/c=39\/c=40\/c=41:=by omega
theorem xH{c:Int}(h:21<=c/\c<=41):(1<=fR c/\fR c<=12)/\(3<=mR c/\mR c<=6):=by
 rcases oJ h with rfl|rfl|rfl|rfl|rfl|rfl|rfl|rfl|rfl|rfl|rfl|rfl|rfl|rfl|rfl|rfl|rfl|rfl|rfl|rfl|rfl<;>decide
theorem JT:ak Tryz.prog cfg Hj:=by
 refine au A_ λargs t v he hv=>?_;unfold Pq at he;split at he
 . rename_i y m;cases he;obtain⟨⟨h1,h2,-⟩,hv⟩:=aF hv;have hm:=gX.1 h2;cases hv;have hy:=bX.1 h1;refine kA A_ (L:=jE) Cv (by simp) ai (eD λQ' hQ=>cg ((VD y m).mpr ?_)) (by rfl);simp_all [az]
 grind
theorem OI:ky Tryz.prog cfg 311 Sq:=λargs t v he hv=>by
 unfold Sq at he;split at he
 . rename_i a b;cases he;obtain⟨h1,hv⟩:=eL hv;cases hv;refine Gh _ _ _ rfl ?_;grind [Tr.b0]
 grind
theorem KQ:ak Tryz.prog cfg Hx:=by
 refine au (eG JT OI) λargs t v he hv=>?_
 . unfold Vj at he;split at he
   . rename_i c;cases he;obtain⟨h1,hv⟩:=eL hv;rw[mg]at h1;cases hv;refine jD JT ai (bE 11100044703322) (R:=λQ=>(λ(A B C E G H N O:AV)(I:Bool)(F:Int)=>(λ(P:Bool)(U:List AV)(T:Nat)=>(λ(V:Nat)=>(λ(W Y:AV)=>(λ(Z u0:Bool)=>P/\P/\I=false/\ab 42 c=false/\af .i64 F/\ab 0 F/\aS T 21/\(Z->(u0->Q (.d [.a .i64 (dx W),.a .i64 (dx Y),.a .i64 0]))/\(u0=false->False))/\(Z=false->False)) (eB .i64 W) (eB .i64 Y)) (List.getD U V O) (List.getD U (HAdd.hAdd V 1) O)) (HAdd.hAdd 0 (HMul.hMul T 2))) (not I) [A,A,B,A,C,A,G,A,A,A,B,A,C,A,G,A,C,A,G,A,A,A,B,A,H,A,E,A,N,A,.a .i64 10,A,H,E,.a .i64 5,E,C,E,H,B,N,B] F.toNat) (.a .i64 3) (.a .i64 6) (.a .i64 9) (.a .i64 4) (.a .i64 12) (.a .i64 1) (.a .i64 7) (.d []) (not (ab 21 c)) (ξ c 21)) (λ_=>by rfl) λQ' hQ=>?_;try dsimp only
     rcases oJ h1 with rfl|rfl|rfl|rfl|rfl|rfl|rfl|rfl|rfl|rfl|rfl|rfl|rfl|rfl|rfl|rfl|rfl|rfl|rfl|rfl|rfl<;>(repeat' first|exact trivial|refine⟨?_,?_⟩|intro)<;>first|rfl|exact hQ _ rfl|(rename_i h;exact absurd h (by decide))
   grind
theorem MA{S:aQ}(hS:ak Tryz.prog cfg S):ak Tryz.prog cfg (d5 S 229 Nz):=by
 refine au hS λargs t v he hv=>?_;unfold Nz at he;split at he
 . rename_i y c;cases he;obtain⟨⟨h1,h2,-⟩,hv⟩:=aF hv;rw[bX]at h1;rw[mg]at h2;obtain⟨hf,hm⟩:=xH h2;have hv':Tr.b0 (bif eO (fq y c)then .a0 (.d [.h [.a .i8 0,.a .i64 (aG y (fR c)),.a .i8 0,.a .i64 (aG (fq y c) (kX y c+2)-1)],.a .i64 0])else .a0 (.d [.h [.a .i8 0,.a .i64 0,.a .i8 0,.a .i64 0],.a .i64 6]))=some v:=hv;have ids:aC v=[]:=by
    cases hb:eO (fq y c)<;>rw[hb]at hv'<;>cases hv'<;>simp[aC,bw]
   refine jD KQ ai (bE 15231022002010004324002000200270332203370220020) (R:=λQ=>(λ(A C:AV)(N O P T:Bool)(U V W:Int)=>(λ(Y Z:Bool)(u0:Int)(u1:Prop)=>(λ(u2 u3:Bool)(E:Int)=>(λ(F:Bool)(B G:Int)=>(λ(u4 u5:Bool)=>(λ(H u6:Bool)=>(λ(I:Bool)=>(λ(u7:Prop)=>and (ab 21 c) (ab c 41)/\and N O/\and P T/\af .i64 U/\u2/\u2/\Y=false/\not O=false/\u3/\u3/\Z=false/\not T=false/\af .i64 V/\af .i64 W/\af .i64 u0/\F/\F/\F/\(I->I/\H=false/\(u6->u1)/\(u6=false->af .i64 B/\and u4 u5/\and (ab 1 B) (ab B 12)/\Q (.d [.h [A,.a .i64 (aG y (fR c)),A,.a .i64 (HSub.hSub (aG G (HAdd.hAdd B 1)) 1)],C])))/\(u7->u7/\H/\u1)) (I=false)) (not H)) (not u4) (not u5)) (ab (Neg.neg 10000000000000000) G) (ab G 10000000000000000)) (af .i64 E) (ν (d8 E 12) 1) (dc E 12)) (not Y) (not Z) (ν u0 U)) (not N) (not P) (ν V W) (Q (.d [.h [A,C,A,C],.a .i64 6]))) (.a .i8 0) (.a .i64 0) (ab (Neg.neg 10000000000000000) y) (ab y 10000000000000000) (ab 1 (fR c)) (ab (fR c) 12) (ξ (mR c) 1) (Int.mul 12 y) (ξ (fR c) 1)) (λ_=>by rfl) (hi:=ids) λQ' hQ=>?_;try dsimp only
   have yes:eO (fq y c)->Q' (.d [.h [.a .i8 0,.a .i64 (aG y (fR c)),.a .i8 0,.a .i64 (aG (fq y c) (kX y c+1+1)-1)],.a .i64 0]):=λh=>by
    rw[h]at hv';cases hv';grind
   have no:eO (fq y c)=false->Q' (.d [.h [.a .i8 0,.a .i64 0,.a .i8 0,.a .i64 0],.a .i64 6]):=λh=>by
    rw[h]at hv';cases hv';grind
   simp_all [dc,fq,d8,kX,az,eO];omega
 grind
end Go.Ev
