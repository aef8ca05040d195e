import Derived.Test.YtcffhjfdlflbgaaGreatDoorP19
set_option linter.all false
open Int renaming add->ν,sub->ο
open Nat renaming ble->ξ
set_option linter.all false
set_option maxRecDepth 100000
set_option maxHeartbeats 4000000
namespace Go.Ev
open Go Go.Proofs Go.Proofs.YtcffhjfdlflbgaaGreatDoor
variable{c:Int}{S:aQ}
def iE(y:Int):Int:=lp y
def bf(y:Int):Int:=yst y
def qU(y:Int):Int:=before y
def dc(a b:Int):Int:=a/b
def d8(a b:Int):Int:=a%b
def UM:dP:=λ
 | [.a .i64 a,.a .i64 b]=>some (aH [af .i64 a,ab 2 b,ab b 200000] (.a0 (.d [.a .i64 (dc a b),.a .i64 0])))
 | _=>none
def WC:dP:=λ
 | [.a .i64 a,.a .i64 b]=>some (aH [af .i64 a,ab 2 b,ab b 200000] (.a0 (.d [.a .i64 (d8 a b),.a .i64 0])))
 | _=>none
def Z8:aQ:=aK (aK gZ 283 UM) 284 WC
def IM(y:Int):Bool:=ab (-20000000000000000) y&&ab y 20000000000000000
def VO:dP:=λ
 | [.a .i64 y]=>some (aH [IM y] (.a0 (.a .i64 (qU y))))
 | _=>none
def Vr:dP:=λ
 | [.a .i64 y]=>some (aH [IM y] (.a0 (.a .i64 (bf y))))
 | _=>none
def Hd:aQ:=aK Z8 337 VO
def He:aQ:=aK Hd 287 Vr
theorem Lx{a b:Int}(hb:0<b):(a.tmod b<0->a.tdiv b-1=dc a b/\a.tmod b+b=d8 a b)/\(0<=a.tmod b->a.tdiv b=dc a b/\a.tmod b=d8 a b)/\-b<a.tmod b/\a.tmod b<b/\(a.tmod b<0->a<0)/\(0<a.tmod b->0<a):=by
 have e:=tq_cases a b hb;have h1:=Int.lt_tmod_of_pos a hb;have h2:=Int.tmod_lt_of_pos a hb;have h3:0<=a->0<=a.tmod b:=λh=>Int.tmod_nonneg b h;have h4:a<=0->a.tmod b<=0:=λh=>by
  have:=Int.tmod_nonneg b (show 0<=-a by omega);simp_all
 grind [dc,d8]
theorem Ja:ak Tryz.prog cfg Z8:=by
 refine au (au aW λargs t v he hv=>?_) λargs t v he hv=>?_
 . unfold UM at he;split at he
   . rename_i a b;cases he;obtain⟨⟨h1,h2,h3,-⟩,hv⟩:=aF hv;rw[aE]at h1;rw[aq]at h2 h3;simp only[eH,eE]at h1;cases hv;refine jD aW ai (bE 1033811144227421033811144227424233) (R:=λQ=>(λ(C:AV)(A F G:Bool)(E:Int)=>(λ(N:Bool)(H T:Int)(B O P:Prop)=>(λ(U:Bool)(I:Int)(V:Prop)=>(λ(W:Bool)=>aa b 0=false/\aa b (Neg.neg 1)=false/\F/\(N->F/\(A->A/\A/\A/\A/\A/\(G->(U->Q (.d [.a .i64 H,C]))/\(U=false->Q (.d [.a .i64 (IntKind.wrap .i64 H),C])))/\(O->P))/\(B->B/\B/\B/\B/\B/\P))/\(N=false->F/\(A->A/\A/\A/\A/\A/\(G->(W->Q (.d [.a .i64 I,C]))/\(W=false->Q (.d [.a .i64 (IntKind.wrap .i64 I),C])))/\(O->V))/\(B->B/\B/\B/\B/\B/\V))) (af .i64 I)) (af .i64 H) (ο T 1) (Q (.d [.a .i64 T,C]))) (af .i64 E) (ο E 1) (IntKind.wrap .i64 E) (A=false) (G=false) (Q (.d [.a .i64 E,C]))) (.a .i64 0) (not (aa (Int.tmod a b) 0)) (not (aa b 0)) (not (bQ (not (ab 0 a)) (not (ab 0 b)))) (Int.tdiv a b)) (λ_=>by rfl) λQ' hQ=>?_;try dsimp only
     obtain⟨k1,k2,k3,k4,k5,k6⟩:=@Lx a b δ;have tb:=tdiv_bd a b h2 h1.1 h1.2;have w:IntKind.wrap .i64 (a.tdiv b)=a.tdiv b:=Bx .i64 _ (by grind [eH]) (by grind [eE]);have fin:∀n:Int,n=dc a b->Q' (.d [.a .i64 n,.a .i64 0]):=λn h=>hQ _ (by rw[h]);clear hQ;have e0:ab 0 b=true:=aq.mpr δ;simp only[w,e0,Bool.not_true];generalize a.tdiv b=q at *;generalize a.tmod b=r at *;simp only[az,reduceCtorEq];grind
   grind
 . unfold WC at he;split at he
   . rename_i a b;cases he;obtain⟨⟨h1,h2,h3,-⟩,hv⟩:=aF hv;rw[aE]at h1;rw[aq]at h2 h3;simp only[eH,eE]at h1;cases hv;refine jD aW ai (bE 10338111442274233) (R:=λQ=>(λ(E:AV)(C:Int)=>(λ(A G:Bool)(F:Int)(H:Prop)=>(λ(I:Bool)(B:Prop)=>aa b 0=false/\aa b (Neg.neg 1)=false/\not (aa b 0)/\(A->A/\A/\A/\A/\A/\(G->(I->Q (.d [.a .i64 F,E]))/\(I=false->Q (.d [.a .i64 (IntKind.wrap .i64 F),E])))/\(G=false->H))/\(B->B/\B/\B/\B/\B/\H)) (af .i64 F) (A=false)) (not (aa C 0)) (not (bQ (not (ab 0 C)) (not (ab 0 b)))) (ν C b) (Q (.d [.a .i64 C,E]))) (.a .i64 0) (Int.tmod a b)) (λ_=>by rfl) λQ' hQ=>?_;try dsimp only
     obtain⟨k1,k2,k3,k4,k5,k6⟩:=@Lx a b δ;have fin:∀n:Int,n=d8 a b->Q' (.d [.a .i64 n,.a .i64 0]):=λn h=>hQ _ (by rw[h]);clear hQ;have e0:ab 0 b=true:=aq.mpr δ;simp only[e0,Bool.not_true];generalize a.tdiv b=q at *;generalize a.tmod b=r at *;simp only[az,reduceCtorEq];grind
   grind
theorem MK:ak Tryz.prog cfg Hd:=by
 refine au Ja λargs t v he hv=>?_
 . unfold VO at he;split at he
   . rename_i y;cases he;obtain⟨h1,hv⟩:=ex hv;unfold IM at h1;rw[zAa,aq,aq]at h1;cases hv;refine jD Ja ai (bE 100100410010044000200200051001004100100440002002000541001004100100440002002000510010041001004400020020005440002002000510010041001004400020020005100100410010044000200200054100100410010044000200200051001004100100440002002000544000200200054100100410010044000200200051001004100100440002002000541001004100100440002002000510010041001004400020020005440002002000510010041001004400020020005100100410010044000200200054100100410010044000200200051001004100100440002002000544000200200054400020020005) (R:=λQ=>(λ(I:Int)=>(λ(A:Bool)(B G u3:Int)=>(λ(C H uA:Bool)(E N O P:Int)=>(λ(uB uD:Bool)(T V W Y uC uE:Int)(F U:Prop)=>(λ(uF uH uJ uL:Bool)(Z u0 u1 u2 u4 u5 u6 u7 u8 u9 ua ub uG uI uK uM:Int)=>(λ(uN uO uP uQ uR uT uV uW uX uY uZ v1:Bool)(uc ud ue uf ug uh ui uj uk ul um un uo up uq ur uS uU v0 v2:Int)=>(λ(v3 v4 v5 v6 v7 v8 v9 va vb vc vd ve vf vg vh vi:Bool)(us ut uu uv uw ux uy uz:Int)=>(λ(vj vk vl vm vn vo vp vq:Bool)=>(λ(vr:Prop->Prop)=>vr ((uA->(uB->vr ((H->(uF->vr ((C->(uN->Q (.a .i64 u4))/\(uN=false->Q (.a .i64 (IntKind.wrap .i64 u4))))/\(F->(uO->Q (.a .i64 u5))/\(uO=false->Q (.a .i64 (IntKind.wrap .i64 u5))))))/\(uF=false->vr ((C->(v3->Q (.a .i64 uc))/\(v3=false->Q (.a .i64 (IntKind.wrap .i64 uc))))/\(F->(v4->Q (.a .i64 ud))/\(v4=false->Q (.a .i64 (IntKind.wrap .i64 ud)))))))/\(U->(uH->vr ((C->(uP->Q (.a .i64 u6))/\(uP=false->Q (.a .i64 (IntKind.wrap .i64 u6))))/\(F->(uQ->Q (.a .i64 u7))/\(uQ=false->Q (.a .i64 (IntKind.wrap .i64 u7))))))/\(uH=false->vr ((C->(v5->Q (.a .i64 ue))/\(v5=false->Q (.a .i64 (IntKind.wrap .i64 ue))))/\(F->(v6->Q (.a .i64 uf))/\(v6=false->Q (.a .i64 (IntKind.wrap .i64 uf)))))))))/\(uB=false->vr ((H->(uR->vr ((C->(v7->Q (.a .i64 ug))/\(v7=false->Q (.a .i64 (IntKind.wrap .i64 ug))))/\(F->(v8->Q (.a .i64 uh))/\(v8=false->Q (.a .i64 (IntKind.wrap .i64 uh))))))/\(uR=false->vr ((C->(vj->Q (.a .i64 us))/\(vj=false->Q (.a .i64 (IntKind.wrap .i64 us))))/\(F->(vk->Q (.a .i64 ut))/\(vk=false->Q (.a .i64 (IntKind.wrap .i64 ut)))))))/\(U->(uT->vr ((C->(v9->Q (.a .i64 ui))/\(v9=false->Q (.a .i64 (IntKind.wrap .i64 ui))))/\(F->(va->Q (.a .i64 uj))/\(va=false->Q (.a .i64 (IntKind.wrap .i64 uj))))))/\(uT=false->vr ((C->(vl->Q (.a .i64 uu))/\(vl=false->Q (.a .i64 (IntKind.wrap .i64 uu))))/\(F->(vm->Q (.a .i64 uv))/\(vm=false->Q (.a .i64 (IntKind.wrap .i64 uv))))))))))/\(uA=false->(uD->vr ((H->(uJ->vr ((C->(uV->Q (.a .i64 u8))/\(uV=false->Q (.a .i64 (IntKind.wrap .i64 u8))))/\(F->(uW->Q (.a .i64 u9))/\(uW=false->Q (.a .i64 (IntKind.wrap .i64 u9))))))/\(uJ=false->vr ((C->(vb->Q (.a .i64 uk))/\(vb=false->Q (.a .i64 (IntKind.wrap .i64 uk))))/\(F->(vc->Q (.a .i64 ul))/\(vc=false->Q (.a .i64 (IntKind.wrap .i64 ul)))))))/\(U->(uL->vr ((C->(uX->Q (.a .i64 ua))/\(uX=false->Q (.a .i64 (IntKind.wrap .i64 ua))))/\(F->(uY->Q (.a .i64 ub))/\(uY=false->Q (.a .i64 (IntKind.wrap .i64 ub))))))/\(uL=false->vr ((C->(vd->Q (.a .i64 um))/\(vd=false->Q (.a .i64 (IntKind.wrap .i64 um))))/\(F->(ve->Q (.a .i64 un))/\(ve=false->Q (.a .i64 (IntKind.wrap .i64 un)))))))))/\(uD=false->vr ((H->(uZ->vr ((C->(vf->Q (.a .i64 uo))/\(vf=false->Q (.a .i64 (IntKind.wrap .i64 uo))))/\(F->(vg->Q (.a .i64 up))/\(vg=false->Q (.a .i64 (IntKind.wrap .i64 up))))))/\(uZ=false->vr ((C->(vn->Q (.a .i64 uw))/\(vn=false->Q (.a .i64 (IntKind.wrap .i64 uw))))/\(F->(vo->Q (.a .i64 ux))/\(vo=false->Q (.a .i64 (IntKind.wrap .i64 ux)))))))/\(U->(v1->vr ((C->(vh->Q (.a .i64 uq))/\(vh=false->Q (.a .i64 (IntKind.wrap .i64 uq))))/\(F->(vi->Q (.a .i64 ur))/\(vi=false->Q (.a .i64 (IntKind.wrap .i64 ur))))))/\(v1=false->vr ((C->(vp->Q (.a .i64 uy))/\(vp=false->Q (.a .i64 (IntKind.wrap .i64 uy))))/\(F->(vq->Q (.a .i64 uz))/\(vq=false->Q (.a .i64 (IntKind.wrap .i64 uz)))))))))))) (λvs=>A/\A/\vs)) (af .i64 us) (af .i64 ut) (af .i64 uu) (af .i64 uv) (af .i64 uw) (af .i64 ux) (af .i64 uy) (af .i64 uz)) (af .i64 uc) (af .i64 ud) (af .i64 ue) (af .i64 uf) (af .i64 ug) (af .i64 uh) (af .i64 ui) (af .i64 uj) (af .i64 uk) (af .i64 ul) (af .i64 um) (af .i64 un) (af .i64 uo) (af .i64 up) (af .i64 uq) (af .i64 ur) (ν uS B) (ν uS E) (ν uU B) (ν uU E) (ν v0 B) (ν v0 E) (ν v2 B) (ν v2 E)) (af .i64 u4) (af .i64 u5) (af .i64 u6) (af .i64 u7) (af .i64 Z) (af .i64 u0) (af .i64 u8) (af .i64 u9) (af .i64 ua) (af .i64 ub) (af .i64 u1) (af .i64 u2) (ν uG B) (ν uG E) (ν uI B) (ν uI E) (ν Z B) (ν Z E) (ν u0 B) (ν u0 E) (ν uK B) (ν uK E) (ν uM B) (ν uM E) (ν u1 B) (ν u1 E) (ν u2 B) (ν u2 E) (IntKind.wrap .i64 Z) (IntKind.wrap .i64 u0) (IntKind.wrap .i64 u1) (IntKind.wrap .i64 u2)) (af .i64 T) (af .i64 V) (af .i64 W) (af .i64 Y) (ν uC G) (ν uC O) (ν uE G) (ν uE O) (ν T B) (ν T E) (ν V B) (ν V E) (ν W B) (ν W E) (ν Y B) (ν Y E) (IntKind.wrap .i64 T) (IntKind.wrap .i64 V) (IntKind.wrap .i64 W) (IntKind.wrap .i64 Y)) (af .i64 N) (af .i64 P) (ν N G) (ν N O) (ν P G) (ν P O) (IntKind.wrap .i64 N) (IntKind.wrap .i64 P) (C=false) (H=false)) (af .i64 B) (af .i64 G) (af .i64 u3) (IntKind.wrap .i64 B) (ν 1 u3) (IntKind.wrap .i64 G) (ν 1 (IntKind.wrap .i64 u3))) (af .i64 I) (Int.mul 1 (dc I 400)) (Int.mul (Neg.neg 1) (dc I 100)) (Int.mul 1 (dc I 4))) (ο y 1)) (λ_=>by kernel_rfl) λQ' hQ=>?_;try dsimp only
     have fin:∀n:Int,n=qU y->Q' (.a .i64 n):=λn h=>hQ _ (by rw[h]);clear hQ;simp only[az,reduceCtorEq,dc];unfold qU before at fin
     (repeat' first|exact trivial|refine⟨?_,?_⟩|intro)<;>first|omega|(apply fin;omega)
   . cases he
theorem Cd:ak Tryz.prog cfg He:=by
 refine au MK λargs t v he hv=>?_
 . unfold Vr at he;split at he
   . rename_i y;cases he;obtain⟨h1,hv⟩:=ex hv;unfold IM at h1;rw[zAa,aq,aq]at h1;cases hv;have hok:IM y=true:=by grind [IM,aq]
     have hb : -20000000000000000<=qU y/\qU y<=20000000000000000:=by grind [qU,before]
     refine jD MK ai (bE 114202) (R:=λQ=>(λ(B:Int)=>(λ(A:Int)=>(λ(C:Bool)=>af .i64 B/\and (ab (Neg.neg 20000000000000000) y) (ab y 20000000000000000)/\(C->Q (.a .i64 A))/\(C=false->Q (.a .i64 (IntKind.wrap .i64 A)))) (af .i64 A)) (ν B (qU y))) (Int.mul 365 y)) (λ_=>by rfl) λQ' hQ=>?_;try dsimp only
     have fin:∀n:Int,n=bf y->Q' (.a .i64 n):=λn h=>hQ _ (by rw[h]);clear hQ;have e:bf y=365*y+qU y:=rfl;simp_all [az];omega
   grind
def eO(y:Int):Bool:=ab (-10000000000000000) y&&ab y 10000000000000000
def tL(m:Int):Bool:=ab 1 m&&ab m 12
def d6(y m:Int):Int:=mlen y m
def aG(y m:Int):Int:=mst y m
def WX:dP:=λ
 | [.a .i64 y]=>some (aH [eO y] (.a0 (.d [.b (aa (iE y) 1),.a .i64 0])))
 | _=>none
def Sd:dP:=λ
 | [.a .i64 y]=>some (aH [eO y] (.a0 (.d [.a .i64 (bf y),.a .i64 0])))
 | _=>none
def QV:dP:=λ
 | [.a .i64 y]=>some (aH [eO y] (.a0 (.d [.a .i64 (bf (y+1)-1),.a .i64 0])))
 | _=>none
def Hh:aQ:=aK (aK (aK He 338 WX) 289 Sd) 290 QV
def Xm:dP:=λ
 | [.a .i64 y,.a .i64 m]=>some (aH [eO y,tL m] (.a0 (.a .i64 (d6 y m))))
 | _=>none
def Zc:aQ:=aK Hh 292 Xm
theorem bX{y:Int}:eO y=true↔-10000000000000000<=y/\y<=10000000000000000:=by grind [eO,aq]
theorem gX{m:Int}:tL m=true↔1<=m/\m<=12:=by grind [tL,aq]
theorem rm{y:Int}(h : -10000000000000000<=y)(h2:y<=10000000000000001) : -3652425000000000001<=bf y/\bf y<=3652425000000000400:=yst_bd y h h2
theorem Bg:ak Tryz.prog cfg Hh:=by
 refine au (au (au Cd λargs t v he hv=>?_) λargs t v he hv=>?_) λargs t v he hv=>?_
 . unfold WX at he;split at he
   . rename_i y;cases he;obtain⟨h1,hv⟩:=ex hv;rw[bX]at h1;cases hv;refine jD Cd ai (bE 12020203322) (R:=λQ=>(λ(B:Bool)(A:Int)=>(λ(C:Bool)=>C/\C/\B=false/\not (ab y 10000000000000000)=false/\af .i64 A/\and (ab (Neg.neg 20000000000000000) A) (ab A 20000000000000000)/\and (ab (Neg.neg 20000000000000000) y) (ab y 20000000000000000)/\Q (.d [.b (not (ab (qU A) (qU y))),.a .i64 0])) (not B)) (not (ab (Neg.neg 10000000000000000) y)) (ν y 1)) (λ_=>by rfl) λQ' hQ=>?_;try dsimp only
     have e:qU (y+1)=qU y+iE y:=before_succ y;have l:0<=iE y/\iE y<=1:=lp_01 y;have fin:∀b:Bool,b=aa (iE y) 1->Q' (.d [.b b,.a .i64 0]):=λb h=>hQ _ (by rw[h]);clear hQ;have hb:Bool.not (ab (qU (ν y 1)) (qU y))=aa (iE y) 1:=by
      grind [bF,ao]
     simp_all [az];omega
   grind
 . unfold Sd at he;split at he
   . rename_i y;cases he;obtain⟨h1,hv⟩:=ex hv;rw[bX]at h1;cases hv;refine jD Cd ai (bE 12003322) (R:=λQ=>(λ(A:Bool)=>(λ(B:Bool)=>B/\B/\A=false/\not (ab y 10000000000000000)=false/\and (ab (Neg.neg 20000000000000000) y) (ab y 20000000000000000)/\Q (.d [.a .i64 (bf y),.a .i64 0])) (not A)) (not (ab (Neg.neg 10000000000000000) y))) (λ_=>by rfl) λQ' hQ=>?_;simp_all [az];omega
   grind
 . unfold QV at he;split at he
   . rename_i y;cases he;obtain⟨h1,hv⟩:=ex hv;rw[bX]at h1;cases hv;refine jD Cd ai (bE 11420203322) (R:=λQ=>(λ(E:AV)(C:Bool)(A:Int)=>(λ(F:Bool)(B:Int)=>(λ(G:Bool)=>F/\F/\C=false/\not (ab y 10000000000000000)=false/\af .i64 A/\and (ab (Neg.neg 20000000000000000) A) (ab A 20000000000000000)/\(G->Q (.d [.a .i64 B,E]))/\(G=false->Q (.d [.a .i64 (IntKind.wrap .i64 B),E]))) (af .i64 B)) (not C) (ο (bf A) 1)) (.a .i64 0) (not (ab (Neg.neg 10000000000000000) y)) (ν y 1)) (λ_=>by rfl) λQ' hQ=>?_;try dsimp only
     have bd:=@rm (y+1) δ δ;simp_all [az];omega
   grind
theorem RB{k:Nat}(hk:k<12):List.getD [AV.a .i64 31,.a .i64 28,.a .i64 31,.a .i64 30,.a .i64 31,.a .i64 30,.a .i64 31,.a .i64 31,.a .i64 30,.a .i64 31,.a .i64 30,.a .i64 31] (0+k*1) (AV.d [])=.a .i64 (len0.getD k 0):=by
 have:k=0\/k=1\/k=2\/k=3\/k=4\/k=5\/k=6\/k=7\/k=8\/k=9\/k=10\/k=11:=δ
 rcases this with rfl|rfl|rfl|rfl|rfl|rfl|rfl|rfl|rfl|rfl|rfl|rfl<;>rfl
theorem Bb:ak Tryz.prog cfg Zc:=by
 refine au Bg λargs t v he hv=>?_;unfold Xm at he;split at he
 . rename_i y m;cases he;obtain⟨⟨h1,h2,-⟩,hv⟩:=aF hv;rw[bX]at h1;rw[gX]at h2;cases hv;refine jD Bg ai (bE 1270331271422420) (R:=λQ=>(λ(A C:AV)(B:Bool)(E:Int)=>(λ(G:Nat)(F:Prop)=>(λ(H:AV)=>(λ(I:Prop)=>and (ab (Neg.neg 10000000000000000) y) (ab y 10000000000000000)/\(B->B/\B/\(aa m 2->Q (.a .i64 29))/\(aa m 2=false->I))/\(F->F/\F/\I)) (af .i64 E/\ab 0 E/\aS G 12/\eB .i64 H/\Q (.a .i64 (dx H)))) (List.getD [A,.a .i64 28,A,C,A,C,A,A,C,A,C,A] (HAdd.hAdd 0 (HMul.hMul G 1)) (.d []))) E.toNat (B=false)) (.a .i64 31) (.a .i64 30) (aa (iE y) 1) (ο m 1)) (λ_=>by rfl) λQ' hQ=>?_;try dsimp only
   have hk:(ο m 1).toNat<12:=η
   rw[RB hk];have l:0<=iE y/\iE y<=1:=lp_01 y;have i0:∀n:Int,dx (.a .i64 n)=n:=λ_=>rfl;have ka:∀n:Int,eB .i64 (.a .i64 n)=true:=λn=>rfl;simp only[i0,ka];have fin:∀n:Int,n=d6 y m->Q' (.a .i64 n):=λn h=>hQ _ (by rw[h]);have e29:m=2->iE y=1->d6 y m=29:=λk1 k2=>by subst k1;unfold d6 mlen;rw[if_pos rfl];unfold iE at k2;omega
   have en:(m≠2\/iE y=0)->d6 y m=len0.getD (m-1).toNat 0:=λh=>mlen_len0 y m h2.1 h2.2 h;have yb:=bX.2 h1;clear hQ hk;simp only[az,reduceCtorEq]
   (repeat' first|exact trivial|refine⟨?_,?_⟩|intro)<;>first|omega|assumption|(apply fin;rw[e29 δ δ])|(apply fin;rw[en δ])
 . cases he
def Q0:dW:=λ
 | [.a .i64 y,.a .i64 d,.a .i64 k,.a .i64 i],⟨0,[],[]⟩=>some (aH [eO y,ab 0 k,ab k 11,aa i 0,aa d (bf y)] (.a0 (.b 0,[.a .i64 y,.a .i64 (aG y (ν k 1)),.a .i64 k,.a .i64 k],dO)))
 | _,_=>none
def Y6:cx:=iz jE 0 (d9 34 [0,7,22,23] Q0)
def Q4:dP:=λ
 | [.a .i64 y,.a .i64 m]=>some (aH [eO y,tL m] (.a0 (.d [.a .i64 (aG y m),.a .i64 0])))
 | _=>none
def Qw:dP:=λ
 | [.a .i64 y,.a .i64 m]=>some (aH [eO y,tL m] (.a0 (.d [.a .i64 (aG y (m+1)-1),.a .i64 0])))
 | _=>none
def Hi:aQ:=aK Zc 293 Q4
def YS:aQ:=aK Hi 294 Qw
theorem OU:aY tab 293=some (dH 293,aL 293):=κ
theorem Mx:(bz (aL 293)).map (·.1)=[0]:=κ
theorem mst_1(y:Int):aG y 1=bf y:=by grind [aG,mst,mcum,bf]
theorem p9{y m:Int}(h1:1<=m)(h2:m<=12):aG y (m+1)=aG y m+d6 y m:=by
 grind [aG,mst,d6,mcum_succ]
theorem jk(y m:Int):28<=d6 y m/\d6 y m<=31:=mlen_bd y m
theorem mst_bd{y m:Int}(hy : -10000000000000000<=y/\y<=10000000000000000)(h1:1<=m)(h2:m<=13) : -3652425000000000001<=aG y m/\aG y m<=3652425000000000800:=by
 have:=rm hy.1 δ;have:=mcum_bd y m h1 h2;grind [aG,mst,bf]
theorem Up:cu Tryz.prog (cH cfg Zc) (Cw cfg []) (lb 293 0) 34 [0,7,22,23] Q0:=by
 intro vs o t Q hv hq J;unfold Q0 at hv;split at hv
 . rename_i y d k i;cases hv;obtain⟨h1,hq1⟩:=cZ hq;obtain⟨h2,hq2⟩:=cZ hq1;obtain⟨h3,hq3⟩:=cZ hq2;obtain⟨h4,hq4⟩:=cZ hq3;obtain⟨h5,hq5⟩:=cZ hq4;clear hq hq1 hq2 hq3 hq4;rw[aq]at h2 h3;rw[ao]at h4 h5;subst h4 h5;have hy:=bX.1 h1;have hq:Q (.b 0,[.a .i64 y,.a .i64 (aG y (k+1)),.a .i64 k,.a .i64 k],dO):=hq5;refine ia Bb rfl rfl ai (ι:={i:Nat // (i:Int)<=k}) (λx=>[.a .i64 y,.a .i64 (aG y ((x.1:Int)+1)),.a .i64 k,.a .i64 (x.1:Int)]) (λ_=>dO) (λx=>k.toNat-x.1) 0 (λ_=>Nat.zero_le _) (λx J=>?_) (Nat.le_refl _) (λJ=>Wk.a0 ⟨⟨0,h2⟩,J,by rw[<-mst_1];rfl⟩) J;obtain⟨i,hi⟩:=x;dsimp only;refine jJ (bE 11212422024) (R:=λQ=>(λ(B C:AV)(G:Bool)(A:Int)=>(λ(H:AV)(E:Bool)(F:Int)=>(λ(I:Bool)=>(G->E/\and (ab (Neg.neg 10000000000000000) y) (ab y 10000000000000000)/\and (ab 1 A) (ab A 12)/\(I->E/\Q (.a,[B,.a .i64 F,C,H],⟨0,[],[]⟩))/\(I=false->E/\Q (.a,[B,.a .i64 (IntKind.wrap .i64 F),C,H],⟨0,[],[]⟩)))/\(G=false->Q (.b 0,[B,.a .i64 (aG y ((i:Int)+1)),C,.a .i64 i],⟨0,[],[]⟩))) (af .i64 F)) (.a .i64 A) (af .i64 A) (ν (aG y ((i:Int)+1)) (d6 y A))) (.a .i64 y) (.a .i64 k) (not (ab k i)) (ν i 1)) (λ_=>by rfl) λQ' hQ=>?_;try dsimp only
   have go:(i:Int)<k->Q' (.a,[.a .i64 y,.a .i64 (aG y ((i:Int)+1)+d6 y ((i:Int)+1)),.a .i64 k,.a .i64 ((i:Int)+1)],dO):=λh=>
    hQ (.a,_,_) ⟨⟨i+1,by omega⟩,by grind,VW.b0 (by grind [p9]) rfl⟩
   have fin:¬(i:Int)<k->Q' (.b 0,[.a .i64 y,.a .i64 (aG y ((i:Int)+1)),.a .i64 k,.a .i64 (i:Int)],dO):=λh=>by
    grind [VW.b0]
   have b1:=mst_bd (m:=(i:Int)+1) hy δ δ;have b2:=jk y ((i:Int)+1);have om:tL ((i:Int)+1)=(decide ((i:Int)<12)):=by
    grind [gX]
   simp_all [az];omega
 grind
theorem EG:ak Tryz.prog cfg Hi:=by
 refine au Bb λargs t v he hv=>?_;unfold Q4 at he;split at he
 . rename_i y m;cases he;obtain⟨⟨h1,h2,-⟩,hv⟩:=aF hv;rw[gX]at h2;cases hv;have hy:=bX.1 h1;refine kA Bb (L:=Y6) OU θ (dv Mx λi hi e he st Q hw=>?_) (jJ (bE 12022700332203322) (R:=λQ=>(λ(B C E:Bool)(A:Int)=>(λ(F G H:Bool)=>(λ(I:Bool)=>I/\I/\F=false/\not C=false/\G/\G/\E=false/\not (ab m 12)=false/\H/\af .i64 A/\H/\ab 0 A/\ab A 11/\aa (bf y) (bf y)/\(∀J1:Nat->Value,Q (.d [.a .i64 (aG y (ν A 1)),.a .i64 0]))) (not F)) (not B) (not E) (and B C)) (ab (Neg.neg 10000000000000000) y) (ab y 10000000000000000) (not (ab 1 m)) (ο m 1)) (λ_=>by rfl) λQ' hQ=>?_) κ
   . have hi:i=0:=η
     subst hi;cases he;exact bR (cC.a0 Bb) ζ rfl Up hw
   . dsimp only;have e1:ν (ο m 1) 1=m:=η
     simp_all [az];omega
 grind
theorem A_:ak Tryz.prog cfg YS:=by
 refine au EG λargs t v he hv=>?_;unfold Qw at he;split at he
 . rename_i y m;cases he;obtain⟨⟨h1,h2,-⟩,hv⟩:=aF hv;have hm:=gX.1 h2;cases hv;have hy:=bX.1 h1;refine jD EG ai (bE 11411442200220) (R:=λQ=>(λ(A:AV)(F G:Bool)(B:Int)=>(λ(H:Bool)(C E:Int)=>(λ(I N:Bool)=>F/\G/\F/\G/\(H->(I->Q (.d [.a .i64 C,A]))/\(I=false->Q (.d [.a .i64 (IntKind.wrap .i64 C),A])))/\(H=false->(N->Q (.d [.a .i64 E,A]))/\(N=false->Q (.d [.a .i64 (IntKind.wrap .i64 E),A])))) (af .i64 C) (af .i64 E)) (af .i64 B) (ο B 1) (ο (IntKind.wrap .i64 B) 1)) (.a .i64 0) (and (ab (Neg.neg 10000000000000000) y) (ab y 10000000000000000)) (and (ab 1 m) (ab m 12)) (ν (aG y m) (d6 y m))) (λ_=>by rfl) λQ' hQ=>?_;try dsimp only
   have b1:=mst_bd (m:=m) hy hm.1 δ;have b2:=jk y m;simp_all [p9,az];omega
 grind
def Pq:dP:=λ
 | [.a .i64 y,.a .i64 m]=>some (aH [eO y,tL m] (.a0 (.d [.a .i64 (d6 y m),.a .i64 0])))
 | _=>none
def Hj:aQ:=aK YS 246 Pq
def fR(c:Int):Int:=sFrom c
def mR(c:Int):Int:=sMany c
def zI(c:Int):Bool:=ab 21 c&&ab c 41
def fq(y c:Int):Int:=dc (12*y+(fR c-1)+(mR c-1)) 12
def kX(y c:Int):Int:=d8 (12*y+(fR c-1)+(mR c-1)) 12
def Nz:dP:=λ
 | [.a .i64 y,.a .i64 c]=>some (aH [eO y,zI c] (.d0 (eO (fq y c)) λb=>bif b then .a0 (.d [.g [.a .i8 0,.a .i64 (aG y (fR c)),.a .i8 0,.a .i64 (aG (fq y c) (kX y c+2)-1)],.a .i64 0])else .a0 (.d [.g [.a .i8 0,.a .i64 0,.a .i8 0,.a .i64 0],.a .i64 6])))
 | _=>none
def Sq:dP:=λ
 | [.a .i64 a,.a .i64 b]=>some (aH [af .i64 (ν a b)] (.a0 (.d [.a .i64 (ν a b),.a .i64 0])))
 | _=>none
def Vj:dP:=λ
 | [.a .i64 c]=>some (aH [zI c] (.a0 (.d [.a .i64 (fR c),.a .i64 (mR c),.a .i64 0])))
 | _=>none
def Hx:aQ:=aK (pX Hj 311 Sq) 295 Vj
theorem VD(y m:Int){Q:AV->Prop}:gG Q (pT YS jE 246 [.a .i64 y,.a .i64 m]) (bE 12200332203322)=((λ(A B C:Bool)=>(λ(E F:Bool)=>(λ(G:Bool)=>G/\G/\E=false/\not B=false/\F/\F/\C=false/\not (ab m 12)=false/\and A B/\and (ab 1 m) (ab m 12)/\Q (.d [.a .i64 (d6 y m),.a .i64 0])) (not E)) (not A) (not C)) (ab (Neg.neg 10000000000000000) y) (ab y 10000000000000000) (not (ab 1 m))):=κ
theorem Cv:aY tab 246=some (dH 246,aL 246):=κ
theorem mg{c:Int}:zI c=true↔21<=c/\c<=41:=by grind [zI,aq]
theorem oJ(h:21<=c/\c<=41):c=21\/c=22\/c=23\/c=24\/c=25\/c=26\/c=27\/c=28\/c=29\/c=30\/c=31\/c=32\/c=33\/c=34\/c=35\/c=36\/c=37\/c=38\/c=39\/c=40\/c=41:=δ
theorem xH(h:21<=c/\c<=41):(1<=fR c/\fR c<=12)/\(3<=mR c/\mR c<=6):=by
 rcases oJ h with rfl|rfl|rfl|rfl|rfl|rfl|rfl|rfl|rfl|rfl|rfl|rfl|rfl|rfl|rfl|rfl|rfl|rfl|rfl|rfl|rfl<;>decide
theorem JT:ak Tryz.prog cfg Hj:=by
 refine au A_ λargs t v he hv=>?_;unfold Pq at he;split at he
 . rename_i y m;cases he;obtain⟨⟨h1,h2,-⟩,hv⟩:=aF hv;have hm:=gX.1 h2;cases hv;have hy:=bX.1 h1;refine kA A_ (L:=jE) Cv θ ai (bb λQ' hQ=>cg ((VD y m).mpr ?_)) κ;simp_all [az]
 grind
theorem OI:ky Tryz.prog cfg 311 Sq:=λargs t v he hv=>by
 unfold Sq at he;split at he
 . rename_i a b;cases he;obtain⟨h1,hv⟩:=ex hv;cases hv;refine Gh _ _ _ rfl ?_;grind [Tr.b0]
 grind
theorem KQ:ak Tryz.prog cfg Hx:=by
 refine au (eG JT OI) λargs t v he hv=>?_
 . unfold Vj at he;split at he
   . rename_i c;cases he;obtain⟨h1,hv⟩:=ex hv;rw[mg]at h1;cases hv;refine jD JT ai (bE 11100044703322) (R:=λQ=>(λ(A B C E G H N O:AV)(I:Bool)(F:Int)=>(λ(P:Bool)(U:List AV)(T:Nat)=>(λ(V:Nat)=>(λ(W Y:AV)=>(λ(Z u0:Bool)=>P/\P/\I=false/\ab 42 c=false/\af .i64 F/\ab 0 F/\aS T 21/\(Z->(u0->Q (.d [.a .i64 (dx W),.a .i64 (dx Y),.a .i64 0]))/\(u0=false->False))/\(Z=false->False)) (eB .i64 W) (eB .i64 Y)) (List.getD U V O) (List.getD U (HAdd.hAdd V 1) O)) (HAdd.hAdd 0 (HMul.hMul T 2))) (not I) [A,A,B,A,C,A,G,A,A,A,B,A,C,A,G,A,C,A,G,A,A,A,B,A,H,A,E,A,N,A,.a .i64 10,A,H,E,.a .i64 5,E,C,E,H,B,N,B] F.toNat) (.a .i64 3) (.a .i64 6) (.a .i64 9) (.a .i64 4) (.a .i64 12) (.a .i64 1) (.a .i64 7) (.d []) (not (ab 21 c)) (ο c 21)) (λ_=>by rfl) λQ' hQ=>?_;try dsimp only
     rcases oJ h1 with rfl|rfl|rfl|rfl|rfl|rfl|rfl|rfl|rfl|rfl|rfl|rfl|rfl|rfl|rfl|rfl|rfl|rfl|rfl|rfl|rfl<;>(repeat' first|exact trivial|refine⟨?_,?_⟩|intro)<;>first|rfl|exact hQ _ rfl|(rename_i h;exact absurd h ζ)
   grind
theorem MA(hS:ak Tryz.prog cfg S):ak Tryz.prog cfg (aK S 229 Nz):=by
 refine au hS λargs t v he hv=>?_;unfold Nz at he;split at he
 . rename_i y c;cases he;obtain⟨⟨h1,h2,-⟩,hv⟩:=aF hv;rw[bX]at h1;rw[mg]at h2;obtain⟨hf,hm⟩:=xH h2;have hv':Tr.b0 (bif eO (fq y c)then .a0 (.d [.g [.a .i8 0,.a .i64 (aG y (fR c)),.a .i8 0,.a .i64 (aG (fq y c) (kX y c+2)-1)],.a .i64 0])else .a0 (.d [.g [.a .i8 0,.a .i64 0,.a .i8 0,.a .i64 0],.a .i64 6]))=some v:=hv;have ids:aC v=[]:=by
    cases hb:eO (fq y c)<;>rw[hb]at hv'<;>cases hv'<;>simp[aC,bw]
   refine jD KQ ai (bE 15231022002010004324002000200270332203370220020) (R:=λQ=>(λ(A C:AV)(N O P T:Bool)(U V W:Int)=>(λ(Y Z:Bool)(u0:Int)(u1:Prop)=>(λ(u2 u3:Bool)(E:Int)=>(λ(F:Bool)(B G:Int)=>(λ(u4 u5:Bool)=>(λ(H u6:Bool)=>(λ(I:Bool)=>(λ(u7:Prop)=>and (ab 21 c) (ab c 41)/\and N O/\and P T/\af .i64 U/\u2/\u2/\Y=false/\not O=false/\u3/\u3/\Z=false/\not T=false/\af .i64 V/\af .i64 W/\af .i64 u0/\F/\F/\F/\(I->I/\H=false/\(u6->u1)/\(u6=false->af .i64 B/\and u4 u5/\and (ab 1 B) (ab B 12)/\Q (.d [.g [A,.a .i64 (aG y (fR c)),A,.a .i64 (HSub.hSub (aG G (HAdd.hAdd B 1)) 1)],C])))/\(u7->u7/\H/\u1)) (I=false)) (not H)) (not u4) (not u5)) (ab (Neg.neg 10000000000000000) G) (ab G 10000000000000000)) (af .i64 E) (ν (d8 E 12) 1) (dc E 12)) (not Y) (not Z) (ν u0 U)) (not N) (not P) (ν V W) (Q (.d [.g [A,C,A,C],.a .i64 6]))) (.a .i8 0) (.a .i64 0) (ab (Neg.neg 10000000000000000) y) (ab y 10000000000000000) (ab 1 (fR c)) (ab (fR c) 12) (ο (mR c) 1) (Int.mul 12 y) (ο (fR c) 1)) (λ_=>by rfl) (hi:=ids) λQ' hQ=>?_;try dsimp only
   have yes:eO (fq y c)->Q' (.d [.g [.a .i8 0,.a .i64 (aG y (fR c)),.a .i8 0,.a .i64 (aG (fq y c) (kX y c+1+1)-1)],.a .i64 0]):=λh=>by
    rw[h]at hv';cases hv';grind
   have no:eO (fq y c)=false->Q' (.d [.g [.a .i8 0,.a .i64 0,.a .i8 0,.a .i64 0],.a .i64 6]):=λh=>by
    rw[h]at hv';cases hv';grind
   simp_all [dc,fq,d8,kX,az,eO];omega
 grind
def NO:dP:=λ
 | [.g [.b ng,.b lg,.e s,.a .i64 e,.a .i64 g,.e mo,.e da,.a .u8 a,.a .u8 b,.a .u8 c]]=>some (aH [ξ s.length 1000,ξ mo.length 1000,ξ da.length 1000,af .i64 e,af .i64 g,af .u8 a,af .u8 b,af .u8 c] (.a0 (.d [.a .i64 (aR mo),.b (!(aa (aR mo) 0))])))
 | _=>none
def F0:aQ:=aK (aK (aK FY 167 NO) 146 Ol) 229 Nz
def ao4:dP:=λ
 | [.g [.b ng,.b lg,.e s,.a .i64 e,.a .i64 g,.e mo,.e da,.a .u8 a,.a .u8 b,.a .u8 c]]=>some (aH [ξ s.length 140737488351232,ξ mo.length 140737488351232,ξ da.length 140737488351232,af .i64 e,af .i64 g,af .u8 a,af .u8 b,af .u8 c] (.a0 (.d [.a .i64 (aR mo),.b (!(aa (aR mo) 0))])))
 | _=>none
def arA:aQ:=aK (aK (aK FY 167 ao4) 146 Ol) 229 Nz
def TZ:dP:=λ
 | [.g [.b ng,.b lg,.e s,.a .i64 e,.a .i64 g,.e mo,.e da,.a .u8 a,.a .u8 b,.a .u8 c]]=>some (aH [ξ s.length 140737488351232,ξ mo.length 140737488351232,ξ da.length 140737488351232,af .i64 e,af .i64 g,af .u8 a,af .u8 b,af .u8 c] (.a0 (.b (oc ng lg s e g mo))))
 | _=>none
def Ls:aQ:=aK arA 168 TZ
def SU:dP:=λ
 | [.g [.b ng,.b lg,.e s,.a .i64 e,.a .i64 g,.e mo,.e da,.a .u8 a,.a .u8 b,.a .u8 c]]=>some (aH [ξ s.length 140737488351232,ξ mo.length 140737488351232,ξ da.length 140737488351232,af .i64 e,af .i64 g,af .u8 a,af .u8 b,af .u8 c] (.a0 (.a .i64 (nH ng lg s e g mo da a b c))))
 | _=>none
theorem M_:aY tab 167=some (dH 167,aL 167):=κ
theorem ZB{P:Int->Prop}{b:Bool}{x y:Int}(hx:P x)(hy:P y):P (bif b then x else y):=η
theorem qH(mo:List UInt8):aR mo=0\/21<=aR mo/\aR mo<=41:=by
 unfold aR
 (repeat' refine ZB (P:=λz=>z=0\/21<=z/\z<=41) ?_ ?_)<;>decide
theorem KJ(h:21<=c/\c<=41):(fR c+mR c-2<12↔¬(c=24\/c=28\/c=30))/\0<=fR c+mR c-2/\fR c+mR c-2<24:=by
 rcases oJ h with rfl|rfl|rfl|rfl|rfl|rfl|rfl|rfl|rfl|rfl|rfl|rfl|rfl|rfl|rfl|rfl|rfl|rfl|rfl|rfl|rfl<;>decide
theorem QT(y:Int){c:Int}(h:21<=c/\c<=41):((c=24\/c=28\/c=30)->fq y c=y+1)/\(¬(c=24\/c=28\/c=30)->fq y c=y):=by
 obtain⟨h1,h2,h3⟩:=KJ h;grind [fq,dc]
theorem FM:ak Tryz.prog cfg F0:=by
 refine MA (Ks (au SJ λargs t v he hv=>?_));unfold NO at he;split at he
 . rename_i ng lg s e g mo da a b c;cases he;obtain⟨⟨h1,h2,h3,h4,h5,h6,h7,h8,-⟩,hv⟩:=aF hv;rw[al]at h1 h2 h3;rw[LT]at h4 h5;rw[aE]at h6 h7 h8;simp only[eH,eE]at h6 h7 h8;cases hv;refine dy M_ κ λm w hG=>?_;have:=Go.Proofs.YtcffhjfdlflbgaaGreatDoor.Season (dt ng lg s e g mo da a b c) w hG ⟨⟨by show s.length<=_;omega,by show mo.length<=_;omega,by show da.length<=_;omega⟩,⟨h4,h5⟩,⟨h6.1,h6.2⟩,⟨h7.1,h7.2⟩,⟨h8.1,h8.2⟩⟩;rw[show Go.Proofs.YtcffhjfdlflbgaaGreatDoor.seas (dt ng lg s e g mo da a b c)=aR mo from Nr mo]at this;have e:decide (aR mo≠0)=!(aa (aR mo) 0):=by
    grind [aw]
   simp_all [aD,aj]
 grind
theorem adu:ak Tryz.prog cfg arA:=by
 refine MA (Ks (au SJ λargs t v he hv=>?_));unfold ao4 at he;split at he
 . rename_i ng lg s e g mo da a b c;cases he;obtain⟨⟨h1,h2,h3,h4,h5,h6,h7,h8,-⟩,hv⟩:=aF hv;rw[al]at h1 h2 h3;rw[LT]at h4 h5;rw[aE]at h6 h7 h8;simp only[eH,eE]at h6 h7 h8;cases hv;refine dy M_ κ λm w hG=>?_;have:=Go.Proofs.YtcffhjfdlflbgaaGreatDoor.Season (dt ng lg s e g mo da a b c) w hG ⟨⟨by show s.length<=_;omega,by show mo.length<=_;omega,by show da.length<=_;omega⟩,⟨h4,h5⟩,⟨h6.1,h6.2⟩,⟨h7.1,h7.2⟩,⟨h8.1,h8.2⟩⟩;rw[show Go.Proofs.YtcffhjfdlflbgaaGreatDoor.seas (dt ng lg s e g mo da a b c)=aR mo from Nr mo]at this;have e:decide (aR mo≠0)=!(aa (aR mo) 0):=by
    grind [aw]
   simp_all [aD,aj]
 grind
theorem Qh:ak Tryz.prog cfg Ls:=by
 refine au adu λargs t v he hv=>?_;unfold TZ at he;split at he
 . rename_i ng lg s e g mo da a b c;cases he;obtain⟨⟨h1,h2,h3,h4,h5,h6,h7,h8,-⟩,hv⟩:=aF hv;rw[al]at h1 h2 h3;rw[aE]at h4 h5 h6 h7 h8;simp only[eH,eE]at h4 h5 h6 h7 h8;cases hv;refine jD adu ai (bE 10230003810233110104400111010444042005143020524227700063323310233110104400111010444042005143020524227700614370242202242005) (R:=λQ=>(λ(C N W Y Z:Bool)(E O:Int)(F G:Prop)=>(λ(P T U u0 u1 u2 u3 u4:Bool)(H:Prop)=>(λ(A I:Bool)(u5 u6:Prop)=>(λ(B V:Prop)=>(λ(u7:Prop)=>N/\(A->A/\A/\A/\A/\(C->C/\C/\A/\C/\u5/\(Y->F)/\(Y=false->u7))/\(H->H/\H/\A/\H/\u5/\u7))/\(B->B/\B/\B/\B/\B/\P/\F)) (N/\ξ mo.length 140737488351232/\ξ da.length 140737488351232/\af .i64 e/\af .i64 g/\af .u8 a/\af .u8 b/\af .u8 c/\(I->I/\I/\T=false/\(u0->G)/\(u0=false->ξ s.length 1000/\(u1->(u2->(U->(u3->G)/\(u3=false->F))/\u6)/\(u2=false->False))/\(u1=false->(U->(u4->G)/\(u4=false->F))/\u6)))/\(V->V/\V/\T/\G))) (A=false) (I=false)) (not P) (not T) (P=false) (U=false->False)) (not (aa (cond W 0 6) 0)) (not (not (aa E 0))) (and (ab 21 E) (ab E 41)) (not Z) (and W Z) (and (ab (Neg.neg 10000000000000000) O) (ab O 10000000000000000)) (and (ab (Neg.neg 10000000000000000) (fq O E)) (ab (fq O E) 10000000000000000)) (and (ab (Neg.neg 10000000000000000) (fq 0 E)) (ab (fq 0 E) 10000000000000000)) (C=false)) (not (ab g 0)) (ξ s.length 140737488351232) (aV ng lg s e g) (not (ae mo [])) (Nat.beq (dT s 88 88) 0) (aR mo) (dY ng s e) (Q (.b false)) (Q (.b true))) (λ_=>by kernel_rfl) λQ' hQ=>?_;try dsimp only
   have yes:oc ng lg s e g mo->Q' (.b true):=λh=>hQ _ (by rw[h]);have no:¬oc ng lg s e g mo->Q' (.b false):=λh=>hQ _ η;unfold oc at yes no;rw[zAc]at yes no;have sc:=qH mo;have sq:=λh=>@QT (dY ng s e) (aR mo) h;have onum:=@Bk ng lg s e g;have vt:ng->dY ng s e = -(fa s e.toNat:Int):=λh=>by rw[h];rfl
   have vf:ng=false->dY ng s e=(fa s e.toNat:Int):=λh=>by rw[h];rfl
   clear hQ;cases hO:aV ng lg s e g with
   | false=>
     simp_all [az]
   | true=>
     have ln:=Wi hO;rw[hO]at yes no;have onum:=onum hO;simp only[cond_true,Bool.true_and,az,reduceCtorEq]at yes no ⊢;by_cases hx:dT s 88 88=0
     . obtain⟨k1,k2,k3,k4,k5⟩:=onum hx;rw[hx,k4]at yes no;rw[hx];clear onum k3 k4;generalize fq (dY ng s e) (aR mo)=sy at *;generalize fq 0 (aR mo)=s0 at *;generalize dY ng s e=vr at *;generalize fa s e.toNat=mv at *;generalize aR mo=S at *;generalize ae mo []=me at *;have sq1:¬S=0->(S=24\/S=28\/S=30)->sy=vr+1:=λh=>(sq δ).1;have sq2:¬S=0->¬(S=24\/S=28\/S=30)->sy=vr:=λh=>(sq δ).2;clear sq hx hO;cases ng with
       | true=>
         have vr':=vt rfl;clear vt vf;have sb:¬S=0->-10000000000000000<=sy/\sy<=10000000000000000:=λh=>by
          by_cases hc:S=24\/S=28\/S=30
          . have:=sq1 h hc;omega
          . have:=sq2 h hc;omega
         simp only[reduceCtorEq,and_false,not_false_eq_true,or_true,and_true,true_and]at yes no
         (repeat' first|exact trivial|refine⟨?_,?_⟩|intro)<;>first|omega|(exfalso;assumption)|(apply yes;grind)|(apply no;grind)|grind
       | false=>
         have vr':=vf rfl;clear vt vf;have sb:¬S=0->-10000000000000000<=sy:=λh=>by
          by_cases hc:S=24\/S=28\/S=30
          . have:=sq1 h hc;omega
          . have:=sq2 h hc;omega
         have sb2:¬S=0->10000000000000000<sy->(S=24\/S=28\/S=30)/\mv=10000000000000000:=λh h'=>by
          by_cases hc:S=24\/S=28\/S=30
          . have:=sq1 h hc;exact⟨hc,by omega⟩
          . have:=sq2 h hc;omega
         have sb3:¬S=0->sy<=10000000000000000->¬(S=24\/S=28\/S=30)\/¬mv=10000000000000000:=λh h'=>by
          by_cases hc:S=24\/S=28\/S=30
          . have:=sq1 h hc;exact .inr δ
          . exact .inl hc
         simp only[and_true,true_and]at yes no
         (repeat' first|exact trivial|refine⟨?_,?_⟩|intro)<;>first|omega|(exfalso;assumption)|(apply yes;grind)|(apply no;grind)|grind
     . clear onum;generalize fq (dY ng s e) (aR mo)=sy at *;generalize fq 0 (aR mo)=s0 at *;generalize dY ng s e=vr at *;generalize fa s e.toNat=mv at *;generalize aR mo=S at *;generalize dT s 88 88=X at *;generalize magOk s e.toNat=mk at *;generalize ae mo []=me at *
       (repeat' first|exact trivial|refine⟨?_,?_⟩|intro)<;>first|omega|(exfalso;assumption)|(apply yes;grind)|(apply no;grind)|grind
 . cases he
theorem pr(mo da:List UInt8):1<=dq mo da/\dq mo da<=3:=by
 grind [dq]
theorem SN(hS:ak Tryz.prog cfg S):ak Tryz.prog cfg (aK S 94 SU):=by
 refine au hS λargs t v he hv=>?_;unfold SU at he;split at he
 . rename_i ng lg s e g mo da a b c;cases he;obtain⟨⟨h1,h2,h3,h4,h5,h6,h7,h8,-⟩,hv⟩:=aF hv;rw[al]at h1 h2 h3;rw[aE]at h4 h5 h6 h7 h8;simp only[eH,eE]at h4 h5 h6 h7 h8;cases hv;refine jD Qh ai (bE 122700056335330810202573220240005331227000563353308107382327024003812270005633533081227005614232200020732702401422000202422401422770062277006) (R:=λQ=>(λ(A H I N O P V W Y Z u0 u1:Bool)(T:Int)(u2:Prop)=>(λ(B F:Bool)(E u3 u4:Prop)=>(λ(C G U:Prop)=>(λ(u6:Prop->Prop)=>(λ(u5:Prop->Prop)=>u5 (u5 ((Z->Q (.a .i64 6))/\(Z=false->(F->F/\F/\(B->B/\B/\B/\B/\(u0->Q (.a .i64 7))/\(u0=false->(A->u6 (B/\B/\B/\B/\A/\P=false/\A/\(u1->u2)/\(u1=false->u4)))/\U))/\(C->C/\C/\C/\C/\(A->u6 (C/\C/\C/\C/\A/\P/\A/\u2))/\U))/\(G->G/\G/\(A->A/\A/\A/\G/\A/\O/\A/\A/\A/\u2)/\U))))) (λu7=>V/\W/\Y/\af .i64 e/\af .i64 g/\H/\I/\N/\u7)) (λu7=>A/\A/\A/\F/\A/\u3/\A/\u7)) (B=false) (F=false) (E->E/\E/\E/\E/\E/\E/\E/\u4)) (not P) (not O) (A=false) (O=false) (H/\I/\N/\ab 1 T/\ab T 3/\Q (.a .i64 (errMk a b c T)))) (not (ae da [])) (af .u8 a) (af .u8 b) (af .u8 c) (ae mo []) (not (aa (aR mo) 0)) (ξ s.length 140737488351232) (ξ mo.length 140737488351232) (ξ da.length 140737488351232) (not (oc ng lg s e g mo)) (not (eW mo 12)) (not (eW da 31)) (dq mo da) (Q (.a .i64 8))) (λ_=>by rfl) λQ' hQ=>?_;try dsimp only
   have fin:∀v:Int,v=nH ng lg s e g mo da a b c->Q' (.a .i64 v):=λv h=>hQ _ (by rw[h]);have cb:=pr mo da;have sc:=qH mo;unfold nH at fin;clear hQ;simp only[az,reduceCtorEq];generalize errMk a b c (dq mo da)=em at *;generalize dq mo da=cm at *;generalize oc ng lg s e g mo=ok at *;generalize aR mo=S at *;generalize eW mo 12=m12 at *;generalize eW da 31=d31 at *;generalize ae mo []=me at *;generalize ae da []=de at *
   (repeat' first|exact trivial|refine⟨?_,?_⟩|intro)<;>first|omega|assumption|(apply fin;grind)|grind
 . cases he
end Go.Ev
