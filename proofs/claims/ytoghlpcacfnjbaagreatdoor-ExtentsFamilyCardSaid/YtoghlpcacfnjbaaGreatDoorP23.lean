import Derived.Test.YtoghlpcacfnjbaaGreatDoorP22
set_option linter.all false
set_option maxRecDepth 100000
set_option maxHeartbeats 4000000
namespace Go.Ev
open Go Go.Proofs Go.Proofs.YtoghlpcacfnjbaaGreatDoor
variable{o:aB}
def RH:dW:=λvs o=>match vs,o with
 | [.d [c0,c1],.a .i64 g,.a .i64 n,.b r],⟨0,[],[]⟩=>some (aH [aa n 1,bQ r false,ab 0 g,ab g 99] (.d0 (eW [c0,c1] g.toNat) λb=>bif b then .f0 λJ=>.a0 (.c,[.d [c0,c1],.a .i64 g,.i (J 0),.b true],dO)else .a0 (.b 0,[.d [c0,c1],.a .i64 g,.a .i64 (Int.add g 1),.b false],dO)))
 | _,_=>none
def Vq:cx:=iz jE 0 (d9 46 [0,1,5,4] RH)
def V9:dP:=λargs=>match args with
 | [.d s,.a .i64 g]=>some (aH [ab 0 g,ab g 99] (.a0 (.b (eW s g.toNat))))
 | _=>none
def Xq:dP:=λargs=>match args with
 | [.h [.b ng,.b lg,.d s,.a .i64 e,.a .i64 g,.d mo,.d da,.a .u8 a,.a .u8 b,.a .u8 c]]=>some (.a0 (.a .i64 (dq mo da)))
 | _=>none
def Xy:dP:=λargs=>match args with
 | [.h [.a .u8 a,.a .u8 b,.a .u8 c],.a .i64 n]=>some (aH [af .u8 a,af .u8 b,af .u8 c,ab 1 n,ab n 3] (.a0 (.a .i64 (errMk a b c n))))
 | _=>none
def D1s:aQ:=bb (bb (bb Zg 126 V9) 128 Xq) 127 Xy
def GQ:bj tab 126=some (dH 126,aL 126):=by kernel_rfl
def Dn:(bz (aL 126)).map (·.1)=[0]:=by kernel_rfl
theorem vwT{C:bg}{kb tn:Nat}{rel:List Nat}{vs vs' vs'':List AV}{o' o'':aB}(h1:VW cfg C kb tn rel vs o vs' o')(h2:VW cfg C kb tn rel vs' o' vs'' o''):VW cfg C kb tn rel vs o vs'' o'':=λJ=>(h1 J).c0 λs ⟨J',e⟩=>by rw[e];exact h2 J'
theorem vwD{tn:Nat}{rel:List Nat}{vs vs':List AV}(hle:o.le=[])(hvs:yw (kG 14 [] 20) vs=some vs'):VW cfg (Cw cfg []) 0 tn rel vs o vs' dO:=
 VW.d0 dI.lv (C:=Cw cfg []) (kb:=0) (sel:=[]) zW (Nat.zero_le _) (λs hs=>by cases hs) List.nodup_nil (λp hp=>by rw[hle]at hp;cases hp) hle.symm rfl rfl (λi hi=>absurd hi (Nat.not_lt_zero i)) (λt ht=>absurd ht (Nat.not_lt_zero t)) hvs
theorem LP{c0 c1:UInt8}{n:Int}:agr [c0,c1] n=true↔(c0.toNat=88\/(c0.toNat:Int)=48+n/10)/\(c1.toNat=88\/(c1.toNat:Int)=48+n%10):=by
 unfold agr;rw[zAa,zAa,zAb,pN,pN];exact⟨λh=>h.2,λh=>⟨rfl,h⟩⟩
theorem P6:cu Tryz.prog (cH cfg Zg) (Cw cfg []) (lb 126 0) 46 [0,1,5,4] RH:=by
 intro vs o t Q hv hq J;unfold RH at hv;split at hv
 . rename_i c0 c1 g n r;cases hv;obtain⟨h1,hq1⟩:=cZ hq;obtain⟨h2,hq2⟩:=cZ hq1;obtain⟨h3,hq3⟩:=cZ hq2;obtain⟨h4,hq4⟩:=cZ hq3;clear hq hq1 hq2 hq3;rw[ao]at h1;rw[Jl]at h2;rw[aq]at h3 h4;subst h1 h2;have hq:Tr.wp Q (bif eW [c0,c1] g.toNat then .f0 λJ=>.a0 (.c,[.d [c0,c1],.a .i64 g,.i (J 0),.b true],dO)else .a0 (.b 0,[.d [c0,c1],.a .i64 g,.a .i64 (g+1),.b false],dO)):=hq4;refine ia nt rfl rfl ai (ι:={i:Nat // i<=g.toNat/\∀k,k<i->agr [c0,c1] ((k:Int)+1)=false}) (λx=>[.d [c0,c1],.a .i64 g,.a .i64 ((x.1:Int)+1),.b false]) (λ_=>dO) (λx=>g.toNat-x.1) 0 (λ_=>Nat.le_refl _) (λx J=>?_) (Nat.le_refl _) (λJ=>Wk.a0 ⟨⟨0,Nat.zero_le _,λk hk=>absurd hk (Nat.not_lt_zero k)⟩,J,rfl⟩) J;obtain⟨i,hi,hp⟩:=x;dsimp only;refine jJ (bE 110020381214030202002002400523812033058107381214232202002002422002432020020024000220704) (R:=λQ=>(λ(N O u0 u2:AV)(I W Y Z u1:Int)=>(λ(H U:Bool)(P T:Int)=>(λ(A C E u4:Bool)(V u3 u5:Prop)=>(λ(B F G u6:Prop)=>(ab ((i:Int)+1) g->af .i64 I/\af .u8 I/\af .u8 P/\af .u8 W/\af .u8 T/\(E->E/\E/\E/\E/\U=false/\(C->C/\C/\C/\(A->A/\A/\A/\A/\C/\u3/\C/\u6)/\(B->B/\B/\B/\B/\C/\H/\C/\V))/\(F->F/\F/\F/\F/\F/\u5))/\(G->G/\G/\G/\G/\U/\(A->A/\A/\A/\A/\u3/\u6)/\(B->B/\B/\B/\B/\H/\V)))/\(ab ((i:Int)+1) g=false->Q (.b 0,[N,O,u0,u2],⟨0,[],[]⟩))) (A=false) (C=false) (E=false) ((u4->V)/\(u4=false->u5))) (not H) (aa Y P) (not U) (aa Z T) (Q (.c,[N,O,u0,.b true],⟨1,[.a [.a .u8 P,.a .u8 T] true none],[]⟩)) (H=false) (af .i64 u1/\Q (.a,[N,O,.a .i64 u1,u2],⟨1,[.a [.a .u8 P,.a .u8 T] true none],[]⟩))) (aa Z 88) (aa Y 88) (Int.add 48 I) (Int.add 48 W)) (.d [c0,c1]) (.a .i64 g) (.a .i64 ((i:Int)+1)) (.b false) (Int.tdiv ((i:Int)+1) 10) (Int.tmod ((i:Int)+1) 10) (Int.ofNat c0.toNat) (Int.ofNat c1.toNat) (Int.add ((i:Int)+1) 1)) (λ_=>by kernel_rfl) λQ' hQ=>?_;try dsimp only
   have t1:((i:Int)+1).tdiv 10=((i:Int)+1)/10:=Int.tdiv_eq_ediv_of_nonneg (by omega);have t2:((i:Int)+1).tmod 10=((i:Int)+1)%10:=Int.tmod_eq_emod_of_nonneg (by omega);have yes:i<g.toNat->agr [c0,c1] ((i:Int)+1)->Q' (.c,[.d [c0,c1],.a .i64 g,.a .i64 ((i:Int)+1),.b true],⟨1,[.a [.a .u8 (48+((i:Int)+1)/10),.a .u8 (48+((i:Int)+1)%10)] true none],[]⟩):=λh ha=>by
    rw[Ob h ha,cond_true]at hq;exact hQ (.c,_,_) ⟨_,_,vwT (vwD rfl rfl) (VW.c0 (.same (.same (.int (.same .nil)))) rfl),hq (jv [_])⟩
   have no:i<g.toNat->¬agr [c0,c1] ((i:Int)+1)->Q' (.a,[.d [c0,c1],.a .i64 g,.a .i64 ((i:Int)+1+1),.b false],⟨1,[.a [.a .u8 (48+((i:Int)+1)/10),.a .u8 (48+((i:Int)+1)%10)] true none],[]⟩):=λh ha=>
    hQ (.a,_,_) ⟨⟨i+1,by omega,λk hk=>by
     rw[Bool.not_eq_true]at ha;by_cases e:k=i
     . subst e;exact ha
     . exact hp k (by omega)⟩,by dsimp only;omega,vwD rfl rfl⟩
   have fin:¬i<g.toNat->Q' (.b 0,[.d [c0,c1],.a .i64 g,.a .i64 ((i:Int)+1),.b false],dO):=λh=>by
    obtain rfl:i=g.toNat:=by omega
    rw[GB.2 hp,cond_false]at hq;exact hQ (.b 0,_,_) ⟨_,_,VW.a0 (by rw[Int.toNat_of_nonneg h3]) rfl,hq⟩
   rw[LP]at yes no;clear hQ hq hq4 hp;rw[t1,t2];simp only[az,reduceCtorEq]
   (repeat' first|exact trivial|refine⟨?_,?_⟩|intro)<;>first|omega|exact fin (by omega)|exact yes (by omega) (by omega)|exact no (by omega) (by omega)
 . cases hv
theorem SJ:ak Tryz.prog cfg D1s:=by
 refine au (au (au nt λargs t v he hv=>?_) λargs t v he hv=>?_) λargs t v he hv=>?_
 . unfold V9 at he;split at he
   . rename_i s g;cases he;obtain⟨⟨h1,h2,-⟩,hv⟩:=aF hv;rw[aq]at h1 h2;cases hv;by_cases hs:s.length=2
     . match s,hs with
       | [c0,c1],_=>
         refine kV nt (L:=Vq) GQ (by simp) (dv Dn λi hi e he st Q hw=>?_) (jJ (bE 11422000) (R:=λQ=>(λ(A:Bool)=>ab 0 g/\ab g 99/\(A->(∀J1 J2:Nat->Value,Q (.b true)))/\(A=false->(∀J1:Nat->Value,Q (.b false)))) (eW [c0,c1] g.toNat)) (λ_=>by kernel_rfl) λQ' hQ=>?_) (by simp[aC])
         . have hi:i=0:=by simp at hi;omega
           subst hi;cases he;exact bR (cC.a0 nt) (by decide) rfl P6 hw
         . try dsimp only
           have fin:∀b:Bool,b=eW [c0,c1] g.toNat->Q' (.b b):=λb h=>hQ _ (by rw[h]);clear hQ;generalize eW [c0,c1] g.toNat=sa at *;simp only[az,reduceCtorEq]
           (repeat' first|exact trivial|refine⟨?_,?_⟩|intro)<;>first|omega|(apply fin;symm;assumption)
     . refine kV nt (L:=Vq) GQ (by simp) (dv Dn λi hi e he st Q hw=>?_) (jJ (.t .z) (R:=λQ=>not (aa (Int.ofNat s.length) 2)/\Q (.b false)) (λ_=>by kernel_rfl) λQ' hQ=>?_) (by simp[aC])
       . have hi:i=0:=by simp at hi;omega
         subst hi;cases he;exact bR (cC.a0 nt) (by decide) rfl P6 hw
       . have sn:eW s g.toNat=false:=GB.2 λk hk=>by unfold agr;rw[decide_eq_false hs];rfl
         simp only[az,reduceCtorEq];exact⟨by omega,hQ _ (by rw[sn])⟩
   . cases he
 . unfold Xq at he;split at he
   . rename_i ng lg s e g mo da a b c;cases he;cases hv;refine jD nt ai (bE 1001000405100100040054005) (R:=λQ=>(λ(A B:Bool)(C:Prop)=>(λ(E:Prop)=>(B->(A->Q (.a .i64 3))/\(E->C))/\(B=false->(A->C)/\(E->Q (.a .i64 1)))) (A=false)) (not (ae da [])) (not (ae mo [])) (Q (.a .i64 2))) (λ_=>by kernel_rfl) λQ' hQ=>?_;try dsimp only
     unfold dq at hQ;generalize ae mo []=p at *;generalize ae da []=q at *;cases p<;>cases q<;>(repeat' first|exact trivial|refine⟨?_,?_⟩|intro)<;>first|exact hQ _ rfl|(exfalso;simp_all;done)
   . cases he
 . unfold Xy at he;split at he
   . rename_i a b c n;cases he;obtain⟨⟨h1,h2,h3,h4,h5,-⟩,hv⟩:=aF hv;rw[aE]at h1 h2 h3;simp only[eH,eE]at h1 h2 h3;rw[aq]at h4 h5;cases hv;refine jD nt ai (bE 1530310014020245164000530310014020225164051402024516400053033516400053322) (R:=λQ=>(λ(B C H I N O P T:Bool)(A E U:Prop)=>(λ(V:Bool)(F G W Y:Prop)=>V/\V/\H=false/\not (ab n 3)=false/\(I->A)/\(I=false->E/\E/\E/\(N->A)/\(N=false->(C->C/\C/\(O->A)/\(O=false->(P->A)/\(W->B/\Y)))/\(F->F/\F/\(P->A)/\(W->(B->Y)/\(G->G/\G/\U)))))) (not H) (C=false) (B=false) (P=false) (B/\B/\(T->A)/\(T=false->U))) (ab n 2) (ab n 1) (not (ab 1 n)) (not (ab a 3)) (not (ab b 3)) (not (aa b 0)) (not (ab c 3)) (not (aa c 0)) (Q (.a .i64 9)) (ab n 0=false) (Q (.a .i64 0))) (λ_=>by kernel_rfl) λQ' hQ=>?_;try dsimp only
     have fin:∀v:Int,v=errMk a b c n->Q' (.a .i64 v):=λv h=>hQ _ (by rw[h]);clear hQ;unfold errMk at fin;simp only[az,reduceCtorEq]
     (repeat' first|exact trivial|refine⟨?_,?_⟩|intro)<;>first|omega|(apply fin;(repeat' split)<;>omega)
   . cases he
def iE(y:Int):Int:=lp y
def bf(y:Int):Int:=yst y
def qU(y:Int):Int:=before y
def dc(a b:Int):Int:=a/b
def d8(a b:Int):Int:=a%b
def UM:dP:=λargs=>match args with
 | [.a .i64 a,.a .i64 b]=>some (aH [af .i64 a,ab 2 b,ab b 200000] (.a0 (.e [.a .i64 (dc a b),.a .i64 0])))
 | _=>none
def WC:dP:=λargs=>match args with
 | [.a .i64 a,.a .i64 b]=>some (aH [af .i64 a,ab 2 b,ab b 200000] (.a0 (.e [.a .i64 (d8 a b),.a .i64 0])))
 | _=>none
def Z8:aQ:=bb (bb gZ 202 UM) 203 WC
def IM(y:Int):Bool:=ab (-20000000000000000) y&&ab y 20000000000000000
def VO:dP:=λargs=>match args with
 | [.a .i64 y]=>some (aH [IM y] (.a0 (.a .i64 (qU y))))
 | _=>none
def Vr:dP:=λargs=>match args with
 | [.a .i64 y]=>some (aH [IM y] (.a0 (.a .i64 (bf y))))
 | _=>none
def XA2:aQ:=bb Z8 245 VO
def XA3:aQ:=bb XA2 206 Vr
theorem Lx{a b:Int}(hb:0<b):(a.tmod b<0->a.tdiv b-1=dc a b/\a.tmod b+b=d8 a b)/\(0<=a.tmod b->a.tdiv b=dc a b/\a.tmod b=d8 a b)/\-b<a.tmod b/\a.tmod b<b/\(a.tmod b<0->a<0)/\(0<a.tmod b->0<a):=by
 have e:=tq_cases a b hb;have h1:=Int.lt_tmod_of_pos a hb;have h2:=Int.tmod_lt_of_pos a hb;have h3:0<=a->0<=a.tmod b:=λh=>Int.tmod_nonneg b h;have h4:a<=0->a.tmod b<=0:=λh=>by
  have:=Int.tmod_nonneg b (show 0<=-a by omega);rw[Int.neg_tmod]at this;omega
 unfold dc d8;refine⟨λh=>?_,λh=>?_,h1,h2,λh=>?_,λh=>?_⟩
 . rw[if_pos (by omega),if_pos (by omega)]at e;exact⟨e.1.symm,e.2.symm⟩
 . rw[if_neg (by omega),if_neg (by omega)]at e;exact⟨e.1.symm,e.2.symm⟩
 . omega
 . omega
theorem Ja:ak Tryz.prog cfg Z8:=by
 refine au (au aW λargs t v he hv=>?_) λargs t v he hv=>?_
 . unfold UM at he;split at he
   . rename_i a b;cases he;obtain⟨⟨h1,h2,h3,-⟩,hv⟩:=aF hv;rw[aE]at h1;rw[aq]at h2 h3;simp only[eH,eE]at h1;cases hv;refine jD aW ai (bE 1033811144227421033811144227424233) (R:=λQ=>(λ(C:AV)(A F G:Bool)(E:Int)=>(λ(N:Bool)(H T:Int)(B O P:Prop)=>(λ(U:Bool)(I:Int)(V:Prop)=>(λ(W:Bool)=>aa b 0=false/\aa b (Neg.neg 1)=false/\F/\(N->F/\(A->A/\A/\A/\A/\A/\(G->(U->Q (.e [.a .i64 H,C]))/\(U=false->Q (.e [.a .i64 (IntKind.wrap .i64 H),C])))/\(O->P))/\(B->B/\B/\B/\B/\B/\P))/\(N=false->F/\(A->A/\A/\A/\A/\A/\(G->(W->Q (.e [.a .i64 I,C]))/\(W=false->Q (.e [.a .i64 (IntKind.wrap .i64 I),C])))/\(O->V))/\(B->B/\B/\B/\B/\B/\V))) (af .i64 I)) (af .i64 H) (Int.sub T 1) (Q (.e [.a .i64 T,C]))) (af .i64 E) (Int.sub E 1) (IntKind.wrap .i64 E) (A=false) (G=false) (Q (.e [.a .i64 E,C]))) (.a .i64 0) (not (aa (Int.tmod a b) 0)) (not (aa b 0)) (not (bQ (not (ab 0 a)) (not (ab 0 b)))) (Int.tdiv a b)) (λ_=>by kernel_rfl) λQ' hQ=>?_;try dsimp only
     obtain⟨k1,k2,k3,k4,k5,k6⟩:=@Lx a b (by omega);have tb:=tdiv_bd a b h2 h1.1 h1.2;have w:IntKind.wrap .i64 (a.tdiv b)=a.tdiv b:=Bx .i64 _ (by simp only[eH];omega) (by simp only[eE];omega);have fin:∀n:Int,n=dc a b->Q' (.e [.a .i64 n,.a .i64 0]):=λn h=>hQ _ (by rw[h]);clear hQ;have e0:ab 0 b=true:=aq.mpr (by omega);simp only[w,e0,Bool.not_true];generalize a.tdiv b=q at *;generalize a.tmod b=r at *;simp only[az,reduceCtorEq]
     (repeat' first|exact trivial|refine⟨?_,?_⟩|intro)<;>first|omega|(apply fin;exact(k1 (by omega)).1)|(apply fin;exact(k2 (by omega)).1)
   . cases he
 . unfold WC at he;split at he
   . rename_i a b;cases he;obtain⟨⟨h1,h2,h3,-⟩,hv⟩:=aF hv;rw[aE]at h1;rw[aq]at h2 h3;simp only[eH,eE]at h1;cases hv;refine jD aW ai (bE 10338111442274233) (R:=λQ=>(λ(E:AV)(C:Int)=>(λ(A G:Bool)(F:Int)(H:Prop)=>(λ(I:Bool)(B:Prop)=>aa b 0=false/\aa b (Neg.neg 1)=false/\not (aa b 0)/\(A->A/\A/\A/\A/\A/\(G->(I->Q (.e [.a .i64 F,E]))/\(I=false->Q (.e [.a .i64 (IntKind.wrap .i64 F),E])))/\(G=false->H))/\(B->B/\B/\B/\B/\B/\H)) (af .i64 F) (A=false)) (not (aa C 0)) (not (bQ (not (ab 0 C)) (not (ab 0 b)))) (Int.add C b) (Q (.e [.a .i64 C,E]))) (.a .i64 0) (Int.tmod a b)) (λ_=>by kernel_rfl) λQ' hQ=>?_;try dsimp only
     obtain⟨k1,k2,k3,k4,k5,k6⟩:=@Lx a b (by omega);have fin:∀n:Int,n=d8 a b->Q' (.e [.a .i64 n,.a .i64 0]):=λn h=>hQ _ (by rw[h]);clear hQ;have e0:ab 0 b=true:=aq.mpr (by omega);simp only[e0,Bool.not_true];generalize a.tdiv b=q at *;generalize a.tmod b=r at *;simp only[az,reduceCtorEq]
     (repeat' first|exact trivial|refine⟨?_,?_⟩|intro)<;>first|omega|(apply fin;exact(k1 (by omega)).2)|(apply fin;exact(k2 (by omega)).2)
   . cases he
theorem MK:ak Tryz.prog cfg XA2:=by
 refine au Ja λargs t v he hv=>?_
 . unfold VO at he;split at he
   . rename_i y;cases he;obtain⟨h1,hv⟩:=bO hv;unfold IM at h1;rw[zAa,aq,aq]at h1;cases hv;refine jD Ja ai (bE 100100410010044000200200051001004100100440002002000541001004100100440002002000510010041001004400020020005440002002000510010041001004400020020005100100410010044000200200054100100410010044000200200051001004100100440002002000544000200200054100100410010044000200200051001004100100440002002000541001004100100440002002000510010041001004400020020005440002002000510010041001004400020020005100100410010044000200200054100100410010044000200200051001004100100440002002000544000200200054400020020005) (R:=λQ=>(λ(I:Int)=>(λ(A:Bool)(B G u3:Int)=>(λ(C H uA:Bool)(E N O P:Int)=>(λ(uB uD:Bool)(T V W Y uC uE:Int)(F U:Prop)=>(λ(uF uH uJ uL:Bool)(Z u0 u1 u2 u4 u5 u6 u7 u8 u9 ua ub uG uI uK uM:Int)=>(λ(uN uO uP uQ uR uT uV uW uX uY uZ v1:Bool)(uc ud ue uf ug uh ui uj uk ul um un uo up uq ur uS uU v0 v2:Int)=>(λ(v3 v4 v5 v6 v7 v8 v9 va vb vc vd ve vf vg vh vi:Bool)(us ut uu uv uw ux uy uz:Int)=>(λ(vj vk vl vm vn vo vp vq:Bool)=>(λ(vr:Prop->Prop)=>vr ((uA->(uB->vr ((H->(uF->vr ((C->(uN->Q (.a .i64 u4))/\(uN=false->Q (.a .i64 (IntKind.wrap .i64 u4))))/\(F->(uO->Q (.a .i64 u5))/\(uO=false->Q (.a .i64 (IntKind.wrap .i64 u5))))))/\(uF=false->vr ((C->(v3->Q (.a .i64 uc))/\(v3=false->Q (.a .i64 (IntKind.wrap .i64 uc))))/\(F->(v4->Q (.a .i64 ud))/\(v4=false->Q (.a .i64 (IntKind.wrap .i64 ud)))))))/\(U->(uH->vr ((C->(uP->Q (.a .i64 u6))/\(uP=false->Q (.a .i64 (IntKind.wrap .i64 u6))))/\(F->(uQ->Q (.a .i64 u7))/\(uQ=false->Q (.a .i64 (IntKind.wrap .i64 u7))))))/\(uH=false->vr ((C->(v5->Q (.a .i64 ue))/\(v5=false->Q (.a .i64 (IntKind.wrap .i64 ue))))/\(F->(v6->Q (.a .i64 uf))/\(v6=false->Q (.a .i64 (IntKind.wrap .i64 uf)))))))))/\(uB=false->vr ((H->(uR->vr ((C->(v7->Q (.a .i64 ug))/\(v7=false->Q (.a .i64 (IntKind.wrap .i64 ug))))/\(F->(v8->Q (.a .i64 uh))/\(v8=false->Q (.a .i64 (IntKind.wrap .i64 uh))))))/\(uR=false->vr ((C->(vj->Q (.a .i64 us))/\(vj=false->Q (.a .i64 (IntKind.wrap .i64 us))))/\(F->(vk->Q (.a .i64 ut))/\(vk=false->Q (.a .i64 (IntKind.wrap .i64 ut)))))))/\(U->(uT->vr ((C->(v9->Q (.a .i64 ui))/\(v9=false->Q (.a .i64 (IntKind.wrap .i64 ui))))/\(F->(va->Q (.a .i64 uj))/\(va=false->Q (.a .i64 (IntKind.wrap .i64 uj))))))/\(uT=false->vr ((C->(vl->Q (.a .i64 uu))/\(vl=false->Q (.a .i64 (IntKind.wrap .i64 uu))))/\(F->(vm->Q (.a .i64 uv))/\(vm=false->Q (.a .i64 (IntKind.wrap .i64 uv))))))))))/\(uA=false->(uD->vr ((H->(uJ->vr ((C->(uV->Q (.a .i64 u8))/\(uV=false->Q (.a .i64 (IntKind.wrap .i64 u8))))/\(F->(uW->Q (.a .i64 u9))/\(uW=false->Q (.a .i64 (IntKind.wrap .i64 u9))))))/\(uJ=false->vr ((C->(vb->Q (.a .i64 uk))/\(vb=false->Q (.a .i64 (IntKind.wrap .i64 uk))))/\(F->(vc->Q (.a .i64 ul))/\(vc=false->Q (.a .i64 (IntKind.wrap .i64 ul)))))))/\(U->(uL->vr ((C->(uX->Q (.a .i64 ua))/\(uX=false->Q (.a .i64 (IntKind.wrap .i64 ua))))/\(F->(uY->Q (.a .i64 ub))/\(uY=false->Q (.a .i64 (IntKind.wrap .i64 ub))))))/\(uL=false->vr ((C->(vd->Q (.a .i64 um))/\(vd=false->Q (.a .i64 (IntKind.wrap .i64 um))))/\(F->(ve->Q (.a .i64 un))/\(ve=false->Q (.a .i64 (IntKind.wrap .i64 un)))))))))/\(uD=false->vr ((H->(uZ->vr ((C->(vf->Q (.a .i64 uo))/\(vf=false->Q (.a .i64 (IntKind.wrap .i64 uo))))/\(F->(vg->Q (.a .i64 up))/\(vg=false->Q (.a .i64 (IntKind.wrap .i64 up))))))/\(uZ=false->vr ((C->(vn->Q (.a .i64 uw))/\(vn=false->Q (.a .i64 (IntKind.wrap .i64 uw))))/\(F->(vo->Q (.a .i64 ux))/\(vo=false->Q (.a .i64 (IntKind.wrap .i64 ux)))))))/\(U->(v1->vr ((C->(vh->Q (.a .i64 uq))/\(vh=false->Q (.a .i64 (IntKind.wrap .i64 uq))))/\(F->(vi->Q (.a .i64 ur))/\(vi=false->Q (.a .i64 (IntKind.wrap .i64 ur))))))/\(v1=false->vr ((C->(vp->Q (.a .i64 uy))/\(vp=false->Q (.a .i64 (IntKind.wrap .i64 uy))))/\(F->(vq->Q (.a .i64 uz))/\(vq=false->Q (.a .i64 (IntKind.wrap .i64 uz)))))))))))) (λvs=>A/\A/\vs)) (af .i64 us) (af .i64 ut) (af .i64 uu) (af .i64 uv) (af .i64 uw) (af .i64 ux) (af .i64 uy) (af .i64 uz)) (af .i64 uc) (af .i64 ud) (af .i64 ue) (af .i64 uf) (af .i64 ug) (af .i64 uh) (af .i64 ui) (af .i64 uj) (af .i64 uk) (af .i64 ul) (af .i64 um) (af .i64 un) (af .i64 uo) (af .i64 up) (af .i64 uq) (af .i64 ur) (Int.add uS B) (Int.add uS E) (Int.add uU B) (Int.add uU E) (Int.add v0 B) (Int.add v0 E) (Int.add v2 B) (Int.add v2 E)) (af .i64 u4) (af .i64 u5) (af .i64 u6) (af .i64 u7) (af .i64 Z) (af .i64 u0) (af .i64 u8) (af .i64 u9) (af .i64 ua) (af .i64 ub) (af .i64 u1) (af .i64 u2) (Int.add uG B) (Int.add uG E) (Int.add uI B) (Int.add uI E) (Int.add Z B) (Int.add Z E) (Int.add u0 B) (Int.add u0 E) (Int.add uK B) (Int.add uK E) (Int.add uM B) (Int.add uM E) (Int.add u1 B) (Int.add u1 E) (Int.add u2 B) (Int.add u2 E) (IntKind.wrap .i64 Z) (IntKind.wrap .i64 u0) (IntKind.wrap .i64 u1) (IntKind.wrap .i64 u2)) (af .i64 T) (af .i64 V) (af .i64 W) (af .i64 Y) (Int.add uC G) (Int.add uC O) (Int.add uE G) (Int.add uE O) (Int.add T B) (Int.add T E) (Int.add V B) (Int.add V E) (Int.add W B) (Int.add W E) (Int.add Y B) (Int.add Y E) (IntKind.wrap .i64 T) (IntKind.wrap .i64 V) (IntKind.wrap .i64 W) (IntKind.wrap .i64 Y)) (af .i64 N) (af .i64 P) (Int.add N G) (Int.add N O) (Int.add P G) (Int.add P O) (IntKind.wrap .i64 N) (IntKind.wrap .i64 P) (C=false) (H=false)) (af .i64 B) (af .i64 G) (af .i64 u3) (IntKind.wrap .i64 B) (Int.add 1 u3) (IntKind.wrap .i64 G) (Int.add 1 (IntKind.wrap .i64 u3))) (af .i64 I) (Int.mul 1 (dc I 400)) (Int.mul (Neg.neg 1) (dc I 100)) (Int.mul 1 (dc I 4))) (Int.sub y 1)) (λ_=>by kernel_rfl) λQ' hQ=>?_;try dsimp only
     have fin:∀n:Int,n=qU y->Q' (.a .i64 n):=λn h=>hQ _ (by rw[h]);clear hQ;simp only[az,reduceCtorEq,dc];unfold qU before at fin
     (repeat' first|exact trivial|refine⟨?_,?_⟩|intro)<;>first|omega|(apply fin;omega)
   . cases he
theorem Cd:ak Tryz.prog cfg XA3:=by
 refine au MK λargs t v he hv=>?_
 . unfold Vr at he;split at he
   . rename_i y;cases he;obtain⟨h1,hv⟩:=bO hv;unfold IM at h1;rw[zAa,aq,aq]at h1;cases hv;have hok:IM y=true:=by unfold IM;rw[zAa,aq,aq];exact h1
     have hb : -20000000000000000<=qU y/\qU y<=20000000000000000:=by unfold qU before;omega
     refine jD MK ai (bE 114202) (R:=λQ=>(λ(B:Int)=>(λ(A:Int)=>(λ(C:Bool)=>af .i64 B/\and (ab (Neg.neg 20000000000000000) y) (ab y 20000000000000000)/\(C->Q (.a .i64 A))/\(C=false->Q (.a .i64 (IntKind.wrap .i64 A)))) (af .i64 A)) (Int.add B (qU y))) (Int.mul 365 y)) (λ_=>by kernel_rfl) λQ' hQ=>?_;try dsimp only
     have fin:∀n:Int,n=bf y->Q' (.a .i64 n):=λn h=>hQ _ (by rw[h]);clear hQ;have e:bf y=365*y+qU y:=rfl;rw[e]at fin;generalize qU y=by' at *;simp only[az,reduceCtorEq]
     (repeat' first|exact trivial|refine⟨?_,?_⟩|intro)<;>first|omega|assumption|(apply fin;omega)
   . cases he
def eO(y:Int):Bool:=ab (-10000000000000000) y&&ab y 10000000000000000
def tL(m:Int):Bool:=ab 1 m&&ab m 12
def d6(y m:Int):Int:=mlen y m
def aG(y m:Int):Int:=mst y m
def WX:dP:=λargs=>match args with
 | [.a .i64 y]=>some (aH [eO y] (.a0 (.e [.b (aa (iE y) 1),.a .i64 0])))
 | _=>none
def Sd:dP:=λargs=>match args with
 | [.a .i64 y]=>some (aH [eO y] (.a0 (.e [.a .i64 (bf y),.a .i64 0])))
 | _=>none
def QV:dP:=λargs=>match args with
 | [.a .i64 y]=>some (aH [eO y] (.a0 (.e [.a .i64 (bf (y+1)-1),.a .i64 0])))
 | _=>none
def XA4:aQ:=bb (bb (bb XA3 234 WX) 191 Sd) 208 QV
def Xm:dP:=λargs=>match args with
 | [.a .i64 y,.a .i64 m]=>some (aH [eO y,tL m] (.a0 (.a .i64 (d6 y m))))
 | _=>none
def Zc:aQ:=bb XA4 192 Xm
theorem bX{y:Int}:eO y=true↔-10000000000000000<=y/\y<=10000000000000000:=by unfold eO;rw[zAa,aq,aq]
theorem gX{m:Int}:tL m=true↔1<=m/\m<=12:=by unfold tL;rw[zAa,aq,aq]
theorem rm{y:Int}(h : -10000000000000000<=y)(h2:y<=10000000000000001) : -3652425000000000001<=bf y/\bf y<=3652425000000000400:=yst_bd y h h2
theorem Bg:ak Tryz.prog cfg XA4:=by
 refine au (au (au Cd λargs t v he hv=>?_) λargs t v he hv=>?_) λargs t v he hv=>?_
 . unfold WX at he;split at he
   . rename_i y;cases he;obtain⟨h1,hv⟩:=bO hv;rw[bX]at h1;cases hv;refine jD Cd ai (bE 12020203322) (R:=λQ=>(λ(B:Bool)(A:Int)=>(λ(C:Bool)=>C/\C/\B=false/\not (ab y 10000000000000000)=false/\af .i64 A/\and (ab (Neg.neg 20000000000000000) A) (ab A 20000000000000000)/\and (ab (Neg.neg 20000000000000000) y) (ab y 20000000000000000)/\Q (.e [.b (not (ab (qU A) (qU y))),.a .i64 0])) (not B)) (not (ab (Neg.neg 10000000000000000) y)) (Int.add y 1)) (λ_=>by kernel_rfl) λQ' hQ=>?_;try dsimp only
     have e:qU (y+1)=qU y+iE y:=before_succ y;have l:0<=iE y/\iE y<=1:=lp_01 y;have fin:∀b:Bool,b=aa (iE y) 1->Q' (.e [.b b,.a .i64 0]):=λb h=>hQ _ (by rw[h]);clear hQ;have hb:Bool.not (ab (qU (Int.add y 1)) (qU y))=aa (iE y) 1:=by
      rw[Bool.eq_iff_iff,nr,bF,ao,qW,e];omega
     rw[hb];simp only[az,reduceCtorEq]
     (repeat' first|exact trivial|refine⟨?_,?_⟩|intro)<;>first|omega|exact fin _ rfl
   . cases he
 . unfold Sd at he;split at he
   . rename_i y;cases he;obtain⟨h1,hv⟩:=bO hv;rw[bX]at h1;cases hv;refine jD Cd ai (bE 12003322) (R:=λQ=>(λ(A:Bool)=>(λ(B:Bool)=>B/\B/\A=false/\not (ab y 10000000000000000)=false/\and (ab (Neg.neg 20000000000000000) y) (ab y 20000000000000000)/\Q (.e [.a .i64 (bf y),.a .i64 0])) (not A)) (not (ab (Neg.neg 10000000000000000) y))) (λ_=>by kernel_rfl) λQ' hQ=>?_;simp only[az,reduceCtorEq]
     (repeat' first|exact trivial|refine⟨?_,?_⟩|intro)<;>first|omega|exact hQ _ rfl
   . cases he
 . unfold QV at he;split at he
   . rename_i y;cases he;obtain⟨h1,hv⟩:=bO hv;rw[bX]at h1;cases hv;refine jD Cd ai (bE 11420203322) (R:=λQ=>(λ(E:AV)(C:Bool)(A:Int)=>(λ(F:Bool)(B:Int)=>(λ(G:Bool)=>F/\F/\C=false/\not (ab y 10000000000000000)=false/\af .i64 A/\and (ab (Neg.neg 20000000000000000) A) (ab A 20000000000000000)/\(G->Q (.e [.a .i64 B,E]))/\(G=false->Q (.e [.a .i64 (IntKind.wrap .i64 B),E]))) (af .i64 B)) (not C) (Int.sub (bf A) 1)) (.a .i64 0) (not (ab (Neg.neg 10000000000000000) y)) (Int.add y 1)) (λ_=>by kernel_rfl) λQ' hQ=>?_;try dsimp only
     have bd:=@rm (y+1) (by omega) (by omega);simp only[az,reduceCtorEq]
     (repeat' first|exact trivial|refine⟨?_,?_⟩|intro)<;>first|omega|exact hQ _ rfl
   . cases he
theorem RB{k:Nat}(hk:k<12):List.getD [AV.a .i64 31,.a .i64 28,.a .i64 31,.a .i64 30,.a .i64 31,.a .i64 30,.a .i64 31,.a .i64 31,.a .i64 30,.a .i64 31,.a .i64 30,.a .i64 31] (0+k*1) (AV.e [])=.a .i64 (len0.getD k 0):=by
 have:k=0\/k=1\/k=2\/k=3\/k=4\/k=5\/k=6\/k=7\/k=8\/k=9\/k=10\/k=11:=by omega
 rcases this with rfl|rfl|rfl|rfl|rfl|rfl|rfl|rfl|rfl|rfl|rfl|rfl<;>rfl
theorem Bb:ak Tryz.prog cfg Zc:=by
 refine au Bg λargs t v he hv=>?_;unfold Xm at he;split at he
 . rename_i y m;cases he;obtain⟨⟨h1,h2,-⟩,hv⟩:=aF hv;rw[bX]at h1;rw[gX]at h2;cases hv;refine jD Bg ai (bE 1270331271422420) (R:=λQ=>(λ(A C:AV)(B:Bool)(E:Int)=>(λ(G:Nat)(F:Prop)=>(λ(H:AV)=>(λ(I:Prop)=>and (ab (Neg.neg 10000000000000000) y) (ab y 10000000000000000)/\(B->B/\B/\(aa m 2->Q (.a .i64 29))/\(aa m 2=false->I))/\(F->F/\F/\I)) (af .i64 E/\ab 0 E/\aS G 12/\bC .i64 H/\Q (.a .i64 (aK H)))) (List.getD [A,.a .i64 28,A,C,A,C,A,A,C,A,C,A] (HAdd.hAdd 0 (HMul.hMul G 1)) (.e []))) E.toNat (B=false)) (.a .i64 31) (.a .i64 30) (aa (iE y) 1) (Int.sub m 1)) (λ_=>by kernel_rfl) λQ' hQ=>?_;try dsimp only
   have hk:(Int.sub m 1).toNat<12:=by show(m-1).toNat<12;omega
   rw[RB hk];have l:0<=iE y/\iE y<=1:=lp_01 y;have i0:∀n:Int,aK (.a .i64 n)=n:=λ_=>rfl;have ka:∀n:Int,bC .i64 (.a .i64 n)=true:=λn=>rfl;simp only[i0,ka];have fin:∀n:Int,n=d6 y m->Q' (.a .i64 n):=λn h=>hQ _ (by rw[h]);have e29:m=2->iE y=1->d6 y m=29:=λk1 k2=>by subst k1;unfold d6 mlen;rw[if_pos rfl];unfold iE at k2;omega
   have en:(m≠2\/iE y=0)->d6 y m=len0.getD (m-1).toNat 0:=λh=>mlen_len0 y m h2.1 h2.2 h;have yb:=bX.2 h1;clear hQ hk;simp only[az,reduceCtorEq]
   (repeat' first|exact trivial|refine⟨?_,?_⟩|intro)<;>first|omega|assumption|(apply fin;rw[e29 (by omega) (by omega)])|(apply fin;rw[en (by omega)])
 . cases he
def Q0:dW:=λvs o=>match vs,o with
 | [.a .i64 y,.a .i64 d,.a .i64 k,.a .i64 i],⟨0,[],[]⟩=>some (aH [eO y,ab 0 k,ab k 11,aa i 0,aa d (bf y)] (.a0 (.b 0,[.a .i64 y,.a .i64 (aG y (Int.add k 1)),.a .i64 k,.a .i64 k],dO)))
 | _,_=>none
def Y6:cx:=iz jE 0 (d9 34 [0,7,22,23] Q0)
def Q4:dP:=λargs=>match args with
 | [.a .i64 y,.a .i64 m]=>some (aH [eO y,tL m] (.a0 (.e [.a .i64 (aG y m),.a .i64 0])))
 | _=>none
def Qw:dP:=λargs=>match args with
 | [.a .i64 y,.a .i64 m]=>some (aH [eO y,tL m] (.a0 (.e [.a .i64 (aG y (m+1)-1),.a .i64 0])))
 | _=>none
def XA6:aQ:=bb Zc 155 Q4
def YS:aQ:=bb XA6 210 Qw
def OU:bj tab 155=some (dH 155,aL 155):=by kernel_rfl
def Mx:(bz (aL 155)).map (·.1)=[0]:=by kernel_rfl
theorem mst_1(y:Int):aG y 1=bf y:=by unfold aG mst mcum bf;rw[if_pos (by decide)];omega
theorem p9{y m:Int}(h1:1<=m)(h2:m<=12):aG y (m+1)=aG y m+d6 y m:=by
 unfold aG mst d6;rw[mcum_succ y m h1 h2];omega
theorem jk(y m:Int):28<=d6 y m/\d6 y m<=31:=mlen_bd y m
theorem mst_bd{y m:Int}(hy : -10000000000000000<=y/\y<=10000000000000000)(h1:1<=m)(h2:m<=13) : -3652425000000000001<=aG y m/\aG y m<=3652425000000000800:=by
 have:=rm hy.1 (by omega);have:=mcum_bd y m h1 h2;unfold aG mst;unfold bf at *;omega
theorem Up:cu Tryz.prog (cH cfg Zc) (Cw cfg []) (lb 155 0) 34 [0,7,22,23] Q0:=by
 intro vs o t Q hv hq J;unfold Q0 at hv;split at hv
 . rename_i y d k i;cases hv;obtain⟨h1,hq1⟩:=cZ hq;obtain⟨h2,hq2⟩:=cZ hq1;obtain⟨h3,hq3⟩:=cZ hq2;obtain⟨h4,hq4⟩:=cZ hq3;obtain⟨h5,hq5⟩:=cZ hq4;clear hq hq1 hq2 hq3 hq4;rw[aq]at h2 h3;rw[ao]at h4 h5;subst h4 h5;have hy:=bX.1 h1;have hq:Q (.b 0,[.a .i64 y,.a .i64 (aG y (k+1)),.a .i64 k,.a .i64 k],dO):=hq5;refine ia Bb rfl rfl ai (ι:={i:Nat // (i:Int)<=k}) (λx=>[.a .i64 y,.a .i64 (aG y ((x.1:Int)+1)),.a .i64 k,.a .i64 (x.1:Int)]) (λ_=>dO) (λx=>k.toNat-x.1) 0 (λ_=>Nat.zero_le _) (λx J=>?_) (Nat.le_refl _) (λJ=>Wk.a0 ⟨⟨0,h2⟩,J,by rw[<-mst_1];rfl⟩) J;obtain⟨i,hi⟩:=x;dsimp only;refine jJ (bE 11212422024) (R:=λQ=>(λ(B C:AV)(G:Bool)(A:Int)=>(λ(H:AV)(E:Bool)(F:Int)=>(λ(I:Bool)=>(G->E/\and (ab (Neg.neg 10000000000000000) y) (ab y 10000000000000000)/\and (ab 1 A) (ab A 12)/\(I->E/\Q (.a,[B,.a .i64 F,C,H],⟨0,[],[]⟩))/\(I=false->E/\Q (.a,[B,.a .i64 (IntKind.wrap .i64 F),C,H],⟨0,[],[]⟩)))/\(G=false->Q (.b 0,[B,.a .i64 (aG y ((i:Int)+1)),C,.a .i64 i],⟨0,[],[]⟩))) (af .i64 F)) (.a .i64 A) (af .i64 A) (Int.add (aG y ((i:Int)+1)) (d6 y A))) (.a .i64 y) (.a .i64 k) (not (ab k i)) (Int.add i 1)) (λ_=>by kernel_rfl) λQ' hQ=>?_;try dsimp only
   have go:(i:Int)<k->Q' (.a,[.a .i64 y,.a .i64 (aG y ((i:Int)+1)+d6 y ((i:Int)+1)),.a .i64 k,.a .i64 ((i:Int)+1)],dO):=λh=>
    hQ (.a,_,_) ⟨⟨i+1,by omega⟩,by dsimp only;omega,VW.a0 (by rw[<-p9 (by omega) (by omega)];rfl) rfl⟩
   have fin:¬(i:Int)<k->Q' (.b 0,[.a .i64 y,.a .i64 (aG y ((i:Int)+1)),.a .i64 k,.a .i64 (i:Int)],dO):=λh=>by
    have e:(i:Int)=k:=by omega
    exact hQ (.b 0,_,_) ⟨_,_,VW.a0 (by rw[e]) rfl,hq⟩
   have b1:=mst_bd (m:=(i:Int)+1) hy (by omega) (by omega);have b2:=jk y ((i:Int)+1);have om:tL ((i:Int)+1)=(decide ((i:Int)<12)):=by
    rw[Bool.eq_iff_iff,gX,zAb];omega
   clear hQ hq hq5;simp only[az,reduceCtorEq];generalize aG y ((i:Int)+1)=ms at *;generalize d6 y ((i:Int)+1)=ml at *
   (repeat' first|exact trivial|refine⟨?_,?_⟩|intro)<;>first|omega|assumption|exact go (by omega)|exact fin (by omega)
 . cases hv
theorem EG:ak Tryz.prog cfg XA6:=by
 refine au Bb λargs t v he hv=>?_;unfold Q4 at he;split at he
 . rename_i y m;cases he;obtain⟨⟨h1,h2,-⟩,hv⟩:=aF hv;rw[gX]at h2;cases hv;have hy:=bX.1 h1;refine kV Bb (L:=Y6) OU (by simp) (dv Mx λi hi e he st Q hw=>?_) (jJ (bE 12022700332203322) (R:=λQ=>(λ(B C E:Bool)(A:Int)=>(λ(F G H:Bool)=>(λ(I:Bool)=>I/\I/\F=false/\not C=false/\G/\G/\E=false/\not (ab m 12)=false/\H/\af .i64 A/\H/\ab 0 A/\ab A 11/\aa (bf y) (bf y)/\(∀J1:Nat->Value,Q (.e [.a .i64 (aG y (Int.add A 1)),.a .i64 0]))) (not F)) (not B) (not E) (and B C)) (ab (Neg.neg 10000000000000000) y) (ab y 10000000000000000) (not (ab 1 m)) (Int.sub m 1)) (λ_=>by kernel_rfl) λQ' hQ=>?_) (by simp[aC,bw])
   . have hi:i=0:=by simp at hi;omega
     subst hi;cases he;exact bR (cC.a0 Bb) (by decide) rfl Up hw
   . dsimp only;have e1:Int.add (Int.sub m 1) 1=m:=by show m-1+1=m;omega
     rw[e1];simp only[az,reduceCtorEq]
     (repeat' first|exact trivial|refine⟨?_,?_⟩|intro)<;>first|omega|assumption|exact hQ _ rfl|rfl
 . cases he
theorem A_:ak Tryz.prog cfg YS:=by
 refine au EG λargs t v he hv=>?_;unfold Qw at he;split at he
 . rename_i y m;cases he;obtain⟨⟨h1,h2,-⟩,hv⟩:=aF hv;have hm:=gX.1 h2;cases hv;have hy:=bX.1 h1;refine jD EG ai (bE 11411442200220) (R:=λQ=>(λ(A:AV)(F G:Bool)(B:Int)=>(λ(H:Bool)(C E:Int)=>(λ(I N:Bool)=>F/\G/\F/\G/\(H->(I->Q (.e [.a .i64 C,A]))/\(I=false->Q (.e [.a .i64 (IntKind.wrap .i64 C),A])))/\(H=false->(N->Q (.e [.a .i64 E,A]))/\(N=false->Q (.e [.a .i64 (IntKind.wrap .i64 E),A])))) (af .i64 C) (af .i64 E)) (af .i64 B) (Int.sub B 1) (Int.sub (IntKind.wrap .i64 B) 1)) (.a .i64 0) (and (ab (Neg.neg 10000000000000000) y) (ab y 10000000000000000)) (and (ab 1 m) (ab m 12)) (Int.add (aG y m) (d6 y m))) (λ_=>by kernel_rfl) λQ' hQ=>?_;try dsimp only
   have b1:=mst_bd (m:=m) hy hm.1 (by omega);have b2:=jk y m;have e:=p9 (y:=y) hm.1 hm.2;rw[e]at hQ;simp only[az,reduceCtorEq]
   (repeat' first|exact trivial|refine⟨?_,?_⟩|intro)<;>first|omega|assumption|exact hQ _ rfl
 . cases he
def Pq:dP:=λargs=>match args with
 | [.a .i64 y,.a .i64 m]=>some (aH [eO y,tL m] (.a0 (.e [.a .i64 (d6 y m),.a .i64 0])))
 | _=>none
def XA8:aQ:=bb YS 163 Pq
def fR(c:Int):Int:=sFrom c
def mR(c:Int):Int:=sMany c
def zI(c:Int):Bool:=ab 21 c&&ab c 41
def fq(y c:Int):Int:=dc (12*y+(fR c-1)+(mR c-1)) 12
def kX(y c:Int):Int:=d8 (12*y+(fR c-1)+(mR c-1)) 12
def Nz:dP:=λargs=>match args with
 | [.a .i64 y,.a .i64 c]=>some (aH [eO y,zI c] (.d0 (eO (fq y c)) λb=>bif b then .a0 (.e [.h [.a .i8 0,.a .i64 (aG y (fR c)),.a .i8 0,.a .i64 (aG (fq y c) (kX y c+2)-1)],.a .i64 0])else .a0 (.e [.h [.a .i8 0,.a .i64 0,.a .i8 0,.a .i64 0],.a .i64 6])))
 | _=>none
def Sq:dP:=λargs=>match args with
 | [.a .i64 a,.a .i64 b]=>some (aH [af .i64 (Int.add a b)] (.a0 (.e [.a .i64 (Int.add a b),.a .i64 0])))
 | _=>none
def Vj:dP:=λargs=>match args with
 | [.a .i64 c]=>some (aH [zI c] (.a0 (.e [.a .i64 (fR c),.a .i64 (mR c),.a .i64 0])))
 | _=>none
def XA9:aQ:=bb (pX XA8 211 Sq) 215 Vj
def VD(y m:Int){Q:AV->Prop}:gG Q (pT YS jE 163 [.a .i64 y,.a .i64 m]) (bE 12200332203322)=((λ(A B C:Bool)=>(λ(E F:Bool)=>(λ(G:Bool)=>G/\G/\E=false/\not B=false/\F/\F/\C=false/\not (ab m 12)=false/\and A B/\and (ab 1 m) (ab m 12)/\Q (.e [.a .i64 (d6 y m),.a .i64 0])) (not E)) (not A) (not C)) (ab (Neg.neg 10000000000000000) y) (ab y 10000000000000000) (not (ab 1 m))):=by kernel_rfl
def Cv:bj tab 163=some (dH 163,aL 163):=by kernel_rfl
theorem mg{c:Int}:zI c=true↔21<=c/\c<=41:=by unfold zI;rw[zAa,aq,aq]
theorem oJ{c:Int}(h:21<=c/\c<=41):c=21\/c=22\/c=23\/c=24\/c=25\/c=26\/c=27\/c=28\/c=29\/c=30\/c=31\/c=32\/c=33\/c=34\/c=35\/c=36\/c=37\/c=38\/c=39\/c=40\/c=41:=by omega
theorem xH{c:Int}(h:21<=c/\c<=41):(1<=fR c/\fR c<=12)/\(3<=mR c/\mR c<=6):=by
 rcases oJ h with rfl|rfl|rfl|rfl|rfl|rfl|rfl|rfl|rfl|rfl|rfl|rfl|rfl|rfl|rfl|rfl|rfl|rfl|rfl|rfl|rfl<;>decide
theorem JT:ak Tryz.prog cfg XA8:=by
 refine au A_ λargs t v he hv=>?_;unfold Pq at he;split at he
 . rename_i y m;cases he;obtain⟨⟨h1,h2,-⟩,hv⟩:=aF hv;have hm:=gX.1 h2;cases hv;have hy:=bX.1 h1;refine kV A_ (L:=jE) Cv (by simp) ai (e8 λQ' hQ=>cg ((VD y m).mpr ?_)) (by simp[aC,bw]);simp only[az,reduceCtorEq]
   (repeat' first|exact trivial|refine⟨?_,?_⟩|intro)<;>first|omega|assumption|exact hQ _ rfl
 . cases he
theorem OI:ky Tryz.prog cfg 211 Sq:=λargs t v he hv=>by
 unfold Sq at he;split at he
 . rename_i a b;cases he;obtain⟨h1,hv⟩:=bO hv;cases hv;refine Gh _ _ _ rfl ?_;simp only[O_,Tr.b0,h1,cond_true]
 . cases he
theorem KQ:ak Tryz.prog cfg XA9:=by
 refine au (eG JT OI) λargs t v he hv=>?_
 . unfold Vj at he;split at he
   . rename_i c;cases he;obtain⟨h1,hv⟩:=bO hv;rw[mg]at h1;cases hv;refine jD JT ai (bE 11100044703322) (R:=λQ=>(λ(A B C E G H N O:AV)(I:Bool)(F:Int)=>(λ(P:Bool)(U:List AV)(T:Nat)=>(λ(V:Nat)=>(λ(W Y:AV)=>(λ(Z u0:Bool)=>P/\P/\I=false/\ab 42 c=false/\af .i64 F/\ab 0 F/\aS T 21/\(Z->(u0->Q (.e [.a .i64 (aK W),.a .i64 (aK Y),.a .i64 0]))/\(u0=false->False))/\(Z=false->False)) (bC .i64 W) (bC .i64 Y)) (List.getD U V O) (List.getD U (HAdd.hAdd V 1) O)) (HAdd.hAdd 0 (HMul.hMul T 2))) (not I) [A,A,B,A,C,A,G,A,A,A,B,A,C,A,G,A,C,A,G,A,A,A,B,A,H,A,E,A,N,A,.a .i64 10,A,H,E,.a .i64 5,E,C,E,H,B,N,B] F.toNat) (.a .i64 3) (.a .i64 6) (.a .i64 9) (.a .i64 4) (.a .i64 12) (.a .i64 1) (.a .i64 7) (.e []) (not (ab 21 c)) (Int.sub c 21)) (λ_=>by kernel_rfl) λQ' hQ=>?_;try dsimp only
     rcases oJ h1 with rfl|rfl|rfl|rfl|rfl|rfl|rfl|rfl|rfl|rfl|rfl|rfl|rfl|rfl|rfl|rfl|rfl|rfl|rfl|rfl|rfl<;>(repeat' first|exact trivial|refine⟨?_,?_⟩|intro)<;>first|rfl|exact hQ _ rfl|(rename_i h;exact absurd h (by decide))
   . cases he
theorem MA{S:aQ}(hS:ak Tryz.prog cfg S):ak Tryz.prog cfg (bb S 174 Nz):=by
 refine au hS λargs t v he hv=>?_;unfold Nz at he;split at he
 . rename_i y c;cases he;obtain⟨⟨h1,h2,-⟩,hv⟩:=aF hv;rw[bX]at h1;rw[mg]at h2;obtain⟨hf,hm⟩:=xH h2;have hv':Tr.b0 (bif eO (fq y c)then .a0 (.e [.h [.a .i8 0,.a .i64 (aG y (fR c)),.a .i8 0,.a .i64 (aG (fq y c) (kX y c+2)-1)],.a .i64 0])else .a0 (.e [.h [.a .i8 0,.a .i64 0,.a .i8 0,.a .i64 0],.a .i64 6]))=some v:=hv;have ids:aC v=[]:=by
    cases hb:eO (fq y c)<;>rw[hb]at hv'<;>cases hv'<;>simp[aC,bw]
   refine jD KQ ai (bE 15231022002010004324002000200270332203370220020) (R:=λQ=>(λ(A C:AV)(N O P T:Bool)(U V W:Int)=>(λ(Y Z:Bool)(u0:Int)(u1:Prop)=>(λ(u2 u3:Bool)(E:Int)=>(λ(F:Bool)(B G:Int)=>(λ(u4 u5:Bool)=>(λ(H u6:Bool)=>(λ(I:Bool)=>(λ(u7:Prop)=>and (ab 21 c) (ab c 41)/\and N O/\and P T/\af .i64 U/\u2/\u2/\Y=false/\not O=false/\u3/\u3/\Z=false/\not T=false/\af .i64 V/\af .i64 W/\af .i64 u0/\F/\F/\F/\(I->I/\H=false/\(u6->u1)/\(u6=false->af .i64 B/\and u4 u5/\and (ab 1 B) (ab B 12)/\Q (.e [.h [A,.a .i64 (aG y (fR c)),A,.a .i64 (HSub.hSub (aG G (HAdd.hAdd B 1)) 1)],C])))/\(u7->u7/\H/\u1)) (I=false)) (not H)) (not u4) (not u5)) (ab (Neg.neg 10000000000000000) G) (ab G 10000000000000000)) (af .i64 E) (Int.add (d8 E 12) 1) (dc E 12)) (not Y) (not Z) (Int.add u0 U)) (not N) (not P) (Int.add V W) (Q (.e [.h [A,C,A,C],.a .i64 6]))) (.a .i8 0) (.a .i64 0) (ab (Neg.neg 10000000000000000) y) (ab y 10000000000000000) (ab 1 (fR c)) (ab (fR c) 12) (Int.sub (mR c) 1) (Int.mul 12 y) (Int.sub (fR c) 1)) (λ_=>by kernel_rfl) (hi:=ids) λQ' hQ=>?_;try dsimp only
   have yes:eO (fq y c)->Q' (.e [.h [.a .i8 0,.a .i64 (aG y (fR c)),.a .i8 0,.a .i64 (aG (fq y c) (kX y c+1+1)-1)],.a .i64 0]):=λh=>by
    rw[h]at hv';cases hv';exact hQ _ (by rw[show kX y c+1+1=kX y c+2 by omega])
   have no:eO (fq y c)=false->Q' (.e [.h [.a .i8 0,.a .i64 0,.a .i8 0,.a .i64 0],.a .i64 6]):=λh=>by
    rw[h]at hv';cases hv';exact hQ _ rfl
   have e1:dc (12*y+(fR c-1)+(mR c-1)) 12=fq y c:=rfl;have e2:d8 (12*y+(fR c-1)+(mR c-1)) 12=kX y c:=rfl;have sm:0<=kX y c/\kX y c<=11:=by unfold kX d8;omega
   clear hQ hv hv' ids;simp only[az,reduceCtorEq,e1,e2];have yi:=@bX (fq y c);have yn:eO (fq y c)=false↔¬(-10000000000000000<=fq y c/\fq y c<=10000000000000000):=by rw[<-yi,Bool.not_eq_true]
   generalize fq y c=sy at *;generalize kX y c=sm' at *
   (repeat' first|exact trivial|refine⟨?_,?_⟩|intro)<;>first|omega|exact yes (yi.2 (by omega))|exact no (yn.2 (by omega))
 . cases he
end Go.Ev
