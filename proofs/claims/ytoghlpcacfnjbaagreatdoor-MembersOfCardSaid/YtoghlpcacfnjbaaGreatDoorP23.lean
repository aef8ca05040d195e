import Derived.Test.YtoghlpcacfnjbaaGreatDoorP22
set_option linter.all false
set_option maxRecDepth 100000
set_option maxHeartbeats 4000000
namespace Go.Ev
open Go Go.Proofs Go.Proofs.YtoghlpcacfnjbaaGreatDoor
variable{o:aC}
def PC:d9:=λvs o=>match vs,o with
 | [.str [c0,c1],.int .i64 g,.int .i64 n,.bool r],⟨0,[],[]⟩=>some (aH [aa n 1,bW r false,ab 0 g,ab g 99] (.test (eW [c0,c1] g.toNat) λb=>bif b then .all λJ=>.ret (.ret,[.str [c0,c1],.int .i64 g,.any (J 0),.bool true],dO)else .ret (.exit 0,[.str [c0,c1],.int .i64 g,.int .i64 (Int.add g 1),.bool false],dO)))
 | _,_=>none
def TW:cz:=iz io 0 (eb 46 [0,1,5,4] PC)
def Up:dJ:=λargs=>match args with
 | [.str s,.int .i64 g]=>some (aH [ab 0 g,ab g 99] (.ret (.bool (eW s g.toNat))))
 | _=>none
def VX:dJ:=λargs=>match args with
 | [.agg [.bool ng,.bool lg,.str s,.int .i64 e,.int .i64 g,.str mo,.str da,.int .u8 a,.int .u8 b,.int .u8 c]]=>some (.ret (.int .i64 (df mo da)))
 | _=>none
def VC:dJ:=λargs=>match args with
 | [.agg [.int .u8 a,.int .u8 b,.int .u8 c],.int .i64 n]=>some (aH [ae .u8 a,ae .u8 b,ae .u8 c,ab 1 n,ab n 3] (.ret (.int .i64 (errMk a b c n))))
 | _=>none
def Z5:aR:=aY (aY (aY ZA 126 Up) 128 VX) 127 VC
def F5:bh tab 126=some (dC 126,aN 126):=by kernel_rfl
def CA:(bj (aN 126)).map (·.1)=[0]:=by kernel_rfl
theorem vwT{C:bg}{kb tn:Nat}{rel:List Nat}{vs vs' vs'':List AV}{o' o'':aC}(h1:VW cfg C kb tn rel vs o vs' o')(h2:VW cfg C kb tn rel vs' o' vs'' o''):VW cfg C kb tn rel vs o vs'' o'':=λJ=>(h1 J).trans λs ⟨J',e⟩=>by rw[e];exact h2 J'
theorem ZH{tn:Nat}{rel:List Nat}{vs vs':List AV}(hle:o.le=[])(hvs:xE (kr 14 [] 20) vs=some vs'):VW cfg (Cw cfg []) 0 tn rel vs o vs' dO:=
 VW.move dG.lv (C:=Cw cfg []) (kb:=0) (sel:=[]) Aa (Nat.zero_le _) (λs hs=>by cases hs) List.nodup_nil (λp hp=>by rw[hle]at hp;cases hp) hle.symm rfl rfl (λi hi=>absurd hi (Nat.not_lt_zero i)) (λt ht=>absurd ht (Nat.not_lt_zero t)) hvs
theorem Jt{c0 c1:UInt8}{n:Int}:agr [c0,c1] n=true↔(c0.toNat=88\/(c0.toNat:Int)=48+n/10)/\(c1.toNat=88\/(c1.toNat:Int)=48+n%10):=by
 unfold agr;rw[zAa,zAa,zAb,pc,pc];exact⟨λh=>h.2,λh=>⟨rfl,h⟩⟩
theorem OA:cx Tryz.prog (cH cfg ZA) (Cw cfg []) (lb 126 0) 46 [0,1,5,4] PC:=by
 intro vs o t Q hv hq J;unfold PC at hv;split at hv
 . rename_i c0 c1 g n r;cases hv;obtain⟨h1,hq1⟩:=cY hq;obtain⟨h2,hq2⟩:=cY hq1;obtain⟨h3,hq3⟩:=cY hq2;obtain⟨h4,hq4⟩:=cY hq3;clear hq hq1 hq2 hq3;rw[al]at h1;rw[Kg]at h2;rw[ao]at h3 h4;subst h1 h2;have hq:Tr.wp Q (bif eW [c0,c1] g.toNat then .all λJ=>.ret (.ret,[.str [c0,c1],.int .i64 g,.any (J 0),.bool true],dO)else .ret (.exit 0,[.str [c0,c1],.int .i64 g,.int .i64 (g+1),.bool false],dO)):=hq4;refine im mj rfl rfl ag (ι:={i:Nat // i<=g.toNat/\∀k,k<i->agr [c0,c1] ((k:Int)+1)=false}) (λx=>[.str [c0,c1],.int .i64 g,.int .i64 ((x.1:Int)+1),.bool false]) (λ_=>dO) (λx=>g.toNat-x.1) 0 (λ_=>Nat.le_refl _) (λx J=>?_) (Nat.le_refl _) (λJ=>Wk.refl ⟨⟨0,Nat.zero_le _,λk hk=>absurd hk (Nat.not_lt_zero k)⟩,J,rfl⟩) J;obtain⟨i,hi,hp⟩:=x;dsimp only;refine jT (bA 110020381214030202002002400523812033058107381214232202002002422002432020020024000220704) (R:=λQ=>(λ(N O u0 u2:AV)(I W Y Z u1:Int)=>(λ(H U:Bool)(P T:Int)=>(λ(A C E u4:Bool)(V u3 u5:Prop)=>(λ(B F G u6:Prop)=>(ab ((i:Int)+1) g->ae .i64 I/\ae .u8 I/\ae .u8 P/\ae .u8 W/\ae .u8 T/\(E->E/\E/\E/\E/\U=false/\(C->C/\C/\C/\(A->A/\A/\A/\A/\C/\u3/\C/\u6)/\(B->B/\B/\B/\B/\C/\H/\C/\V))/\(F->F/\F/\F/\F/\F/\u5))/\(G->G/\G/\G/\G/\U/\(A->A/\A/\A/\A/\u3/\u6)/\(B->B/\B/\B/\B/\H/\V)))/\(ab ((i:Int)+1) g=false->Q (.exit 0,[N,O,u0,u2],⟨0,[],[]⟩))) (A=false) (C=false) (E=false) ((u4->V)/\(u4=false->u5))) (not H) (aa Y P) (not U) (aa Z T) (Q (.ret,[N,O,u0,.bool true],⟨1,[.cells [.int .u8 P,.int .u8 T] true none],[]⟩)) (H=false) (ae .i64 u1/\Q (.normal,[N,O,.int .i64 u1,u2],⟨1,[.cells [.int .u8 P,.int .u8 T] true none],[]⟩))) (aa Z 88) (aa Y 88) (Int.add 48 I) (Int.add 48 W)) (.str [c0,c1]) (.int .i64 g) (.int .i64 ((i:Int)+1)) (.bool false) (Int.tdiv ((i:Int)+1) 10) (Int.tmod ((i:Int)+1) 10) (Int.ofNat c0.toNat) (Int.ofNat c1.toNat) (Int.add ((i:Int)+1) 1)) (λ_=>by kernel_rfl) λQ' hQ=>?_;try dsimp only
   have t1:((i:Int)+1).tdiv 10=((i:Int)+1)/10:=Int.tdiv_eq_ediv_of_nonneg (by omega);have t2:((i:Int)+1).tmod 10=((i:Int)+1)%10:=Int.tmod_eq_emod_of_nonneg (by omega);have yes:i<g.toNat->agr [c0,c1] ((i:Int)+1)->Q' (.ret,[.str [c0,c1],.int .i64 g,.int .i64 ((i:Int)+1),.bool true],⟨1,[.cells [.int .u8 (48+((i:Int)+1)/10),.int .u8 (48+((i:Int)+1)%10)] true none],[]⟩):=λh ha=>by
    rw[MF h ha,cond_true]at hq;exact hQ (.ret,_,_) ⟨_,_,vwT (ZH rfl rfl) (VW.any (.same (.same (.int (.same .nil)))) rfl),hq (jv [_])⟩
   have no:i<g.toNat->¬agr [c0,c1] ((i:Int)+1)->Q' (.normal,[.str [c0,c1],.int .i64 g,.int .i64 ((i:Int)+1+1),.bool false],⟨1,[.cells [.int .u8 (48+((i:Int)+1)/10),.int .u8 (48+((i:Int)+1)%10)] true none],[]⟩):=λh ha=>
    hQ (.normal,_,_) ⟨⟨i+1,by omega,λk hk=>by
     rw[Bool.not_eq_true]at ha;by_cases e:k=i
     . subst e;exact ha
     . exact hp k (by omega)⟩,by dsimp only;omega,ZH rfl rfl⟩
   have fin:¬i<g.toNat->Q' (.exit 0,[.str [c0,c1],.int .i64 g,.int .i64 ((i:Int)+1),.bool false],dO):=λh=>by
    obtain rfl:i=g.toNat:=by omega
    rw[GH.2 hp,cond_false]at hq;exact hQ (.exit 0,_,_) ⟨_,_,VW.of_eq (by rw[Int.toNat_of_nonneg h3]) rfl,hq⟩
   rw[Jt]at yes no;clear hQ hq hq4 hp;rw[t1,t2];simp only[az,reduceCtorEq]
   (repeat' first|exact trivial|refine⟨?_,?_⟩|intro)<;>first|omega|exact fin (by omega)|exact yes (by omega) (by omega)|exact no (by omega) (by omega)
 . cases hv
theorem QW:ak Tryz.prog cfg Z5:=by
 refine au (au (au mj λargs t v he hv=>?_) λargs t v he hv=>?_) λargs t v he hv=>?_
 . unfold Up at he;split at he
   . rename_i s g;cases he;obtain⟨⟨h1,h2,-⟩,hv⟩:=aF hv;rw[ao]at h1 h2;cases hv;by_cases hs:s.length=2
     . match s,hs with
       | [c0,c1],_=>
         refine kw mj (L:=TW) F5 (by simp) (dv CA λi hi e he st Q hw=>?_) (jT (bA 11422000) (R:=λQ=>(λ(A:Bool)=>ab 0 g/\ab g 99/\(A->(∀J1 J2:Nat->Value,Q (.bool true)))/\(A=false->(∀J1:Nat->Value,Q (.bool false)))) (eW [c0,c1] g.toNat)) (λ_=>by kernel_rfl) λQ' hQ=>?_) (by simp[aD])
         . have hi:i=0:=by simp at hi;omega
           subst hi;cases he;exact b7 (cF.good mj) (by decide) rfl OA hw
         . try dsimp only
           have fin:∀b:Bool,b=eW [c0,c1] g.toNat->Q' (.bool b):=λb h=>hQ _ (by rw[h]);clear hQ;generalize eW [c0,c1] g.toNat=sa at *;simp only[az,reduceCtorEq]
           (repeat' first|exact trivial|refine⟨?_,?_⟩|intro)<;>first|omega|(apply fin;symm;assumption)
     . refine kw mj (L:=TW) F5 (by simp) (dv CA λi hi e he st Q hw=>?_) (jT (.t .z) (R:=λQ=>not (aa (Int.ofNat s.length) 2)/\Q (.bool false)) (λ_=>by kernel_rfl) λQ' hQ=>?_) (by simp[aD])
       . have hi:i=0:=by simp at hi;omega
         subst hi;cases he;exact b7 (cF.good mj) (by decide) rfl OA hw
       . have sn:eW s g.toNat=false:=GH.2 λk hk=>by unfold agr;rw[decide_eq_false hs];rfl
         simp only[az,reduceCtorEq];exact⟨by omega,hQ _ (by rw[sn])⟩
   . cases he
 . unfold VX at he;split at he
   . rename_i ng lg s e g mo da a b c;cases he;cases hv;refine iI mj ag (bA 1001000405100100040054005) (R:=λQ=>(λ(A B:Bool)(C:Prop)=>(λ(E:Prop)=>(B->(A->Q (.int .i64 3))/\(E->C))/\(B=false->(A->C)/\(E->Q (.int .i64 1)))) (A=false)) (not (af da [])) (not (af mo [])) (Q (.int .i64 2))) (λ_=>by kernel_rfl) λQ' hQ=>?_;try dsimp only
     unfold df at hQ;generalize af mo []=p at *;generalize af da []=q at *;cases p<;>cases q<;>(repeat' first|exact trivial|refine⟨?_,?_⟩|intro)<;>first|exact hQ _ rfl|(exfalso;simp_all;done)
   . cases he
 . unfold VC at he;split at he
   . rename_i a b c n;cases he;obtain⟨⟨h1,h2,h3,h4,h5,-⟩,hv⟩:=aF hv;rw[aB]at h1 h2 h3;simp only[dP,dR]at h1 h2 h3;rw[ao]at h4 h5;cases hv;refine iI mj ag (bA 1530310014020245164000530310014020225164051402024516400053033516400053322) (R:=λQ=>(λ(B C H I N O P T:Bool)(A E U:Prop)=>(λ(V:Bool)(F G W Y:Prop)=>V/\V/\H=false/\not (ab n 3)=false/\(I->A)/\(I=false->E/\E/\E/\(N->A)/\(N=false->(C->C/\C/\(O->A)/\(O=false->(P->A)/\(W->B/\Y)))/\(F->F/\F/\(P->A)/\(W->(B->Y)/\(G->G/\G/\U)))))) (not H) (C=false) (B=false) (P=false) (B/\B/\(T->A)/\(T=false->U))) (ab n 2) (ab n 1) (not (ab 1 n)) (not (ab a 3)) (not (ab b 3)) (not (aa b 0)) (not (ab c 3)) (not (aa c 0)) (Q (.int .i64 9)) (ab n 0=false) (Q (.int .i64 0))) (λ_=>by kernel_rfl) λQ' hQ=>?_;try dsimp only
     have fin:∀v:Int,v=errMk a b c n->Q' (.int .i64 v):=λv h=>hQ _ (by rw[h]);clear hQ;unfold errMk at fin;simp only[az,reduceCtorEq]
     (repeat' first|exact trivial|refine⟨?_,?_⟩|intro)<;>first|omega|(apply fin;(repeat' split)<;>omega)
   . cases he
def ii(y:Int):Int:=lp y
def bf(y:Int):Int:=yst y
def qo(y:Int):Int:=before y
def cV(a b:Int):Int:=a/b
def d_(a b:Int):Int:=a%b
def TA:dJ:=λargs=>match args with
 | [.int .i64 a,.int .i64 b]=>some (aH [ae .i64 a,ab 2 b,ab b 200000] (.ret (.tuple [.int .i64 (cV a b),.int .i64 0])))
 | _=>none
def UD:dJ:=λargs=>match args with
 | [.int .i64 a,.int .i64 b]=>some (aH [ae .i64 a,ab 2 b,ab b 200000] (.ret (.tuple [.int .i64 (d_ a b),.int .i64 0])))
 | _=>none
def Z6:aR:=aY (aY gX 202 TA) 203 UD
def Hb(y:Int):Bool:=ab (-20000000000000000) y&&ab y 20000000000000000
def Uf:dJ:=λargs=>match args with
 | [.int .i64 y]=>some (aH [Hb y] (.ret (.int .i64 (qo y))))
 | _=>none
def Tn:dJ:=λargs=>match args with
 | [.int .i64 y]=>some (aH [Hb y] (.ret (.int .i64 (bf y))))
 | _=>none
def ZL:aR:=aY Z6 245 Uf
def Z8:aR:=aY ZL 206 Tn
theorem J0{a b:Int}(hb:0<b):(a.tmod b<0->a.tdiv b-1=cV a b/\a.tmod b+b=d_ a b)/\(0<=a.tmod b->a.tdiv b=cV a b/\a.tmod b=d_ a b)/\-b<a.tmod b/\a.tmod b<b/\(a.tmod b<0->a<0)/\(0<a.tmod b->0<a):=by
 have e:=tq_cases a b hb;have h1:=Int.lt_tmod_of_pos a hb;have h2:=Int.tmod_lt_of_pos a hb;have h3:0<=a->0<=a.tmod b:=λh=>Int.tmod_nonneg b h;have h4:a<=0->a.tmod b<=0:=λh=>by
  have:=Int.tmod_nonneg b (show 0<=-a by omega);rw[Int.neg_tmod]at this;omega
 unfold cV d_;refine⟨λh=>?_,λh=>?_,h1,h2,λh=>?_,λh=>?_⟩
 . rw[if_pos (by omega),if_pos (by omega)]at e;exact⟨e.1.symm,e.2.symm⟩
 . rw[if_neg (by omega),if_neg (by omega)]at e;exact⟨e.1.symm,e.2.symm⟩
 . omega
 . omega
theorem JW:ak Tryz.prog cfg Z6:=by
 refine au (au aV λargs t v he hv=>?_) λargs t v he hv=>?_
 . unfold TA at he;split at he
   . rename_i a b;cases he;obtain⟨⟨h1,h2,h3,-⟩,hv⟩:=aF hv;rw[aB]at h1;rw[ao]at h2 h3;simp only[dP,dR]at h1;cases hv;refine iI aV ag (bA 1033811144227421033811144227424233) (R:=λQ=>(λ(C:AV)(A F G:Bool)(E:Int)=>(λ(N:Bool)(H T:Int)(B O P:Prop)=>(λ(U:Bool)(I:Int)(V:Prop)=>(λ(W:Bool)=>aa b 0=false/\aa b (Neg.neg 1)=false/\F/\(N->F/\(A->A/\A/\A/\A/\A/\(G->(U->Q (.tuple [.int .i64 H,C]))/\(U=false->Q (.tuple [.int .i64 (IntKind.wrap .i64 H),C])))/\(O->P))/\(B->B/\B/\B/\B/\B/\P))/\(N=false->F/\(A->A/\A/\A/\A/\A/\(G->(W->Q (.tuple [.int .i64 I,C]))/\(W=false->Q (.tuple [.int .i64 (IntKind.wrap .i64 I),C])))/\(O->V))/\(B->B/\B/\B/\B/\B/\V))) (ae .i64 I)) (ae .i64 H) (Int.sub T 1) (Q (.tuple [.int .i64 T,C]))) (ae .i64 E) (Int.sub E 1) (IntKind.wrap .i64 E) (A=false) (G=false) (Q (.tuple [.int .i64 E,C]))) (.int .i64 0) (not (aa (Int.tmod a b) 0)) (not (aa b 0)) (not (bW (not (ab 0 a)) (not (ab 0 b)))) (Int.tdiv a b)) (λ_=>by kernel_rfl) λQ' hQ=>?_;try dsimp only
     obtain⟨k1,k2,k3,k4,k5,k6⟩:=@J0 a b (by omega);have tb:=tdiv_bd a b h2 h1.1 h1.2;have w:IntKind.wrap .i64 (a.tdiv b)=a.tdiv b:=Bs .i64 _ (by simp only[dP];omega) (by simp only[dR];omega);have fin:∀n:Int,n=cV a b->Q' (.tuple [.int .i64 n,.int .i64 0]):=λn h=>hQ _ (by rw[h]);clear hQ;have e0:ab 0 b=true:=ao.mpr (by omega);simp only[w,e0,Bool.not_true];generalize a.tdiv b=q at *;generalize a.tmod b=r at *;simp only[az,reduceCtorEq]
     (repeat' first|exact trivial|refine⟨?_,?_⟩|intro)<;>first|omega|(apply fin;exact(k1 (by omega)).1)|(apply fin;exact(k2 (by omega)).1)
   . cases he
 . unfold UD at he;split at he
   . rename_i a b;cases he;obtain⟨⟨h1,h2,h3,-⟩,hv⟩:=aF hv;rw[aB]at h1;rw[ao]at h2 h3;simp only[dP,dR]at h1;cases hv;refine iI aV ag (bA 10338111442274233) (R:=λQ=>(λ(E:AV)(C:Int)=>(λ(A G:Bool)(F:Int)(H:Prop)=>(λ(I:Bool)(B:Prop)=>aa b 0=false/\aa b (Neg.neg 1)=false/\not (aa b 0)/\(A->A/\A/\A/\A/\A/\(G->(I->Q (.tuple [.int .i64 F,E]))/\(I=false->Q (.tuple [.int .i64 (IntKind.wrap .i64 F),E])))/\(G=false->H))/\(B->B/\B/\B/\B/\B/\H)) (ae .i64 F) (A=false)) (not (aa C 0)) (not (bW (not (ab 0 C)) (not (ab 0 b)))) (Int.add C b) (Q (.tuple [.int .i64 C,E]))) (.int .i64 0) (Int.tmod a b)) (λ_=>by kernel_rfl) λQ' hQ=>?_;try dsimp only
     obtain⟨k1,k2,k3,k4,k5,k6⟩:=@J0 a b (by omega);have fin:∀n:Int,n=d_ a b->Q' (.tuple [.int .i64 n,.int .i64 0]):=λn h=>hQ _ (by rw[h]);clear hQ;have e0:ab 0 b=true:=ao.mpr (by omega);simp only[e0,Bool.not_true];generalize a.tdiv b=q at *;generalize a.tmod b=r at *;simp only[az,reduceCtorEq]
     (repeat' first|exact trivial|refine⟨?_,?_⟩|intro)<;>first|omega|(apply fin;exact(k1 (by omega)).2)|(apply fin;exact(k2 (by omega)).2)
   . cases he
theorem Ii:ak Tryz.prog cfg ZL:=by
 refine au JW λargs t v he hv=>?_
 . unfold Uf at he;split at he
   . rename_i y;cases he;obtain⟨h1,hv⟩:=bK hv;unfold Hb at h1;rw[zAa,ao,ao]at h1;cases hv;refine iI JW ag (bA 100100410010044000200200051001004100100440002002000541001004100100440002002000510010041001004400020020005440002002000510010041001004400020020005100100410010044000200200054100100410010044000200200051001004100100440002002000544000200200054100100410010044000200200051001004100100440002002000541001004100100440002002000510010041001004400020020005440002002000510010041001004400020020005100100410010044000200200054100100410010044000200200051001004100100440002002000544000200200054400020020005) (R:=λQ=>(λ(I:Int)=>(λ(A:Bool)(B G u3:Int)=>(λ(C H uA:Bool)(E N O P:Int)=>(λ(uB uD:Bool)(T V W Y uC uE:Int)(F U:Prop)=>(λ(uF uH uJ uL:Bool)(Z u0 u1 u2 u4 u5 u6 u7 u8 u9 ua ub uG uI uK uM:Int)=>(λ(uN uO uP uQ uR uT uV uW uX uY uZ v1:Bool)(uc ud ue uf ug uh ui uj uk ul um un uo up uq ur uS uU v0 v2:Int)=>(λ(v3 v4 v5 v6 v7 v8 v9 va vb vc vd ve vf vg vh vi:Bool)(us ut uu uv uw ux uy uz:Int)=>(λ(vj vk vl vm vn vo vp vq:Bool)=>(λ(vr:Prop->Prop)=>vr ((uA->(uB->vr ((H->(uF->vr ((C->(uN->Q (.int .i64 u4))/\(uN=false->Q (.int .i64 (IntKind.wrap .i64 u4))))/\(F->(uO->Q (.int .i64 u5))/\(uO=false->Q (.int .i64 (IntKind.wrap .i64 u5))))))/\(uF=false->vr ((C->(v3->Q (.int .i64 uc))/\(v3=false->Q (.int .i64 (IntKind.wrap .i64 uc))))/\(F->(v4->Q (.int .i64 ud))/\(v4=false->Q (.int .i64 (IntKind.wrap .i64 ud)))))))/\(U->(uH->vr ((C->(uP->Q (.int .i64 u6))/\(uP=false->Q (.int .i64 (IntKind.wrap .i64 u6))))/\(F->(uQ->Q (.int .i64 u7))/\(uQ=false->Q (.int .i64 (IntKind.wrap .i64 u7))))))/\(uH=false->vr ((C->(v5->Q (.int .i64 ue))/\(v5=false->Q (.int .i64 (IntKind.wrap .i64 ue))))/\(F->(v6->Q (.int .i64 uf))/\(v6=false->Q (.int .i64 (IntKind.wrap .i64 uf)))))))))/\(uB=false->vr ((H->(uR->vr ((C->(v7->Q (.int .i64 ug))/\(v7=false->Q (.int .i64 (IntKind.wrap .i64 ug))))/\(F->(v8->Q (.int .i64 uh))/\(v8=false->Q (.int .i64 (IntKind.wrap .i64 uh))))))/\(uR=false->vr ((C->(vj->Q (.int .i64 us))/\(vj=false->Q (.int .i64 (IntKind.wrap .i64 us))))/\(F->(vk->Q (.int .i64 ut))/\(vk=false->Q (.int .i64 (IntKind.wrap .i64 ut)))))))/\(U->(uT->vr ((C->(v9->Q (.int .i64 ui))/\(v9=false->Q (.int .i64 (IntKind.wrap .i64 ui))))/\(F->(va->Q (.int .i64 uj))/\(va=false->Q (.int .i64 (IntKind.wrap .i64 uj))))))/\(uT=false->vr ((C->(vl->Q (.int .i64 uu))/\(vl=false->Q (.int .i64 (IntKind.wrap .i64 uu))))/\(F->(vm->Q (.int .i64 uv))/\(vm=false->Q (.int .i64 (IntKind.wrap .i64 uv))))))))))/\(uA=false->(uD->vr ((H->(uJ->vr ((C->(uV->Q (.int .i64 u8))/\(uV=false->Q (.int .i64 (IntKind.wrap .i64 u8))))/\(F->(uW->Q (.int .i64 u9))/\(uW=false->Q (.int .i64 (IntKind.wrap .i64 u9))))))/\(uJ=false->vr ((C->(vb->Q (.int .i64 uk))/\(vb=false->Q (.int .i64 (IntKind.wrap .i64 uk))))/\(F->(vc->Q (.int .i64 ul))/\(vc=false->Q (.int .i64 (IntKind.wrap .i64 ul)))))))/\(U->(uL->vr ((C->(uX->Q (.int .i64 ua))/\(uX=false->Q (.int .i64 (IntKind.wrap .i64 ua))))/\(F->(uY->Q (.int .i64 ub))/\(uY=false->Q (.int .i64 (IntKind.wrap .i64 ub))))))/\(uL=false->vr ((C->(vd->Q (.int .i64 um))/\(vd=false->Q (.int .i64 (IntKind.wrap .i64 um))))/\(F->(ve->Q (.int .i64 un))/\(ve=false->Q (.int .i64 (IntKind.wrap .i64 un)))))))))/\(uD=false->vr ((H->(uZ->vr ((C->(vf->Q (.int .i64 uo))/\(vf=false->Q (.int .i64 (IntKind.wrap .i64 uo))))/\(F->(vg->Q (.int .i64 up))/\(vg=false->Q (.int .i64 (IntKind.wrap .i64 up))))))/\(uZ=false->vr ((C->(vn->Q (.int .i64 uw))/\(vn=false->Q (.int .i64 (IntKind.wrap .i64 uw))))/\(F->(vo->Q (.int .i64 ux))/\(vo=false->Q (.int .i64 (IntKind.wrap .i64 ux)))))))/\(U->(v1->vr ((C->(vh->Q (.int .i64 uq))/\(vh=false->Q (.int .i64 (IntKind.wrap .i64 uq))))/\(F->(vi->Q (.int .i64 ur))/\(vi=false->Q (.int .i64 (IntKind.wrap .i64 ur))))))/\(v1=false->vr ((C->(vp->Q (.int .i64 uy))/\(vp=false->Q (.int .i64 (IntKind.wrap .i64 uy))))/\(F->(vq->Q (.int .i64 uz))/\(vq=false->Q (.int .i64 (IntKind.wrap .i64 uz)))))))))))) (λvs=>A/\A/\vs)) (ae .i64 us) (ae .i64 ut) (ae .i64 uu) (ae .i64 uv) (ae .i64 uw) (ae .i64 ux) (ae .i64 uy) (ae .i64 uz)) (ae .i64 uc) (ae .i64 ud) (ae .i64 ue) (ae .i64 uf) (ae .i64 ug) (ae .i64 uh) (ae .i64 ui) (ae .i64 uj) (ae .i64 uk) (ae .i64 ul) (ae .i64 um) (ae .i64 un) (ae .i64 uo) (ae .i64 up) (ae .i64 uq) (ae .i64 ur) (Int.add uS B) (Int.add uS E) (Int.add uU B) (Int.add uU E) (Int.add v0 B) (Int.add v0 E) (Int.add v2 B) (Int.add v2 E)) (ae .i64 u4) (ae .i64 u5) (ae .i64 u6) (ae .i64 u7) (ae .i64 Z) (ae .i64 u0) (ae .i64 u8) (ae .i64 u9) (ae .i64 ua) (ae .i64 ub) (ae .i64 u1) (ae .i64 u2) (Int.add uG B) (Int.add uG E) (Int.add uI B) (Int.add uI E) (Int.add Z B) (Int.add Z E) (Int.add u0 B) (Int.add u0 E) (Int.add uK B) (Int.add uK E) (Int.add uM B) (Int.add uM E) (Int.add u1 B) (Int.add u1 E) (Int.add u2 B) (Int.add u2 E) (IntKind.wrap .i64 Z) (IntKind.wrap .i64 u0) (IntKind.wrap .i64 u1) (IntKind.wrap .i64 u2)) (ae .i64 T) (ae .i64 V) (ae .i64 W) (ae .i64 Y) (Int.add uC G) (Int.add uC O) (Int.add uE G) (Int.add uE O) (Int.add T B) (Int.add T E) (Int.add V B) (Int.add V E) (Int.add W B) (Int.add W E) (Int.add Y B) (Int.add Y E) (IntKind.wrap .i64 T) (IntKind.wrap .i64 V) (IntKind.wrap .i64 W) (IntKind.wrap .i64 Y)) (ae .i64 N) (ae .i64 P) (Int.add N G) (Int.add N O) (Int.add P G) (Int.add P O) (IntKind.wrap .i64 N) (IntKind.wrap .i64 P) (C=false) (H=false)) (ae .i64 B) (ae .i64 G) (ae .i64 u3) (IntKind.wrap .i64 B) (Int.add 1 u3) (IntKind.wrap .i64 G) (Int.add 1 (IntKind.wrap .i64 u3))) (ae .i64 I) (Int.mul 1 (cV I 400)) (Int.mul (Neg.neg 1) (cV I 100)) (Int.mul 1 (cV I 4))) (Int.sub y 1)) (λ_=>by kernel_rfl) λQ' hQ=>?_;try dsimp only
     have fin:∀n:Int,n=qo y->Q' (.int .i64 n):=λn h=>hQ _ (by rw[h]);clear hQ;simp only[az,reduceCtorEq,cV];unfold qo before at fin
     (repeat' first|exact trivial|refine⟨?_,?_⟩|intro)<;>first|omega|(apply fin;omega)
   . cases he
theorem AW:ak Tryz.prog cfg Z8:=by
 refine au Ii λargs t v he hv=>?_
 . unfold Tn at he;split at he
   . rename_i y;cases he;obtain⟨h1,hv⟩:=bK hv;unfold Hb at h1;rw[zAa,ao,ao]at h1;cases hv;have hok:Hb y=true:=by unfold Hb;rw[zAa,ao,ao];exact h1
     have hb : -20000000000000000<=qo y/\qo y<=20000000000000000:=by unfold qo before;omega
     refine iI Ii ag (bA 114202) (R:=λQ=>(λ(B:Int)=>(λ(A:Int)=>(λ(C:Bool)=>ae .i64 B/\and (ab (Neg.neg 20000000000000000) y) (ab y 20000000000000000)/\(C->Q (.int .i64 A))/\(C=false->Q (.int .i64 (IntKind.wrap .i64 A)))) (ae .i64 A)) (Int.add B (qo y))) (Int.mul 365 y)) (λ_=>by kernel_rfl) λQ' hQ=>?_;try dsimp only
     have fin:∀n:Int,n=bf y->Q' (.int .i64 n):=λn h=>hQ _ (by rw[h]);clear hQ;have e:bf y=365*y+qo y:=rfl;rw[e]at fin;generalize qo y=by' at *;simp only[az,reduceCtorEq]
     (repeat' first|exact trivial|refine⟨?_,?_⟩|intro)<;>first|omega|assumption|(apply fin;omega)
   . cases he
def eB(y:Int):Bool:=ab (-10000000000000000) y&&ab y 10000000000000000
def qD(m:Int):Bool:=ab 1 m&&ab m 12
def dX(y m:Int):Int:=mlen y m
def aG(y m:Int):Int:=mst y m
def Ux:dJ:=λargs=>match args with
 | [.int .i64 y]=>some (aH [eB y] (.ret (.tuple [.bool (aa (ii y) 1),.int .i64 0])))
 | _=>none
def PT:dJ:=λargs=>match args with
 | [.int .i64 y]=>some (aH [eB y] (.ret (.tuple [.int .i64 (bf y),.int .i64 0])))
 | _=>none
def Pp:dJ:=λargs=>match args with
 | [.int .i64 y]=>some (aH [eB y] (.ret (.tuple [.int .i64 (bf (y+1)-1),.int .i64 0])))
 | _=>none
def ZV:aR:=aY (aY (aY Z8 234 Ux) 191 PT) 208 Pp
def WD:dJ:=λargs=>match args with
 | [.int .i64 y,.int .i64 m]=>some (aH [eB y,qD m] (.ret (.int .i64 (dX y m))))
 | _=>none
def Yx:aR:=aY ZV 192 WD
theorem bV{y:Int}:eB y=true↔-10000000000000000<=y/\y<=10000000000000000:=by unfold eB;rw[zAa,ao,ao]
theorem gz{m:Int}:qD m=true↔1<=m/\m<=12:=by unfold qD;rw[zAa,ao,ao]
theorem qK{y:Int}(h : -10000000000000000<=y)(h2:y<=10000000000000001) : -3652425000000000001<=bf y/\bf y<=3652425000000000400:=yst_bd y h h2
theorem A6:ak Tryz.prog cfg ZV:=by
 refine au (au (au AW λargs t v he hv=>?_) λargs t v he hv=>?_) λargs t v he hv=>?_
 . unfold Ux at he;split at he
   . rename_i y;cases he;obtain⟨h1,hv⟩:=bK hv;rw[bV]at h1;cases hv;refine iI AW ag (bA 12020203322) (R:=λQ=>(λ(B:Bool)(A:Int)=>(λ(C:Bool)=>C/\C/\B=false/\not (ab y 10000000000000000)=false/\ae .i64 A/\and (ab (Neg.neg 20000000000000000) A) (ab A 20000000000000000)/\and (ab (Neg.neg 20000000000000000) y) (ab y 20000000000000000)/\Q (.tuple [.bool (not (ab (qo A) (qo y))),.int .i64 0])) (not B)) (not (ab (Neg.neg 10000000000000000) y)) (Int.add y 1)) (λ_=>by kernel_rfl) λQ' hQ=>?_;try dsimp only
     have e:qo (y+1)=qo y+ii y:=before_succ y;have l:0<=ii y/\ii y<=1:=lp_01 y;have fin:∀b:Bool,b=aa (ii y) 1->Q' (.tuple [.bool b,.int .i64 0]):=λb h=>hQ _ (by rw[h]);clear hQ;have hb:Bool.not (ab (qo (Int.add y 1)) (qo y))=aa (ii y) 1:=by
      rw[Bool.eq_iff_iff,mr,bY,al,vx,e];omega
     rw[hb];simp only[az,reduceCtorEq]
     (repeat' first|exact trivial|refine⟨?_,?_⟩|intro)<;>first|omega|exact fin _ rfl
   . cases he
 . unfold PT at he;split at he
   . rename_i y;cases he;obtain⟨h1,hv⟩:=bK hv;rw[bV]at h1;cases hv;refine iI AW ag (bA 12003322) (R:=λQ=>(λ(A:Bool)=>(λ(B:Bool)=>B/\B/\A=false/\not (ab y 10000000000000000)=false/\and (ab (Neg.neg 20000000000000000) y) (ab y 20000000000000000)/\Q (.tuple [.int .i64 (bf y),.int .i64 0])) (not A)) (not (ab (Neg.neg 10000000000000000) y))) (λ_=>by kernel_rfl) λQ' hQ=>?_;simp only[az,reduceCtorEq]
     (repeat' first|exact trivial|refine⟨?_,?_⟩|intro)<;>first|omega|exact hQ _ rfl
   . cases he
 . unfold Pp at he;split at he
   . rename_i y;cases he;obtain⟨h1,hv⟩:=bK hv;rw[bV]at h1;cases hv;refine iI AW ag (bA 11420203322) (R:=λQ=>(λ(E:AV)(C:Bool)(A:Int)=>(λ(F:Bool)(B:Int)=>(λ(G:Bool)=>F/\F/\C=false/\not (ab y 10000000000000000)=false/\ae .i64 A/\and (ab (Neg.neg 20000000000000000) A) (ab A 20000000000000000)/\(G->Q (.tuple [.int .i64 B,E]))/\(G=false->Q (.tuple [.int .i64 (IntKind.wrap .i64 B),E]))) (ae .i64 B)) (not C) (Int.sub (bf A) 1)) (.int .i64 0) (not (ab (Neg.neg 10000000000000000) y)) (Int.add y 1)) (λ_=>by kernel_rfl) λQ' hQ=>?_;try dsimp only
     have bd:=@qK (y+1) (by omega) (by omega);simp only[az,reduceCtorEq]
     (repeat' first|exact trivial|refine⟨?_,?_⟩|intro)<;>first|omega|exact hQ _ rfl
   . cases he
theorem Rh{k:Nat}(hk:k<12):List.getD [AV.int .i64 31,.int .i64 28,.int .i64 31,.int .i64 30,.int .i64 31,.int .i64 30,.int .i64 31,.int .i64 31,.int .i64 30,.int .i64 31,.int .i64 30,.int .i64 31] (0+k*1) (AV.tuple [])=.int .i64 (len0.getD k 0):=by
 have:k=0\/k=1\/k=2\/k=3\/k=4\/k=5\/k=6\/k=7\/k=8\/k=9\/k=10\/k=11:=by omega
 rcases this with rfl|rfl|rfl|rfl|rfl|rfl|rfl|rfl|rfl|rfl|rfl|rfl<;>rfl
theorem AR:ak Tryz.prog cfg Yx:=by
 refine au A6 λargs t v he hv=>?_;unfold WD at he;split at he
 . rename_i y m;cases he;obtain⟨⟨h1,h2,-⟩,hv⟩:=aF hv;rw[bV]at h1;rw[gz]at h2;cases hv;refine iI A6 ag (bA 1270331271422420) (R:=λQ=>(λ(A C:AV)(B:Bool)(E:Int)=>(λ(G:Nat)(F:Prop)=>(λ(H:AV)=>(λ(I:Prop)=>and (ab (Neg.neg 10000000000000000) y) (ab y 10000000000000000)/\(B->B/\B/\(aa m 2->Q (.int .i64 29))/\(aa m 2=false->I))/\(F->F/\F/\I)) (ae .i64 E/\ab 0 E/\aW G 12/\cq .i64 H/\Q (.int .i64 (bC H)))) (List.getD [A,.int .i64 28,A,C,A,C,A,A,C,A,C,A] (HAdd.hAdd 0 (HMul.hMul G 1)) (.tuple []))) E.toNat (B=false)) (.int .i64 31) (.int .i64 30) (aa (ii y) 1) (Int.sub m 1)) (λ_=>by kernel_rfl) λQ' hQ=>?_;try dsimp only
   have hk:(Int.sub m 1).toNat<12:=by show(m-1).toNat<12;omega
   rw[Rh hk];have l:0<=ii y/\ii y<=1:=lp_01 y;have i0:∀n:Int,bC (.int .i64 n)=n:=λ_=>rfl;have ka:∀n:Int,cq .i64 (.int .i64 n)=true:=λn=>rfl;simp only[i0,ka];have fin:∀n:Int,n=dX y m->Q' (.int .i64 n):=λn h=>hQ _ (by rw[h]);have e29:m=2->ii y=1->dX y m=29:=λk1 k2=>by subst k1;unfold dX mlen;rw[if_pos rfl];unfold ii at k2;omega
   have en:(m≠2\/ii y=0)->dX y m=len0.getD (m-1).toNat 0:=λh=>mlen_len0 y m h2.1 h2.2 h;have yb:=bV.2 h1;clear hQ hk;simp only[az,reduceCtorEq]
   (repeat' first|exact trivial|refine⟨?_,?_⟩|intro)<;>first|omega|assumption|(apply fin;rw[e29 (by omega) (by omega)])|(apply fin;rw[en (by omega)])
 . cases he
def Ry:d9:=λvs o=>match vs,o with
 | [.int .i64 y,.int .i64 d,.int .i64 k,.int .i64 i],⟨0,[],[]⟩=>some (aH [eB y,ab 0 k,ab k 11,aa i 0,aa d (bf y)] (.ret (.exit 0,[.int .i64 y,.int .i64 (aG y (Int.add k 1)),.int .i64 k,.int .i64 k],dO)))
 | _,_=>none
def Yt:cz:=iz io 0 (eb 34 [0,7,22,23] Ry)
def QF:dJ:=λargs=>match args with
 | [.int .i64 y,.int .i64 m]=>some (aH [eB y,qD m] (.ret (.tuple [.int .i64 (aG y m),.int .i64 0])))
 | _=>none
def PS:dJ:=λargs=>match args with
 | [.int .i64 y,.int .i64 m]=>some (aH [eB y,qD m] (.ret (.tuple [.int .i64 (aG y (m+1)-1),.int .i64 0])))
 | _=>none
def ZI:aR:=aY Yx 155 QF
def Zq:aR:=aY ZI 210 PS
def N9:bh tab 155=some (dC 155,aN 155):=by kernel_rfl
def KZ:(bj (aN 155)).map (·.1)=[0]:=by kernel_rfl
theorem mst_1(y:Int):aG y 1=bf y:=by unfold aG mst mcum bf;rw[if_pos (by decide)];omega
theorem pQ{y m:Int}(h1:1<=m)(h2:m<=12):aG y (m+1)=aG y m+dX y m:=by
 unfold aG mst dX;rw[mcum_succ y m h1 h2];omega
theorem iF(y m:Int):28<=dX y m/\dX y m<=31:=mlen_bd y m
theorem mst_bd{y m:Int}(hy : -10000000000000000<=y/\y<=10000000000000000)(h1:1<=m)(h2:m<=13) : -3652425000000000001<=aG y m/\aG y m<=3652425000000000800:=by
 have:=qK hy.1 (by omega);have:=mcum_bd y m h1 h2;unfold aG mst;unfold bf at *;omega
theorem Wf:cx Tryz.prog (cH cfg Yx) (Cw cfg []) (lb 155 0) 34 [0,7,22,23] Ry:=by
 intro vs o t Q hv hq J;unfold Ry at hv;split at hv
 . rename_i y d k i;cases hv;obtain⟨h1,hq1⟩:=cY hq;obtain⟨h2,hq2⟩:=cY hq1;obtain⟨h3,hq3⟩:=cY hq2;obtain⟨h4,hq4⟩:=cY hq3;obtain⟨h5,hq5⟩:=cY hq4;clear hq hq1 hq2 hq3 hq4;rw[ao]at h2 h3;rw[al]at h4 h5;subst h4 h5;have hy:=bV.1 h1;have hq:Q (.exit 0,[.int .i64 y,.int .i64 (aG y (k+1)),.int .i64 k,.int .i64 k],dO):=hq5;refine im AR rfl rfl ag (ι:={i:Nat // (i:Int)<=k}) (λx=>[.int .i64 y,.int .i64 (aG y ((x.1:Int)+1)),.int .i64 k,.int .i64 (x.1:Int)]) (λ_=>dO) (λx=>k.toNat-x.1) 0 (λ_=>Nat.zero_le _) (λx J=>?_) (Nat.le_refl _) (λJ=>Wk.refl ⟨⟨0,h2⟩,J,by rw[<-mst_1];rfl⟩) J;obtain⟨i,hi⟩:=x;dsimp only;refine jT (bA 11212422024) (R:=λQ=>(λ(B C:AV)(G:Bool)(A:Int)=>(λ(H:AV)(E:Bool)(F:Int)=>(λ(I:Bool)=>(G->E/\and (ab (Neg.neg 10000000000000000) y) (ab y 10000000000000000)/\and (ab 1 A) (ab A 12)/\(I->E/\Q (.normal,[B,.int .i64 F,C,H],⟨0,[],[]⟩))/\(I=false->E/\Q (.normal,[B,.int .i64 (IntKind.wrap .i64 F),C,H],⟨0,[],[]⟩)))/\(G=false->Q (.exit 0,[B,.int .i64 (aG y ((i:Int)+1)),C,.int .i64 i],⟨0,[],[]⟩))) (ae .i64 F)) (.int .i64 A) (ae .i64 A) (Int.add (aG y ((i:Int)+1)) (dX y A))) (.int .i64 y) (.int .i64 k) (not (ab k i)) (Int.add i 1)) (λ_=>by kernel_rfl) λQ' hQ=>?_;try dsimp only
   have go:(i:Int)<k->Q' (.normal,[.int .i64 y,.int .i64 (aG y ((i:Int)+1)+dX y ((i:Int)+1)),.int .i64 k,.int .i64 ((i:Int)+1)],dO):=λh=>
    hQ (.normal,_,_) ⟨⟨i+1,by omega⟩,by dsimp only;omega,VW.of_eq (by rw[<-pQ (by omega) (by omega)];rfl) rfl⟩
   have fin:¬(i:Int)<k->Q' (.exit 0,[.int .i64 y,.int .i64 (aG y ((i:Int)+1)),.int .i64 k,.int .i64 (i:Int)],dO):=λh=>by
    have e:(i:Int)=k:=by omega
    exact hQ (.exit 0,_,_) ⟨_,_,VW.of_eq (by rw[e]) rfl,hq⟩
   have b1:=mst_bd (m:=(i:Int)+1) hy (by omega) (by omega);have b2:=iF y ((i:Int)+1);have om:qD ((i:Int)+1)=(decide ((i:Int)<12)):=by
    rw[Bool.eq_iff_iff,gz,zAb];omega
   clear hQ hq hq5;simp only[az,reduceCtorEq];generalize aG y ((i:Int)+1)=ms at *;generalize dX y ((i:Int)+1)=ml at *
   (repeat' first|exact trivial|refine⟨?_,?_⟩|intro)<;>first|omega|assumption|exact go (by omega)|exact fin (by omega)
 . cases hv
theorem Dz:ak Tryz.prog cfg ZI:=by
 refine au AR λargs t v he hv=>?_;unfold QF at he;split at he
 . rename_i y m;cases he;obtain⟨⟨h1,h2,-⟩,hv⟩:=aF hv;rw[gz]at h2;cases hv;have hy:=bV.1 h1;refine kw AR (L:=Yt) N9 (by simp) (dv KZ λi hi e he st Q hw=>?_) (jT (bA 12022700332203322) (R:=λQ=>(λ(B C E:Bool)(A:Int)=>(λ(F G H:Bool)=>(λ(I:Bool)=>I/\I/\F=false/\not C=false/\G/\G/\E=false/\not (ab m 12)=false/\H/\ae .i64 A/\H/\ab 0 A/\ab A 11/\aa (bf y) (bf y)/\(∀J1:Nat->Value,Q (.tuple [.int .i64 (aG y (Int.add A 1)),.int .i64 0]))) (not F)) (not B) (not E) (and B C)) (ab (Neg.neg 10000000000000000) y) (ab y 10000000000000000) (not (ab 1 m)) (Int.sub m 1)) (λ_=>by kernel_rfl) λQ' hQ=>?_) (by simp[aD,bz])
   . have hi:i=0:=by simp at hi;omega
     subst hi;cases he;exact b7 (cF.good AR) (by decide) rfl Wf hw
   . dsimp only;have e1:Int.add (Int.sub m 1) 1=m:=by show m-1+1=m;omega
     rw[e1];simp only[az,reduceCtorEq]
     (repeat' first|exact trivial|refine⟨?_,?_⟩|intro)<;>first|omega|assumption|exact hQ _ rfl|rfl
 . cases he
theorem AM:ak Tryz.prog cfg Zq:=by
 refine au Dz λargs t v he hv=>?_;unfold PS at he;split at he
 . rename_i y m;cases he;obtain⟨⟨h1,h2,-⟩,hv⟩:=aF hv;have hm:=gz.1 h2;cases hv;have hy:=bV.1 h1;refine iI Dz ag (bA 11411442200220) (R:=λQ=>(λ(A:AV)(F G:Bool)(B:Int)=>(λ(H:Bool)(C E:Int)=>(λ(I N:Bool)=>F/\G/\F/\G/\(H->(I->Q (.tuple [.int .i64 C,A]))/\(I=false->Q (.tuple [.int .i64 (IntKind.wrap .i64 C),A])))/\(H=false->(N->Q (.tuple [.int .i64 E,A]))/\(N=false->Q (.tuple [.int .i64 (IntKind.wrap .i64 E),A])))) (ae .i64 C) (ae .i64 E)) (ae .i64 B) (Int.sub B 1) (Int.sub (IntKind.wrap .i64 B) 1)) (.int .i64 0) (and (ab (Neg.neg 10000000000000000) y) (ab y 10000000000000000)) (and (ab 1 m) (ab m 12)) (Int.add (aG y m) (dX y m))) (λ_=>by kernel_rfl) λQ' hQ=>?_;try dsimp only
   have b1:=mst_bd (m:=m) hy hm.1 (by omega);have b2:=iF y m;have e:=pQ (y:=y) hm.1 hm.2;rw[e]at hQ;simp only[az,reduceCtorEq]
   (repeat' first|exact trivial|refine⟨?_,?_⟩|intro)<;>first|omega|assumption|exact hQ _ rfl
 . cases he
def O3:dJ:=λargs=>match args with
 | [.int .i64 y,.int .i64 m]=>some (aH [eB y,qD m] (.ret (.tuple [.int .i64 (dX y m),.int .i64 0])))
 | _=>none
def ZJ:aR:=aY Zq 163 O3
def fR(c:Int):Int:=sFrom c
def mR(c:Int):Int:=sMany c
def yQ(c:Int):Bool:=ab 21 c&&ab c 41
def fk(y c:Int):Int:=cV (12*y+(fR c-1)+(mR c-1)) 12
def kK(y c:Int):Int:=d_ (12*y+(fR c-1)+(mR c-1)) 12
def MJ:dJ:=λargs=>match args with
 | [.int .i64 y,.int .i64 c]=>some (aH [eB y,yQ c] (.test (eB (fk y c)) λb=>bif b then .ret (.tuple [.agg [.int .i8 0,.int .i64 (aG y (fR c)),.int .i8 0,.int .i64 (aG (fk y c) (kK y c+2)-1)],.int .i64 0])else .ret (.tuple [.agg [.int .i8 0,.int .i64 0,.int .i8 0,.int .i64 0],.int .i64 6])))
 | _=>none
def P8:dJ:=λargs=>match args with
 | [.int .i64 a,.int .i64 b]=>some (aH [ae .i64 (Int.add a b)] (.ret (.tuple [.int .i64 (Int.add a b),.int .i64 0])))
 | _=>none
def TO:dJ:=λargs=>match args with
 | [.int .i64 c]=>some (aH [yQ c] (.ret (.tuple [.int .i64 (fR c),.int .i64 (mR c),.int .i64 0])))
 | _=>none
def ZQ:aR:=aY (oC ZJ 211 P8) 215 TO
def VG(y m:Int){Q:AV->Prop}:fx Q (pT Zq io 163 [.int .i64 y,.int .i64 m]) (bA 12200332203322)=((λ(A B C:Bool)=>(λ(E F:Bool)=>(λ(G:Bool)=>G/\G/\E=false/\not B=false/\F/\F/\C=false/\not (ab m 12)=false/\and A B/\and (ab 1 m) (ab m 12)/\Q (.tuple [.int .i64 (dX y m),.int .i64 0])) (not E)) (not A) (not C)) (ab (Neg.neg 10000000000000000) y) (ab y 10000000000000000) (not (ab 1 m))):=by kernel_rfl
def C8:bh tab 163=some (dC 163,aN 163):=by kernel_rfl
theorem lN{c:Int}:yQ c=true↔21<=c/\c<=41:=by unfold yQ;rw[zAa,ao,ao]
theorem oy{c:Int}(h:21<=c/\c<=41):c=21\/c=22\/c=23\/c=24\/c=25\/c=26\/c=27\/c=28\/c=29\/c=30\/c=31\/c=32\/c=33\/c=34\/c=35\/c=36\/c=37\/c=38\/c=39\/c=40\/c=41:=by omega
theorem xN{c:Int}(h:21<=c/\c<=41):(1<=fR c/\fR c<=12)/\(3<=mR c/\mR c<=6):=by
 rcases oy h with rfl|rfl|rfl|rfl|rfl|rfl|rfl|rfl|rfl|rfl|rfl|rfl|rfl|rfl|rfl|rfl|rfl|rfl|rfl|rfl|rfl<;>decide
theorem IS:ak Tryz.prog cfg ZJ:=by
 refine au AM λargs t v he hv=>?_;unfold O3 at he;split at he
 . rename_i y m;cases he;obtain⟨⟨h1,h2,-⟩,hv⟩:=aF hv;have hm:=gz.1 h2;cases hv;have hy:=bV.1 h1;refine kw AM (L:=io) C8 (by simp) ag (dD λQ' hQ=>bG ((VG y m).mpr ?_)) (by simp[aD,bz]);simp only[az,reduceCtorEq]
   (repeat' first|exact trivial|refine⟨?_,?_⟩|intro)<;>first|omega|assumption|exact hQ _ rfl
 . cases he
theorem N6:jR Tryz.prog cfg 211 P8:=λargs t v he hv=>by
 unfold P8 at he;split at he
 . rename_i a b;cases he;obtain⟨h1,hv⟩:=bK hv;cases hv;refine Gl _ _ _ rfl ?_;simp only[NB,Tr.run,h1,cond_true]
 . cases he
theorem JM:ak Tryz.prog cfg ZQ:=by
 refine au (d7 IS N6) λargs t v he hv=>?_
 . unfold TO at he;split at he
   . rename_i c;cases he;obtain⟨h1,hv⟩:=bK hv;rw[lN]at h1;cases hv;refine iI IS ag (bA 11100044703322) (R:=λQ=>(λ(A B C E G H N O:AV)(I:Bool)(F:Int)=>(λ(P:Bool)(U:List AV)(T:Nat)=>(λ(V:Nat)=>(λ(W Y:AV)=>(λ(Z u0:Bool)=>P/\P/\I=false/\ab 42 c=false/\ae .i64 F/\ab 0 F/\aW T 21/\(Z->(u0->Q (.tuple [.int .i64 (bC W),.int .i64 (bC Y),.int .i64 0]))/\(u0=false->False))/\(Z=false->False)) (cq .i64 W) (cq .i64 Y)) (List.getD U V O) (List.getD U (HAdd.hAdd V 1) O)) (HAdd.hAdd 0 (HMul.hMul T 2))) (not I) [A,A,B,A,C,A,G,A,A,A,B,A,C,A,G,A,C,A,G,A,A,A,B,A,H,A,E,A,N,A,.int .i64 10,A,H,E,.int .i64 5,E,C,E,H,B,N,B] F.toNat) (.int .i64 3) (.int .i64 6) (.int .i64 9) (.int .i64 4) (.int .i64 12) (.int .i64 1) (.int .i64 7) (.tuple []) (not (ab 21 c)) (Int.sub c 21)) (λ_=>by kernel_rfl) λQ' hQ=>?_;try dsimp only
     rcases oy h1 with rfl|rfl|rfl|rfl|rfl|rfl|rfl|rfl|rfl|rfl|rfl|rfl|rfl|rfl|rfl|rfl|rfl|rfl|rfl|rfl|rfl<;>(repeat' first|exact trivial|refine⟨?_,?_⟩|intro)<;>first|rfl|exact hQ _ rfl|(rename_i h;exact absurd h (by decide))
   . cases he
theorem J4{S:aR}(hS:ak Tryz.prog cfg S):ak Tryz.prog cfg (aY S 174 MJ):=by
 refine au hS λargs t v he hv=>?_;unfold MJ at he;split at he
 . rename_i y c;cases he;obtain⟨⟨h1,h2,-⟩,hv⟩:=aF hv;rw[bV]at h1;rw[lN]at h2;obtain⟨hf,hm⟩:=xN h2;have hv':Tr.run (bif eB (fk y c)then .ret (.tuple [.agg [.int .i8 0,.int .i64 (aG y (fR c)),.int .i8 0,.int .i64 (aG (fk y c) (kK y c+2)-1)],.int .i64 0])else .ret (.tuple [.agg [.int .i8 0,.int .i64 0,.int .i8 0,.int .i64 0],.int .i64 6]))=some v:=hv;have ids:aD v=[]:=by
    cases hb:eB (fk y c)<;>rw[hb]at hv'<;>cases hv'<;>simp[aD,bz]
   refine iI JM ag (bA 15231022002010004324002000200270332203370220020) (R:=λQ=>(λ(A C:AV)(N O P T:Bool)(U V W:Int)=>(λ(Y Z:Bool)(u0:Int)(u1:Prop)=>(λ(u2 u3:Bool)(E:Int)=>(λ(F:Bool)(B G:Int)=>(λ(u4 u5:Bool)=>(λ(H u6:Bool)=>(λ(I:Bool)=>(λ(u7:Prop)=>and (ab 21 c) (ab c 41)/\and N O/\and P T/\ae .i64 U/\u2/\u2/\Y=false/\not O=false/\u3/\u3/\Z=false/\not T=false/\ae .i64 V/\ae .i64 W/\ae .i64 u0/\F/\F/\F/\(I->I/\H=false/\(u6->u1)/\(u6=false->ae .i64 B/\and u4 u5/\and (ab 1 B) (ab B 12)/\Q (.tuple [.agg [A,.int .i64 (aG y (fR c)),A,.int .i64 (HSub.hSub (aG G (HAdd.hAdd B 1)) 1)],C])))/\(u7->u7/\H/\u1)) (I=false)) (not H)) (not u4) (not u5)) (ab (Neg.neg 10000000000000000) G) (ab G 10000000000000000)) (ae .i64 E) (Int.add (d_ E 12) 1) (cV E 12)) (not Y) (not Z) (Int.add u0 U)) (not N) (not P) (Int.add V W) (Q (.tuple [.agg [A,C,A,C],.int .i64 6]))) (.int .i8 0) (.int .i64 0) (ab (Neg.neg 10000000000000000) y) (ab y 10000000000000000) (ab 1 (fR c)) (ab (fR c) 12) (Int.sub (mR c) 1) (Int.mul 12 y) (Int.sub (fR c) 1)) (λ_=>by kernel_rfl) (hi:=ids) λQ' hQ=>?_;try dsimp only
   have yes:eB (fk y c)->Q' (.tuple [.agg [.int .i8 0,.int .i64 (aG y (fR c)),.int .i8 0,.int .i64 (aG (fk y c) (kK y c+1+1)-1)],.int .i64 0]):=λh=>by
    rw[h]at hv';cases hv';exact hQ _ (by rw[show kK y c+1+1=kK y c+2 by omega])
   have no:eB (fk y c)=false->Q' (.tuple [.agg [.int .i8 0,.int .i64 0,.int .i8 0,.int .i64 0],.int .i64 6]):=λh=>by
    rw[h]at hv';cases hv';exact hQ _ rfl
   have e1:cV (12*y+(fR c-1)+(mR c-1)) 12=fk y c:=rfl;have e2:d_ (12*y+(fR c-1)+(mR c-1)) 12=kK y c:=rfl;have sm:0<=kK y c/\kK y c<=11:=by unfold kK d_;omega
   clear hQ hv hv' ids;simp only[az,reduceCtorEq,e1,e2];have yi:=@bV (fk y c);have yn:eB (fk y c)=false↔¬(-10000000000000000<=fk y c/\fk y c<=10000000000000000):=by rw[<-yi,Bool.not_eq_true]
   generalize fk y c=sy at *;generalize kK y c=sm' at *
   (repeat' first|exact trivial|refine⟨?_,?_⟩|intro)<;>first|omega|exact yes (yi.2 (by omega))|exact no (yn.2 (by omega))
 . cases he
end Go.Ev
