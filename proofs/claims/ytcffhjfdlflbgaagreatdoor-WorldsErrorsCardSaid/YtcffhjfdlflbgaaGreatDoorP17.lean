import Derived.Deep.WholeRow
import Derived.Test.YtcffhjfdlflbgaaGreatDoorP16
set_option linter.all false
open UInt8 renaming ofNat->ν,toNat->σ
open Int renaming tmod_eq_emod_of_nonneg->ξ,add->ο,ofNat->ς
open Nat renaming ble->π
set_option linter.all false
set_option maxRecDepth 100000
set_option maxHeartbeats 4000000
section
namespace Go.Ev
open Go Go.Proofs
variable{Q:AV->Prop}{s:List UInt8}
def pZ(n:Int):List UInt8:=[ν (48+(n/10).toNat),ν (48+(n%10).toNat)]
def QP:dP:=λ
 | [.a .i64 n]=>some (aH [ab 0 n,ab n 99] (.a0 (.e (pZ n))))
 | _=>none
def T4:aQ:=aK T3 125 QP
def agB(s:List UInt8)(i:Nat)(d:Int):Bool:=decide ((s.getD i 0).toNat=88) || decide (((s.getD i 0).toNat:Int)=48+d)
def agr(s:List UInt8)(n:Int):Bool:=decide (s.length=2)&&(agB s 0 (n/10)&&agB s 1 (n%10))
def amN:dP:=λ
 | [.e s,.a .i64 n]=>some (aH [ab 0 n,ab n 99] (.a0 (.a .i64 (bI (agr s n)))))
 | _=>none
def T5:aQ:=aK T4 249 amN
def eW(s:List UInt8)(g:Nat):Bool:=(List.range g).any λk=>agr s (k+1)
def aR(mo:List UInt8):Int:=bif ae mo [ν 50,ν 49]then 21 else bif ae mo [ν 50,ν 50]then 22 else bif ae mo [ν 50,ν 51]then 23 else bif ae mo [ν 50,ν 52]then 24 else bif ae mo [ν 50,ν 53]then 25 else bif ae mo [ν 50,ν 54]then 26 else bif ae mo [ν 50,ν 55]then 27 else bif ae mo [ν 50,ν 56]then 28 else bif ae mo [ν 50,ν 57]then 29 else bif ae mo [ν 51,ν 48]then 30 else bif ae mo [ν 51,ν 49]then 31 else bif ae mo [ν 51,ν 50]then 32 else bif ae mo [ν 51,ν 51]then 33 else bif ae mo [ν 51,ν 52]then 34 else bif ae mo [ν 51,ν 53]then 35 else bif ae mo [ν 51,ν 54]then 36 else bif ae mo [ν 51,ν 55]then 37 else bif ae mo [ν 51,ν 56]then 38 else bif ae mo [ν 51,ν 57]then 39 else bif ae mo [ν 52,ν 48]then 40 else bif ae mo [ν 52,ν 49]then 41 else 0
def dq(mo da:List UInt8):Int:=1+(bif ae mo []then 0 else 1)+(bif ae da []then 0 else 1)
def errMk(a b c n:Int):Int:=if n<1\/3<n then 4 else if 3<a\/(n<=0/\0<a)\/3<b\/(n<=1/\0<b)\/3<c\/(n<=2/\0<c)then 9 else 0
def akD:dW:=λ
 | [.e s,.a .i64 g,.a .i64 r,.a .i64 i],⟨0,[],[]⟩=>some (aH [ab 0 g,ab g 99,aa r 0,aa i 1]
   (.d0 (eW s g.toNat) λb=>bif b then .e0 λJ=>.a0 (.c,[.e s,.a .i64 g,.a .i64 1,.j (J 0)],dO)else .a0 (.b 0,[.e s,.a .i64 g,.a .i64 0,.a .i64 (g+1)],dO)))
 | _,_=>none
def aol:cx:=iz jE 0 (d9 15 [0,1,4,5] akD)
def am5:dP:=λ
 | [.e s,.a .i64 g]=>some (aH [ab 0 g,ab g 99] (.a0 (.a .i64 (bI (eW s g.toNat)))))
 | _=>none
def Zt:dP:=λ
 | [.g [.b ng,.b lg,.e s,.a .i64 e,.a .i64 g,.e mo,.e da,.a .u8 a,.a .u8 b,.a .u8 c]]=>some (.a0 (.a .i64 (aR mo)))
 | _=>none
def YA:dP:=λ
 | [.g [.b ng,.b lg,.e s,.a .i64 e,.a .i64 g,.e mo,.e da,.a .u8 a,.a .u8 b,.a .u8 c]]=>some (.a0 (.a .i64 (dq mo da)))
 | _=>none
def amo:dP:=λ
 | [.g [.a .u8 a,.a .u8 b,.a .u8 c],.a .i64 n]=>some (.a0 (.a .i64 (errMk a b c n)))
 | _=>none
def T6:aQ:=aK T5 181 am5
def T7:aQ:=aK (aK (aK T6 66 Zt) 68 YA) 182 amo
theorem Xx:∀a:Nat,a<10->List.drop a (List.take (a+1) [ν 48,ν 49,ν 50,ν 51,ν 52,ν 53,ν 54,ν 55,ν 56,ν 57])=[ν (48+a)]:=ζ
theorem Xj:∀a:Nat,a<10->(ν (48+a)).toNat=48+a:=ζ
theorem X8(n:Int):gG Q (pT T3 jE 125 [.a .i64 n]) (bE 1770077020)=((λ(A B:Int)(H:List UInt8)=>(λ(I:Bool)(C E:Int)(N O:Nat)=>(λ(F G:Nat)=>(λ(P T:List UInt8)=>I/\I/\af .i64 C/\ab 0 C/\π F 10/\ab 0 A/\π N F/\af .i64 E/\ab 0 E/\π G 10/\ab 0 B/\π O G/\π (HAdd.hAdd P.length T.length) 1000000/\Q (.e (P++T))) (List.drop N (List.take F H)) (List.drop O (List.take G H))) C.toNat E.toNat) (af .i64 A) (ο A 1) (ο B 1) A.toNat B.toNat) (Int.tdiv n 10) (Int.tmod n 10) [ν 48,ν 49,ν 50,ν 51,ν 52,ν 53,ν 54,ν 55,ν 56,ν 57]):=κ
theorem aoK(s:List UInt8)(i g:Int)(J:Nat->Value){Q:VQ->Prop}:gG Q (rT T5 jE [] 181 0 15 [0,1,4,5] [.e s,.a .i64 g,.a .i64 0,.a .i64 i] J dO) (bE 112142204)=((λ(A B E G:AV)(C:Bool)(F:Int)=>(ab i g->ab 0 i/\ab i 99/\(C->Q (.c,[A,B,.a .i64 1,E],⟨0,[],[]⟩))/\(C=false->af .i64 F/\Q (.a,[A,B,G,.a .i64 F],⟨0,[],[]⟩)))/\(ab i g=false->Q (.b 0,[A,B,G,E],⟨0,[],[]⟩))) (.e s) (.a .i64 g) (.a .i64 i) (.a .i64 0) (aa (cond (agr s i) 1 0) 1) (ο i 1)):=κ
def Oa(ng lg:Bool)(s:List UInt8)(e g:Int)(mo da:List UInt8)(a b c:Int):gG Q (pT T6 jE 66 [PH ng lg s e g mo da a b c]) (bE 10014005140051400514005140051400514005140051400514005140051400514005140051400514005140051400514005140051405)=((λ(A B C E F G H I N O:UInt8)=>(λ(P T U V W Y Z u0 u1 u2 u3 u4 u5 u6 u7 u8 u9 ua ub uc ud:Bool)=>(P->Q (.a .i64 21))/\(P=false->(T->Q (.a .i64 22))/\(T=false->(U->Q (.a .i64 23))/\(U=false->(V->Q (.a .i64 24))/\(V=false->(W->Q (.a .i64 25))/\(W=false->(Y->Q (.a .i64 26))/\(Y=false->(Z->Q (.a .i64 27))/\(Z=false->(u0->Q (.a .i64 28))/\(u0=false->(u1->Q (.a .i64 29))/\(u1=false->(u2->Q (.a .i64 30))/\(u2=false->(u3->Q (.a .i64 31))/\(u3=false->(u4->Q (.a .i64 32))/\(u4=false->(u5->Q (.a .i64 33))/\(u5=false->(u6->Q (.a .i64 34))/\(u6=false->(u7->Q (.a .i64 35))/\(u7=false->(u8->Q (.a .i64 36))/\(u8=false->(u9->Q (.a .i64 37))/\(u9=false->(ua->Q (.a .i64 38))/\(ua=false->(ub->Q (.a .i64 39))/\(ub=false->(uc->Q (.a .i64 40))/\(uc=false->(ud->Q (.a .i64 41))/\(ud=false->Q (.a .i64 0))))))))))))))))))))))) (ae mo [B,E]) (ae mo [B,B]) (ae mo [B,A]) (ae mo [B,C]) (ae mo [B,F]) (ae mo [B,G]) (ae mo [B,H]) (ae mo [B,I]) (ae mo [B,N]) (ae mo [A,O]) (ae mo [A,E]) (ae mo [A,B]) (ae mo [A,A]) (ae mo [A,C]) (ae mo [A,F]) (ae mo [A,G]) (ae mo [A,H]) (ae mo [A,I]) (ae mo [A,N]) (ae mo [C,O]) (ae mo [C,E])) (ν 51) (ν 50) (ν 52) (ν 49) (ν 53) (ν 54) (ν 55) (ν 56) (ν 57) (ν 48)):=ε
theorem Oc(ng lg:Bool)(s:List UInt8)(e g:Int)(mo da:List UInt8)(a b c:Int):gG Q (pT T6 jE 68 [PH ng lg s e g mo da a b c]) (bE 1104011040040)=((λ(A B:Bool)(C:Prop)=>(λ(E:Prop)=>(B->(A->Q (.a .i64 3))/\(E->C))/\(B=false->(A->C)/\(E->Q (.a .i64 1)))) (A=false)) (not (ae da [])) (not (ae mo [])) (Q (.a .i64 2))):=κ
theorem aqw(a b c n:Int):gG Q (pT T6 jE 182 [.g [.a .u8 a,.a .u8 b,.a .u8 c],.a .i64 n]) (bE 1023102358102358102358100033281001437020024740053328102358100143702002274051437020024740053323874514324)=((λ(B E U V W Y u0 u2 u3:Bool)(G H u1 u4:Prop)=>(λ(A C F Z:Bool)(I N u5 u6:Prop)=>(λ(O P T u7 u9:Prop)=>(λ(ua:Prop)=>(Z->Z/\U=false/\(u0->u1)/\(u0=false->(F->F/\F/\F/\G/\G/\G/\G/\F/\G/\V=false/\(C->C/\C/\C/\(E->E/\E/\E/\C/\E/\u5/\(u2->H)/\(u2=false->(A->A/\A/\A/\B/\u7)/\ua))/\(I->I/\I/\I/\C/\I/\u5/\(A->A/\A/\A/\(B->u7)/\(N->N/\N/\N/\A/\N/\u6/\u4))/\ua))/\(P->P/\P/\P/\P/\W/\H))/\(T->T/\T/\T/\T/\V/\H)))/\(u9->u9/\U/\u1)) (O->O/\O/\O/\O/\Y/\H)) (A=false) (C=false) (F=false) (B/\B/\B/\A/\B/\u6/\(u3->H)/\(u3=false->u4)) (Z=false)) (not Y) (not W) (not V) (not U) (E=false) (B=false) (W=false) (Y=false)) (ab n 2) (ab n 1) (not (ab 1 n)) (not (ab a 3)) (not (ab b 3)) (not (ab c 3)) (not (ab n 3)) (not (ab b 0)) (not (ab c 0)) (ab n 0=false) (Q (.a .i64 9)) (Q (.a .i64 4)) (Q (.a .i64 0))):=κ
theorem No:aY tab 125=some (dH 125,aL 125):=κ
theorem ais:aY tab 181=some (dH 181,aL 181):=κ
theorem Sz:aY tab 66=some (dH 66,aL 66):=κ
theorem RL:aY tab 68=some (dH 68,aL 68):=κ
theorem aiU:aY tab 182=some (dH 182,aL 182):=κ
theorem ahA:(bz (aL 181)).map (·.1)=[0]:=κ
theorem ML:ak Tryz.prog cfg T4:=by
 refine au MB λargs t v he hv=>?_;unfold QP at he;split at he
 . rename_i n;cases he;obtain⟨⟨h1,h2,-⟩,hv⟩:=aF hv;rw[aq]at h1 h2;cases hv;refine kA MB (L:=jE) No θ ai (cg ((X8 n).mpr ?_)) κ;dsimp only;rw[Int.tdiv_eq_ediv_of_nonneg h1,ξ h1];obtain⟨k,rfl⟩:∃k:Nat,n=k:=⟨n.toNat,by omega⟩;have e1:((k:Int)/10)=((k/10:Nat):Int):=δ
   have e2:((k:Int)%10)=((k%10:Nat):Int):=δ
   have e3:ο ((k/10:Nat):Int) 1=((k/10+1:Nat):Int):=κ
   have e4:ο ((k%10:Nat):Int) 1=((k%10+1:Nat):Int):=κ
   rw[e1,e2,e3,e4];simp only[Int.toNat_natCast,Xx _ (by omega:k/10<10),Xx _ (by omega:k%10<10)];simp only[az,reduceCtorEq];grind [pZ]
 grind
theorem ad7{i:Nat}{d:Int}:agB s i d=true↔(s.getD i 0).toNat=88\/((s.getD i 0).toNat:Int)=48+d:=by
 grind [agB]
theorem Xs:ak Tryz.prog cfg T5:=by
 refine au ML λargs t v he hv=>?_;unfold amN at he;split at he
 . rename_i s n;cases he;obtain⟨⟨h1,h2,-⟩,hv⟩:=aF hv;rw[aq]at h1 h2;cases hv;refine jD ML ai (bE 1000633058100203811403020070240020007381033058107381142322007024702423220070247024220) (R:=λQ=>(λ(T:Nat)(U V:Prop)(N:UInt8)=>(λ(C O:Bool)(Y Z:Int)=>(λ(E P W u0:Bool)(F:Prop)=>(λ(A G:Bool)(H u1 u2:Prop)=>(λ(B I:Prop)=>ab 0 n/\ab n 99/\(C->C/\aS 0 T/\C/\C/\(G->G/\aS 0 T/\G/\G/\G/\C/\W=false/\C/\(E->E/\O/\E/\E/\(A->A/\O/\A/\A/\A/\E/\u1/\E/\u2)/\(B->B/\B/\B/\B/\E/\P/\E/\U))/\(H->H/\H/\H/\H/\H/\V))/\(I->I/\I/\I/\I/\C/\W/\C/\O/\(A->A/\O/\A/\A/\A/\u1/\u2)/\(B->B/\B/\B/\B/\P/\U)))/\(F->F/\F/\F/\F/\F/\V)) (A=false) (G=false)) (not P) (not W) (E=false) (P=false) ((u0->U)/\(u0=false->V))) (aa Y (ς (σ (List.getD (pZ n) 0 N)))) (aa Z 88) (aa Y 88) (aa Z (ς (σ (List.getD (pZ n) 1 N)))) (C=false)) (aa (ς T) 2) (aS 1 T) (ς (σ (List.getD s 0 N))) (ς (σ (List.getD s 1 N)))) s.length (Q (.a .i64 1)) (Q (.a .i64 0)) (ν 0)) (λ_=>by rfl) λQ' hQ=>?_;try dsimp only
   have t0:((pZ n).getD 0 0).toNat=48+(n/10).toNat:=Xj _ (by omega);have t1:((pZ n).getD 1 0).toNat=48+(n%10).toNat:=Xj _ (by omega);have tl:(pZ n).length=2:=rfl;simp only[az,reduceCtorEq];have yes:agr s n->Q' (.a .i64 1):=λh=>hQ _ (by rw[XD h]);have no:agr s n=false->Q' (.a .i64 0):=λh=>hQ _ (by rw[VR h]);have iff:agr s n=true↔s.length=2/\((s.getD 0 0).toNat=88\/((s.getD 0 0).toNat:Int)=48+n/10)/\((s.getD 1 0).toNat=88\/((s.getD 1 0).toNat:Int)=48+n%10):=by
    grind [agr,ad7]
   have iff':agr s n=false↔¬(s.length=2/\((s.getD 0 0).toNat=88\/((s.getD 0 0).toNat:Int)=48+n/10)/\((s.getD 1 0).toNat=88\/((s.getD 1 0).toNat:Int)=48+n%10)):=by
    grind
   (repeat' first|exact trivial|refine⟨?_,?_⟩|intro)<;>first|omega|(grind)|grind
 grind
theorem GB{g:Nat}:eW s g=false↔∀k,k<g->agr s ((k:Int)+1)=false:=by
 grind [eW]
theorem Ob{g k:Nat}(hk:k<g)(h:agr s ((k:Int)+1)):eW s g=true:=by
 grind [eW]
theorem anD:cu Tryz.prog (cH cfg T5) (Cw cfg []) (lb 181 0) 15 [0,1,4,5] akD:=by
 intro vs o t Q hv hq J;unfold akD at hv;split at hv
 . rename_i s g r i;cases hv;replace hq:=cO hq;obtain⟨⟨h1,h2,h3,h4,-⟩,hq⟩:=hq;rw[aq]at h1 h2;rw[ao]at h3 h4;subst h3 h4;have hq:Tr.wp Q (bif eW s g.toNat then .e0 λJ=>.a0 (.c,[.e s,.a .i64 g,.a .i64 1,.j (J 0)],dO)else .a0 (.b 0,[.e s,.a .i64 g,.a .i64 0,.a .i64 (g+1)],dO)):=hq;refine ia Xs rfl rfl ai (ι:={i:Nat // i<=g.toNat/\∀k,k<i->agr s ((k:Int)+1)=false}) (λx=>[.e s,.a .i64 g,.a .i64 0,.a .i64 ((x.1:Int)+1)]) (λ_=>dO) (λx=>g.toNat-x.1) 0 (λ_=>Nat.le_refl _) (λx J=>?_) (Nat.le_refl _) (λJ=>Wk.a0 ⟨⟨0,Nat.zero_le _,λk hk=>absurd hk (Nat.not_lt_zero k)⟩,J,rfl⟩) J;obtain⟨i,hi,hp⟩:=x;dsimp only;refine bb λQ' hQ=>cg ((aoK s _ g J).mpr ?_);simp only[az,reduceCtorEq];have ct:∀b:Bool,((bif b then(1:Int)else 0)=1)=(b=true):=λb=>by grind
   rw[ct]
   (repeat' first|exact trivial|refine⟨?_,?_⟩|intro)<;>first|omega|refine hQ _ ?_
   . rename_i h5 h6;rw[Ob (by omega:i<g.toNat) h6,cond_true]at hq;exact⟨_,_,VW.c0 (.a0 (.a0 (.a0 (.b0 .c0)))) rfl,hq (jv [_])⟩
   . rename_i h5 h6;refine⟨⟨i+1,by omega,λk hk=>?_⟩,by dsimp only;omega,VW.b0 κ rfl⟩;grind
   . obtain rfl:i=g.toNat:=δ
     rw[GB.2 hp,cond_false]at hq;exact⟨_,_,VW.b0 η rfl,hq⟩
 grind
theorem Kn:ak Tryz.prog cfg T6:=by
 refine au Xs λargs t v he hv=>?_;unfold am5 at he;split at he
 . rename_i s g;cases he;obtain⟨⟨h1,h2,-⟩,hv⟩:=aF hv;rw[aq]at h1 h2;cases hv;refine kA Xs (L:=aol) ais θ (dv ahA λi hi e he st Q hw=>?_) (jJ (bE 1140022) (R:=λQ=>(λ(A:Bool)=>ab 0 g/\ab g 99/\(A->(∀J1 J2:Nat->Value,Q (.a .i64 1)))/\(A=false->(∀J1:Nat->Value,Q (.a .i64 0)))) (eW s g.toNat)) (λ_=>by rfl) λQ' hQ=>?_) κ
   . have hi:i=0:=η
     subst hi;cases he;exact bR (cC.a0 Xs) ζ rfl anD hw
   . simp only[az,reduceCtorEq];grind [XD,VR]
 grind
theorem MW:ak Tryz.prog cfg T7:=by
 refine au (au (au Kn λargs t v he hv=>?_) λargs t v he hv=>?_) λargs t v he hv=>?_
 . unfold Zt at he;split at he
   . cases he;cases hv;refine kA Kn (L:=jE) Sz θ ai (bb λQ' hQ=>cg ((Oa _ _ _ _ _ _ _ _ _ _).mpr ?_)) κ;dsimp only
     (repeat' first|exact trivial|refine⟨?_,?_⟩|intro)<;>(refine hQ _ ?_;rw[AV.a.injEq];refine⟨rfl,?_⟩;unfold aR;simp only[*,zAj])
   grind
 . unfold YA at he;split at he
   . cases he;cases hv;refine kA Kn (L:=jE) RL θ ai (bb λQ' hQ=>cg ((Oc _ _ _ _ _ _ _ _ _ _).mpr ?_)) κ;grind [dq]
   grind
 . unfold amo at he;split at he
   . cases he;cases hv;refine kA Kn (L:=jE) aiU θ ai (bb λQ' hQ=>cg ((aqw _ _ _ _).mpr ?_)) κ;simp only[az,reduceCtorEq]
     (repeat' first|exact trivial|refine⟨?_,?_⟩|intro)<;>first|omega|grind [errMk]
   grind
theorem LT{n:Int}:(af .i64 n=true)=(-9223372036854775808<=n/\n<=9223372036854775807):=aE
theorem EB(a b:Int):gY a b=min a b:=by
 grind [gY,bF]
theorem anq{b:Bool}:((bif b then(1:Int)else 0)=0)=(b=false):=η
theorem am2{b:Bool}:((bif b then(1:Int)else 0)=1)=(b=true):=η
theorem IN{ng lg:Bool}{s:List UInt8}{e g:Int}(h:aV ng lg s e g)(h0:dT s 88 88=0):dV s/\0<=e/\e<=16/\s.length<=17:=by
 grind [aV,oV]
def oc(ng lg:Bool)(s:List UInt8)(e g:Int)(mo:List UInt8):Bool:=decide (aV ng lg s e g/\¬(0<g/\ae mo []=false)/\((aR mo≠24/\aR mo≠28/\aR mo≠30)\/1<=dT s 88 88\/¬(magOk s e.toNat/\fa s e.toNat=10000000000000000/\ng=false)))
def aml:dP:=λ
 | [.g [.b ng,.b lg,.e s,.a .i64 e,.a .i64 g,.e mo,.e da,.a .u8 a,.a .u8 b,.a .u8 c]]=>some (aH [π s.length 140737488351232,af .i64 e] (.a0 (.a .i64 (bI (oc ng lg s e g mo)))))
 | _=>none
def T8:aQ:=aK T7 180 aml
def nH(ng lg:Bool)(s:List UInt8)(e g:Int)(mo da:List UInt8)(a b c:Int):Int:=
 if oc ng lg s e g mo=false then 6 else if ae mo []=false/\aR mo=0/\eW mo 12=false then 7 else if ae da []=false/\(ae mo []\/0<aR mo\/eW da 31=false)then 8 else errMk a b c (dq mo da)
def K8:dP:=λ
 | [.g [.b ng,.b lg,.e s,.a .i64 e,.a .i64 g,.e mo,.e da,.a .u8 a,.a .u8 b,.a .u8 c]]=>some (aH [π s.length 140737488351232,af .i64 e] (.a0 (.a .i64 (nH ng lg s e g mo da a b c))))
 | _=>none
def T9:aQ:=aK T8 100 K8
theorem CF(mo:List UInt8):0<=aR mo:=by
 unfold aR
 repeat' (first|omega|(cases ae mo _<;>simp only[zAj]))
theorem Wi{ng lg:Bool}{e g:Int}(h:aV ng lg s e g):s.length<=17:=by
 unfold aV at h;rw[zAc]at h;omega
theorem WW:ak Tryz.prog cfg T8:=by
 refine au MW λargs t v he hv=>?_;unfold aml at he;split at he
 . rename_i ng lg s e g mo da a b c;cases he;obtain⟨⟨h1,h2,-⟩,hv⟩:=aF hv;rw[al]at h1;rw[LT]at h2;cases hv;refine jD MW ai (bE 10230003811110051038114220224444420001400200063311110051038114220224444420001400263310281111005103811422022444442000143220205242242240006332331111005103811422022444442000140020006331111005103811422022444442000140026331028111100510381142202244444200014322020524224224006143702422022422005) (R:=λQ=>(λ(E I U u1 u2 u3 u5:Bool)(W:Int)(u4:Nat)(F V:Prop)=>(λ(A B N O Y:Bool)(P u6:Prop)=>(λ(G:Bool)(C H Z u0:Prop)=>(λ(T u7:Prop)=>(λ(u8:Prop)=>I/\af .i64 e/\(A->A/\A/\A/\A/\(E->E/\E/\A/\E/\u6/\(u1->V)/\(u1=false->u8))/\(P->P/\P/\A/\P/\u6/\u8))/\(C->C/\C/\C/\C/\C/\U/\V)) ((N->N/\N/\(O->O/\O/\(G->G/\G/\I/\G/\Y=false/\u7)/\(T->T/\T/\T/\Y/\F))/\(Z->Z/\Z/\I/\u7))/\(u0->u0/\u0/\I/\u7))) (G=false) ((u2->F)/\(u2=false->π s.length 1000/\(ab 0 e->(u3->(dV s->(magOk s u4->(B->B/\B/\B/\B/\(u5->V)/\(u5=false->F))/\(H->H/\H/\H/\H/\F))/\(magOk s u4=false->F))/\(dV s=false->False))/\(u3=false->False))/\(ab 0 e=false->False)))) (not Y) (A=false) (B=false) (O=false) (N=false)) (not U) (aa (ς (fa s u4)) 10000000000000000) (not (aa W 24)) (not (aa W 28)) (not (aa W 30)) (E=false) (U=false)) (not (ab g 0)) (π s.length 140737488351232) (aa (cond (aV ng lg s e g) 1 0) 0) (not (ae mo [])) (aa (gY 1 (ς (dT s 88 88))) 1) (ab e 1000) (not ng) (aR mo) e.toNat (Q (.a .i64 1)) (Q (.a .i64 0))) (λ_=>by kernel_rfl) λQ' hQ=>?_;simp only[az,reduceCtorEq];simp only[EB,anq,am2,Bool.not_eq_false,Bool.not_eq_true,Classical.not_not];have yes:oc ng lg s e g mo->Q' (.a .i64 1):=λh=>hQ _ (by rw[XD h]);have no:oc ng lg s e g mo=false->Q' (.a .i64 0):=λh=>hQ _ (by rw[VR h]);have dg:=@IN ng lg s e g;have ln:aV ng lg s e g->s.length<=1000:=λh=>by have:=Wi h;omega
   (repeat' first|exact trivial|refine⟨?_,?_⟩|intro)<;>first|assumption|omega|(exact ln (by assumption))|(refine no ?_;grind [oc])|(refine yes ?_;unfold oc;rw[zAc];simp_all;try omega)|(exfalso;have:=dg (by assumption) δ;simp_all;try omega)
 grind
theorem tV:ak Tryz.prog cfg T9:=by
 refine au WW λargs t v he hv=>?_;unfold K8 at he;split at he
 . rename_i ng lg s e g mo da a b c;cases he;obtain⟨⟨h1,h2,-⟩,hv⟩:=aF hv;rw[al]at h1;rw[LT]at h2;cases hv;refine jD WW ai (bE 100056335330008102025782202400058100056335330008107810056142322000202423220206702400381000563353300081005614232200020732202067024014220002024220206401422006) (R:=λQ=>(λ(A F N O T U V:Bool)(W Y:Prop)=>(λ(B G:Bool)(C H Z:Prop)=>(λ(E I P u0:Prop)=>(λ(u1:Prop->Prop)=>π s.length 140737488351232/\af .i64 e/\(T->Q (.a .i64 6))/\(T=false->(B->B/\B/\B/\(F->F/\F/\F/\F/\(U->Q (.a .i64 7))/\(U=false->(A->u1 (G/\u0))/\P))/\(H->H/\H/\H/\H/\(A->u1 ((G->u0)/\(I->I/\I/\I/\A/\O/\A/\W)))/\P))/\(E->E/\E/\E/\(A->A/\A/\A/\E/\E/\E/\A/\N/\A/\A/\A/\W)/\P))) (λu2=>A/\A/\A/\B/\B/\B/\A/\Z/\A/\u2)) (B=false) (G=false) (C->C/\C/\C/\C/\C/\C/\C/\Y) (G/\G/\G/\A/\O=false/\A/\(V->W)/\(V=false->Y))) (not N) (not O) (A=false) (F=false) (N=false)) (not (ae da [])) (aa (aR mo) 0) (ae mo []) (not (ab (aR mo) 0)) (aa (cond (oc ng lg s e g mo) 1 0) 0) (aa (cond (eW mo 12) 1 0) 0) (aa (cond (eW da 31) 1 0) 0) (Q (.a .i64 8)) (Q (.a .i64 (errMk a b c (dq mo da))))) (λ_=>by rfl) λQ' hQ=>?_;simp only[az,reduceCtorEq];simp only[EB,anq,am2,Bool.not_eq_false,Bool.not_eq_true,Classical.not_not];have nn:=CF mo
   (repeat' first|exact trivial|refine⟨?_,?_⟩|intro)<;>first|assumption|omega|grind [nH]|(refine hQ _ ?_;unfold nH;simp_all;omega)
 grind
end Go.Ev
end
section
namespace Go.Ev
open Go Go.Proofs Go.RowKit
variable{id:Nat}{v:AV}
section
variable{C:bg}{o:aB}{D:Nat->Prop}{m:Nat->bv}{w:World}(hi:dX cfg D m C o w)
include hi
theorem zj{cs:List AV}{rw:Bool}{g:Option Nat}(hid:id<14)(hx:g0.at id=.a cs rw g):∃c e fz,w.heap[(m id).a0]? = some (.cells c e fz)/\(∀i v,cs[i]? = some v->c[(m id).b0+i]? = some (aj m v))/\∀s,g=some s->(m id).b0=0/\c.size=(m id).c0*s:=by
 obtain⟨h1,h2⟩:=hi.b0 id hid;have:=hi.a0 id h1;rw[h2,show cfg.a0.at id=g0.at id from rfl,hx]at this;obtain⟨c,e,fz,hb,hc⟩:=this;exact⟨c,e,fz,hb,hc.d0,λs hs=>(hc.c0 s hs).2⟩
theorem Am{cs:List AV}{rw:Bool}{g:Option Nat}(hid:id<14)(hx:g0.at id=.a cs rw g){i:Nat}(hv:cs[i]? = some v):w.cell? ⟨(m id).a0,(m id).b0+i,none⟩=some (aj m v):=by
 grind [zj,World.cell?]
theorem Nq:Go.Proofs.YtcffhjfdlflbgaaGreatDoor.Glob w:=by
 have gl:∀g,g<11->(m g).a0=g/\(m g).b0=0/\(m g).c0=1:=λg hg=>(hi.c0 g hg).2;have cell:∀{g:Nat} {cs:List AV} {rw:Bool} {gr:Option Nat} (_:g<11) (_:g0.at g=.a cs rw gr) {i:Nat} {v:AV} (_:cs[i]? = some v),w.cell? ⟨g,i,none⟩=some (aj m v):=λ{g cs rw gr} hg hx {i v} hv=>by
  have:=Am hi (Nat.lt_of_lt_of_le hg ζ) hx hv;grind
 have err:∀(g id:Nat) (n:String) (hg:g<11) (hx:g0.at g=.a [.m 376 (.h id 0)] false (some 1)) (hn:Tryz.prog.globalNamed n=some g),∃tp p,World.var? Tryz.prog w n=some #[.iface tp p]:=λg id n hg hx hn=>by
  obtain⟨c,e,fz,hb,hc,hs⟩:=zj hi (Nat.lt_of_lt_of_le hg ζ) hx;obtain⟨a,b,d⟩:=gl g hg;have h0:=hc 0 _ rfl;rw[b]at h0;have hsz:=(hs 1 rfl).2;rw[d]at hsz;refine⟨376,aj m (.h id 0),?_⟩;rw[a]at hb;have e:c=#[.iface 376 (aj m (.h id 0))]:=by
   grind [aj]
  grind [World.var?]
 refine⟨?_,λi hi'=>?_,err 3 12 _ ζ rfl κ,err 4 13 _ ζ rfl κ,λi hi'=>?_⟩
 . have h11:∀(i:Nat) (n:Int),[i64 4,i64 1,i64 100,i64 (-1),i64 400,i64 1][i]? = some (i64 n)->w.cell? ⟨(m 11).a0,(m 11).b0+i,none⟩=some (.int .i64 n):=λi n hv=>by
    have:=Am hi (id:=11) ζ rfl hv;grind [i64,aj]
   refine⟨(m 11).a0,(m 11).b0,3,?_,?_,?_,?_,?_,?_,?_⟩
   . have:=cell (g:=5) ζ rfl (i:=0) rfl;grind [aj,TI]
   . exact h11 0 4 rfl
   . exact h11 1 1 rfl
   . exact h11 2 100 rfl
   . exact h11 3 (-1) rfl
   . exact h11 4 400 rfl
   . exact h11 5 1 rfl
 . have:(List.map i64 [31,28,31,30,31,30,31,31,30,31,30,31])[i]? = some (i64 (Go.Proofs.YtcffhjfdlflbgaaGreatDoor.len0.getD i 0)):=by
    have:i=0\/i=1\/i=2\/i=3\/i=4\/i=5\/i=6\/i=7\/i=8\/i=9\/i=10\/i=11:=δ
    rcases this with rfl|rfl|rfl|rfl|rfl|rfl|rfl|rfl|rfl|rfl|rfl|rfl<;>rfl
   have:=cell (g:=1) ζ rfl this;simpa [i64,aj]using this
 . have:(List.map i64 [3,3,6,3,9,3,12,3,3,3,6,3,9,3,12,3,9,3,12,3,3,3,6,3,1,3,4,3,7,3,10,3,1,4,5,4,9,4,1,6,7,6])[i]? = some (i64 (Go.Proofs.YtcffhjfdlflbgaaGreatDoor.spans0.getD i 0)):=by
    have:∀i,i<42->(List.map i64 [3,3,6,3,9,3,12,3,3,3,6,3,9,3,12,3,9,3,12,3,3,3,6,3,1,3,4,3,7,3,10,3,1,4,5,4,9,4,1,6,7,6])[i]? = some (i64 (Go.Proofs.YtcffhjfdlflbgaaGreatDoor.spans0.getD i 0)):=by
     intro i h;rw[List.getElem?_map];have hl:∀i,i<42->[3,3,6,3,9,3,12,3,3,3,6,3,9,3,12,3,9,3,12,3,3,3,6,3,1,3,4,3,7,3,10,3,1,4,5,4,9,4,1,6,7,6][i]? = some (Go.Proofs.YtcffhjfdlflbgaaGreatDoor.spans0.getD i 0):=ζ
     rw[hl i h];rfl
    exact this i hi'
   have:=cell (g:=2) ζ rfl this;simpa [i64,aj]using this
end
theorem LZ{f:Nat}(hb:aY tab f=some (dH f,aL f))(args:Array Value)(w:World):(callFunc f args).run Tryz.prog w=.ok (.enter f args) w:=by
 simp only[aY,ag,zAb,Prod.mk.injEq]at hb;obtain⟨fn',hfn,c',hbody,e1,e2⟩:=hb;obtain⟨hf,hname⟩:=gR.d0.fn f fn' hfn;simp_all [callFunc]
theorem dy{f:Nat}{args:List AV}(hb:aY tab f=some (dH f,aL f))(hv:aC v=[])(h:∀(m:Nat->bv) (w:World),Go.Proofs.YtcffhjfdlflbgaaGreatDoor.Glob w->Calls Tryz.prog f (aD m args).toArray w λe w'=>e=.returned (aj m v)/\Below w.heap.size w w'):bu Tryz.prog cfg f args [] v []:=λD m w hi hok=>
 .inl ⟨LZ hb _ w,(h m w (Nq hi)).mono λe w' ⟨he,hbl⟩=>⟨_,he,D,m,rfl,ek hv,(aaN hi hbl).1⟩⟩
end Go.Ev
end
section
namespace Go.Ev
open Go Go.Proofs Go.Proofs.YtcffhjfdlflbgaaGreatDoor
abbrev dt(ng lg:Bool)(s:List UInt8)(e g:Int)(mo da:List UInt8)(a b c:Int):Dt:=⟨ng,lg,⟨⟨s⟩⟩,e,g,⟨⟨mo⟩⟩,⟨⟨da⟩⟩,a,b,c⟩
theorem eU(c:UInt8)(s:List UInt8)(a b:Int):dT (c::s) a b=dT s a b+if a<=(c.toNat:Int)/\(c.toNat:Int)<=b then 1 else 0:=by
 grind [dT]
theorem Ed(s:List UInt8):(hasX s=true↔dT s 88 88≠0):=by
 unfold hasX;induction s with
 | nil=>simp[dT]
 | cons c s ih=>
   rw[eU,List.contains_cons,Bool.or_eq_true];constructor
   . rintro(h|h)
     . rw[beq_iff_eq]at h;subst h;simp
     grind
   . intro h;by_cases hc:(88:Int)<=(c.toNat:Int)/\(c.toNat:Int)<=88
     . left
       rw[beq_iff_eq];apply UInt8.toNat_inj.1;grind
     grind
theorem wK(s:List UInt8):digB s=dV s:=by
 grind [digB,dV,dB]
theorem Zj(s:List UInt8):dV s=true↔dT s 48 57=s.length:=by
 refine⟨λh=>?_,oV⟩;unfold dT;rw[List.length_filter_eq_length_iff];intro c hc;have:=List.all_eq_true.1 h c hc;grind [dB]
theorem XB(s:List UInt8):mskB s=true↔dT s 48 57+dT s 88 88=s.length:=by
 unfold mskB;induction s with
 | nil=>simp[dT]
 | cons c s ih=>
   have h1:=ab6 s 48 57;have h2:dT s 48 57+dT s 88 88<=s.length:=by
    clear ih h1;induction s<;>grind [dT]
   grind [eU,mb]
theorem ZF(s:List UInt8):zerB s=true↔dT s 48 48=s.length:=by
 unfold zerB;induction s with
 | nil=>simp[dT]
 | cons c s ih=>
   have h1:=ab6 s 48 48;rw[eU,List.all_cons,zAa,ih,beq_iff_eq,zAd];constructor
   . simp_all
   . intro h;by_cases hc:(48:Int)<=(c.toNat:Int)/\(c.toNat:Int)<=48
     . rw[if_pos hc]at h;exact⟨UInt8.toNat_inj.1 (show c.toNat=48 by omega),by omega⟩
     grind
theorem BX(s:List UInt8):Go.Proofs.YtcffhjfdlflbgaaGreatDoor.numL s=Go.Ev.numL s:=rfl
theorem e_(a b:UInt8)(x y:Nat)(hx:x<256)(hy:y<256):ae [a,b] [ν x,ν y]=decide (a.toNat=x/\b.toNat=y):=by
 rw[bV,Bool.eq_iff_iff,beq_iff_eq,zAc];have e1:(ν x).toNat=x:=by simp_all
 have e2:(ν y).toNat=y:=by simp_all
 grind [UInt8.toNat_inj]
theorem Nr(mo:List UInt8):seasL mo=aR mo:=by
 match mo with
 | []=>rfl
 | [a]=>simp[seasL,aR,ae]
 | a::b::c::r=>simp[seasL,aR,ae]
 | [a,b]=>
   unfold aR;simp only[e_ a b _ _ (by decide:(50:Nat)<256) (by decide:(49:Nat)<256),e_ a b 50 50 ζ ζ,e_ a b 50 51 ζ ζ,e_ a b 50 52 ζ ζ,e_ a b 50 53 ζ ζ,e_ a b 50 54 ζ ζ,e_ a b 50 55 ζ ζ,e_ a b 50 56 ζ ζ,e_ a b 50 57 ζ ζ,
    e_ a b 51 48 ζ ζ,e_ a b 51 49 ζ ζ,e_ a b 51 50 ζ ζ,e_ a b 51 51 ζ ζ,e_ a b 51 52 ζ ζ,e_ a b 51 53 ζ ζ,e_ a b 51 54 ζ ζ,e_ a b 51 55 ζ ζ,e_ a b 51 56 ζ ζ,e_ a b 51 57 ζ ζ,e_ a b 52 48 ζ ζ,e_ a b 52 49 ζ ζ]
   unfold seasL;by_cases h:(48<=a.toNat/\a.toNat<=57)/\(48<=b.toNat/\b.toNat<=57)/\21<=10*((a.toNat:Int)-48)+((b.toNat:Int)-48)/\10*((a.toNat:Int)-48)+((b.toNat:Int)-48)<=41
   . simp only[if_pos h];obtain⟨n,hn⟩:∃n:Nat,n=a.toNat:=⟨_,rfl⟩;obtain⟨k,hk⟩:∃k:Nat,k=b.toNat:=⟨_,rfl⟩;rw[<-hn,<-hk]at h ⊢;clear hn hk;have hna:n=50\/n=51\/n=52:=δ
     have hkb:k=48\/k=49\/k=50\/k=51\/k=52\/k=53\/k=54\/k=55\/k=56\/k=57:=δ
     rcases hna with rfl|rfl|rfl<;>rcases hkb with rfl|rfl|rfl|rfl|rfl|rfl|rfl|rfl|rfl|rfl<;>first|(exfalso;omega)|rfl
   . simp only[if_neg h];have no:∀x y:Nat,(48<=x/\x<=57)/\(48<=y/\y<=57)/\21<=10*((x:Int)-48)+((y:Int)-48)/\10*((x:Int)-48)+((y:Int)-48)<=41->decide (a.toNat=x/\b.toNat=y)=false:=λx y hxy=>by
      grind
     simp only[no 50 49 δ,no 50 50 δ,no 50 51 δ,no 50 52 δ,no 50 53 δ,no 50 54 δ,no 50 55 δ,no 50 56 δ,no 50 57 δ,no 51 48 δ,no 51 49 δ,no 51 50 δ,no 51 51 δ,no 51 52 δ,no 51 53 δ,no 51 54 δ,no 51 55 δ,no 51 56 δ,no 51 57 δ,no 52 48 δ,no 52 49 δ,cond_false]
end Go.Ev
end
section
namespace Go.Proofs.YtcffhjfdlflbgaaGreatDoor
open Go.RowKit
theorem toList_ne(s:ByteArray)(h:0<s.size):s.toList.isEmpty=false:=by
 rw[ByteArray.toList_eq];have e:s.data.size=s.size:=rfl;cases hl:s.data.toList with
 | nil=>
   have h3:=congrArg List.length hl;simp at h3;have h2:s.size=0:=by rw[<-e,h3];rfl
   omega
 | cons a l=>rfl
set_option maxHeartbeats 1000000 in
theorem masks_Check(s:ByteArray)(w:World)(hs:1<=s.size)(hs2:s.size<=18)(hm:∀(i:Nat) (h:i<s.size),mb s[i]) :
 Calls Tryz.prog 216 #[.string s] w λe w'=>e=.returned (.int .i64 0)/\Below w.heap.size w w':=by
 have hne:=toList_ne s (by omega);have HM:=Lib.hid hm;clear hm;go_enter Tryz.func216,Tryz.ntmps216
 go_wp2;go_loopw [] (λwr=>∃pos,pos<=s.size/\wr=w.iter s pos) (λwr=>s.size-wr.iterPos w.heap.size)
 case atStart=>exact⟨0,by omega,rfl⟩
 case round=>
  obtain⟨pos,hp,rfl⟩:=hrel;by_cases hlt:pos<s.size
  . have hb:=HM.out pos hlt;unfold mb at hb;have nx:=λty=>run_next_ascii (P:=Tryz.prog) w s pos ty hlt (by omega);generalize hc:s[pos]=c at *;clear hc;rcases hb with hb|⟨hb1,hb2⟩
    . have t0:((c.toNat:Int) !=88)=false:=by simp[hb]
      go_wp2;exact⟨⟨pos+1,by omega,rfl⟩,by simp;omega⟩
    . have t0:((c.toNat:Int) !=88)=true:=by simp;omega
      have t1:decide ((c.toNat:Int)<48)=false:=by simp;omega
      have t2:decide (57<(c.toNat:Int))=false:=by simp;omega
      go_wp2;exact⟨⟨pos+1,by omega,rfl⟩,by simp;omega⟩
  . have nx:=λty=>run_next_end (P:=Tryz.prog) w s pos ty hlt;go_wp2;go_ret
    exact⟨by simp,biter _ _⟩
theorem masks_filled(s:ByteArray)(x:Int)(w:World)(hx:48<=x/\x<=57)(hs2:s.size<=18)(hm:∀(i:Nat) (h:i<s.size),mb s[i]) :
 Calls Tryz.prog 217 #[.string s,.int .u8 x] w λe w'=>e=.returned (.int .i64 (fillv x s.data.toList))/\Below w.heap.size w w':=by
 have HM:=Lib.hid hm;obtain⟨C,w2,hconv,hcell,hB2,hz2⟩:=conv_bytes w s;have HC:=Lib.hid hcell;have BD:=Lib.hid (fillv_bd18 hx s hs2 hm);have hx1:=hx.1;have hx2:=hx.2;clear hm hcell;go_enter Tryz.func217,Tryz.ntmps217
 go_wp2;go_loop [5,11] (λn i=>∃k:Nat,k<=s.size/\i=.int .i64 k/\n=.int .i64 (fillv x (s.data.toList.take k))) (λ_ i=>s.size-(intOf i).toNat)
 case atStart=>exact⟨0,by omega,rfl,rfl⟩
 case round=>
  obtain⟨k,hk,rfl,rfl⟩:=hrel;by_cases hlt:k<s.size
  . obtain⟨b1,b2⟩:=BD.out k hlt;have hc0:=HC.out k hlt;have hb0:=HM.out k hlt;have S:=Lib.hid (show fillv x (s.data.toList.take (k+1))=10*fillv x (s.data.toList.take k)+dig x s[k]by rw[take_snocB s k hlt,fillv_snoc]);unfold mb at hb0;generalize s[k]=c at *;rcases hb0 with hb0|⟨hb1,hb2⟩
    . have t0:((c.toNat:Int)==88)=true:=by simp[hb0]
      go_wp2;go_round
      case rel=>exact⟨k+1,by omega,by go_num,by rw[S.out,dig_X hb0]⟩
      case measure=>simp[intOf];omega
    . have t0:((c.toNat:Int)==88)=false:=by simp;omega
      go_wp2;go_round
      case rel=>exact⟨k+1,by omega,by go_num,by rw[S.out,dig_D (by omega)]⟩
      case measure=>simp[intOf];omega
  . go_wp2;go_ret
    exact⟨ret_int (by rw[List.take_of_length_le (by simp;have e:s.data.size=s.size:=rfl;omega)]),bC⟩
abbrev dArr(a b c d:Int):Array Value:=#[.int .u8 a,.int .u8 b,.int .u8 c,.int .u8 d,.int .u8 0,.int .u8 0,.int .u8 0,.int .u8 0,.int .u8 0,.int .u8 0,.int .u8 0,.int .u8 0,.int .u8 0,.int .u8 0,.int .u8 0,.int .u8 0,.int .u8 0,.int .u8 0]
theorem masks_filled_d(s:ByteArray)(w:World)(hs2:s.size<=18)(hm:∀(i:Nat) (h:i<s.size),48<=s[i].toNat/\s[i].toNat<=57) :
 Calls Tryz.prog 217 #[.string s,.int .u8 0] w λe w'=>e=.returned (.int .i64 (fillv 48 s.data.toList))/\Below w.heap.size w w':=by
 have HM:=Lib.hid hm;obtain⟨C,w2,hconv,hcell,hB2,hz2⟩:=conv_bytes w s;have HC:=Lib.hid hcell;have BD:=Lib.hid (fillv_bd18 (x:=48) (by omega) s hs2 (λi h=>.inr (hm i h)));clear hm hcell;go_enter Tryz.func217,Tryz.ntmps217
 go_wp2;go_loop [5,11] (λn i=>∃k:Nat,k<=s.size/\i=.int .i64 k/\n=.int .i64 (fillv 48 (s.data.toList.take k))) (λ_ i=>s.size-(intOf i).toNat)
 case atStart=>exact⟨0,by omega,rfl,rfl⟩
 case round=>
  obtain⟨k,hk,rfl,rfl⟩:=hrel;by_cases hlt:k<s.size
  . obtain⟨b1,b2⟩:=BD.out k hlt;have hc0:=HC.out k hlt;obtain⟨hb1,hb2⟩:=HM.out k hlt;have S:=Lib.hid (show fillv 48 (s.data.toList.take (k+1))=10*fillv 48 (s.data.toList.take k)+dig 48 s[k]by rw[take_snocB s k hlt,fillv_snoc]);generalize s[k]=c at *;have t0:((c.toNat:Int)==88)=false:=by simp;omega
    go_wp2;go_round
    case rel=>exact⟨k+1,by omega,by go_num,by rw[S.out,dig_D (by omega)]⟩
    case measure=>simp[intOf];omega
  . go_wp2;go_ret
    exact⟨ret_int (by rw[List.take_of_length_le (by simp;have e:s.data.size=s.size:=rfl;omega)]),bC⟩
theorem masks_value(s:ByteArray)(a b c d:Int)(w:World)(hs:s.size=4)(ha:48<=a/\a<=57)(hb:48<=b/\b<=57)(hc:48<=c/\c<=57)(hd:48<=d/\d<=57) :
 Calls Tryz.prog 277 #[.string s,.agg (dArr a b c d)] w λe w'=>e=.returned (.int .i64 (1000*(a-48)+100*(b-48)+10*(c-48)+(d-48)))/\Below w.heap.size w w':=by
 have hs2:(s.size:Int)=4:=by omega
 have byt:∀z:Int,48<=z/\z<=57->∃x:UInt8,(x.toNat:Int)=z/\48<=x.toNat/\x.toNat<=57:=by
  intro z hz;refine⟨ν z.toNat,?_⟩;have:(ν z.toNat).toNat=z.toNat:=by simp;omega
  rw[this];omega
 obtain⟨x0,rfl,p0⟩:=byt a ha;obtain⟨x1,rfl,p1⟩:=byt b hb;obtain⟨x2,rfl,p2⟩:=byt c hc;obtain⟨x3,rfl,p3⟩:=byt d hd;have hv:fillv 48 [x0,x1,x2,x3]=1000*((x0.toNat:Int)-48)+100*((x1.toNat:Int)-48)+10*((x2.toNat:Int)-48)+((x3.toNat:Int)-48):=by
  simp only[fillv,List.foldl_cons,List.foldl_nil];rw[dig_D (by omega),dig_D (by omega),dig_D (by omega),dig_D (by omega)];omega
 have HF:=Lib.hid (λW:World=>masks_filled_d ⟨#[x0,x1,x2,x3]⟩ W (show 4<=18 by decide) (λi h=>by
  have h4:i<4:=h;have:i=0\/i=1\/i=2\/i=3:=by omega
  rcases this with rfl|rfl|rfl|rfl
  . exact p0
  . exact p1
  . exact p2
  . exact p3))
 go_enter Tryz.func277,Tryz.ntmps277
 go_upto_region 1 with fail
 have cl:∀(j:Nat) (hj:j<[x0,x1,x2,x3].length),(w.alloc (.cells (dArr x0.toNat x1.toNat x2.toNat x3.toNat) 303)).cell? (Addr.add ⟨w.heap.size,0,none⟩ j)=some (.int .u8 (([x0,x1,x2,x3][j].toNat:Nat):Int)):=by
  intro j hj;have hadd:(⟨w.heap.size,0,none⟩:Addr).add j=⟨w.heap.size,j,none⟩:=by unfold Addr.add;split<;>simp_all
  rw[hadd,cell_of_row _ _ j _ _ (0,0) (heap_alloc_last w _)];have h4:j<4:=hj;have:j=0\/j=1\/j=2\/j=3:=by omega
  rcases this with rfl|rfl|rfl|rfl<;>rfl
 have cv:=run_convert_bytes_back (P:=Tryz.prog) (w.alloc (.cells (dArr x0.toNat x1.toNat x2.toNat x3.toNat) 303)) 207 9 5 ⟨w.heap.size,0,none⟩ 18 [x0,x1,x2,x3] Tryz.underlying207 Tryz.underlying5 Tryz.underlying9 cl;clear cl;have cv2:(convert 207 9 (.slice (some ⟨w.heap.size,0,none⟩) 4 18)).run Tryz.prog (w.alloc (.cells (dArr x0.toNat x1.toNat x2.toNat x3.toNat) 303))=.ok (.string ⟨#[x0,x1,x2,x3]⟩) (w.alloc (.cells (dArr x0.toNat x1.toNat x2.toNat x3.toNat) 303)):=cv;clear cv;generalize hD:dArr x0.toNat x1.toNat x2.toNat x3.toNat=D at *;generalize hS:(⟨#[x0,x1,x2,x3]⟩:ByteArray)=S at *;have hl:S.data.toList=[x0,x1,x2,x3]:=by rw[<-hS]
 have V:=Lib.hid (show fillv 48 S.data.toList=1000*((x0.toNat:Int)-48)+100*((x1.toNat:Int)-48)+10*((x2.toNat:Int)-48)+((x3.toNat:Int)-48)by rw[hl,hv]);clear hl hv hS hD;go_wp2_with (first|(go_at_call 217;refine(HF.out _).mono ?_;rintro e w1 ⟨rfl,hb⟩;obtain⟨hc,hf⟩:=bcell hb;have hz:=hb.size;(try simp only[World.size_alloc,World.size_setCell,World.size_drew]at hz hc hf);(try have⟨hl0,hc0,hf0⟩:=bk hc hf hz (w.heap.size) (by omega));(try have⟨hl1,hc1,hf1⟩:=bk hc hf hz (w.heap.size+1) (by omega));(try have⟨hl2,hc2,hf2⟩:=bk hc hf hz (w.heap.size+2) (by omega));(try have⟨hl3,hc3,hf3⟩:=bk hc hf hz (w.heap.size+3) (by omega));(try have⟨hl4,hc4,hf4⟩:=bk hc hf hz (w.heap.size+4) (by omega))))
 go_ret
 exact⟨by rw[<-V.out];simp,bC⟩
end Go.Proofs.YtcffhjfdlflbgaaGreatDoor
end
section
namespace Go.Ev
open Go Go.Proofs
def dg(n:Int)(i:Nat):Int:=n/10^(3-i)%10
abbrev X0:List AV:=[.a .u8 0,.a .u8 0,.a .u8 0,.a .u8 0,.a .u8 0,.a .u8 0,.a .u8 0,.a .u8 0,.a .u8 0,.a .u8 0,.a .u8 0,.a .u8 0,.a .u8 0,.a .u8 0]
def Wq:dP:=λ
 | [.e [c0,c1,c2,c3],.a .i64 n]=>some (aH [ab 0 n,ab n 9999] (.a0 (.g (.a .u8 (ο 48 (dg n 0))::.a .u8 (ο 48 (dg n 1))::.a .u8 (ο 48 (dg n 2))::.a .u8 (ο 48 (dg n 3))::X0))))
 | _=>none
def U1:aQ:=aK T9 276 Wq
def SH(v:Int):Bool:=ab 48 v&&ab v 57
def db(a b c d:Int):Int:=1000*(a-48)+100*(b-48)+10*(c-48)+(d-48)
def WJ:dP:=λ
 | [.e [c0,c1,c2,c3],.g (.a .u8 a::.a .u8 b::.a .u8 c::.a .u8 d::[.a .u8 0,.a .u8 0,.a .u8 0,.a .u8 0,.a .u8 0,.a .u8 0,.a .u8 0,.a .u8 0,.a .u8 0,.a .u8 0,.a .u8 0,.a .u8 0,.a .u8 0,.a .u8 0])]=>some (aH [SH a,SH b,SH c,SH d] (.a0 (.a .i64 (db a b c d))))
 | _=>none
def U2:aQ:=aK U1 277 WJ
theorem Yj{n:Int}(h:0<=n):dg n 0=n/1000%10/\dg n 1=n/100%10/\dg n 2=n/10%10/\dg n 3=n%10:=by
 refine⟨rfl,rfl,rfl,?_⟩;show n/1%10=n%10;simp
theorem OW:aY tab 277=some (dH 277,aL 277):=κ
theorem V0:ak Tryz.prog cfg U1:=by
 refine au tV λargs t v he hv=>?_;unfold Wq at he;split at he
 . rename_i c0 c1 c2 c3 n;cases he;obtain⟨⟨h1,h2,-⟩,hv⟩:=aF hv;rw[aq]at h1 h2;cases hv;refine jD tV ai (bE 1000662522000252200025220002522000) (R:=λQ=>(λ(A:AV)(B C:Int)=>(λ(E F:Int)=>(λ(G H:Int)=>(λ(I:Int)=>af .i64 B/\af .u8 B/\af .i64 C/\af .i64 E/\af .u8 E/\af .i64 F/\af .i64 G/\af .u8 G/\af .i64 H/\af .i64 I/\af .u8 I/\af .i64 (Int.tdiv H 10)/\Q (.g [.a .u8 I,.a .u8 G,.a .u8 E,.a .u8 B,A,A,A,A,A,A,A,A,A,A,A,A,A,A])) (ο 48 (Int.tmod H 10))) (ο 48 (Int.tmod F 10)) (Int.tdiv F 10)) (ο 48 (Int.tmod C 10)) (Int.tdiv C 10)) (.a .u8 0) (ο 48 (Int.tmod n 10)) (Int.tdiv n 10)) (λ_=>by kernel_rfl) (hi:=κ) λQ' hQ=>?_;try dsimp only
   have e1:n.tdiv 10=n/10:=Int.tdiv_eq_ediv_of_nonneg h1;have e2:(n/10).tdiv 10=n/100:=η
   have e3:(n/100).tdiv 10=n/1000:=η
   have e4:(n/1000).tdiv 10=n/10000:=η
   have m1:n.tmod 10=n%10:=ξ h1;have m2:(n/10).tmod 10=n/10%10:=ξ δ;have m3:(n/100).tmod 10=n/100%10:=ξ δ;have m4:(n/1000).tmod 10=n/1000%10:=ξ δ;simp_all [Yj,az];omega
 grind
theorem L0:ak Tryz.prog cfg U2:=by
 refine au V0 λargs t v he hv=>?_;unfold WJ at he;split at he
 . rename_i c0 c1 c2 c3 a b c d;cases he;obtain⟨⟨h1,h2,h3,h4,-⟩,hv⟩:=aF hv;unfold SH at h1 h2 h3 h4;rw[zAa,aq,aq]at h1 h2 h3 h4;cases hv;refine dy OW κ λm w hG=>?_;have:=Go.Proofs.YtcffhjfdlflbgaaGreatDoor.masks_value ⟨⟨[c0,c1,c2,c3]⟩⟩ a b c d w rfl h1 h2 h3 h4;simp_all [aD,aj,db]
 grind
end Go.Ev
end
