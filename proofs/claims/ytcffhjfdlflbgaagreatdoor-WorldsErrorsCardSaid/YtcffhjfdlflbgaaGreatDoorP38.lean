import Derived.Test.YtcffhjfdlflbgaaGreatDoorP37
set_option linter.all false
open Nat renaming ble->ν
set_option linter.all false
set_option maxRecDepth 100000
set_option maxHeartbeats 4000000
namespace Go.Ev
open Go Go.Proofs
variable{ng lg z:Bool}{g a b c kd k:Int}{R:List Rn}{K:fg}{x:Da}{v:AV}{C:bg}
def aq5:dP:=λ
 | [.g [.b ng,.b lg,.e s,.a .i64 e,.a .i64 g,.e mo,.e da,.a .u8 a,.a .u8 b,.a .u8 c]]=>some (aH [ν s.length 140737488351232,af .i64 e] (.a0 (.a .i64 (bW ng lg s e g mo da a b c))))
 | _=>none
theorem apP{S:aQ}(hS:ak Tryz.prog cfg S):ak Tryz.prog cfg (aK S 46 aq5):=au hS λargs t v he hv=>by
 unfold aq5 at he;split at he
 . cases he;obtain⟨⟨h1,h2,-⟩,hv⟩:=aF hv;cases hv;exact IR (al.mp h1) (aE.mp h2)
 . cases he
def atn:aQ:=eQ (aK (aK (aK (pX gZ 48 Pm) 46 aq5) 47 YD) 49 BG) 45 (fl 14 [4] Ff)
theorem s9:ak Tryz.prog cfg atn:=amI (W5 (Ue (apP (eG aW RQ))))
theorem ar9{s:List UInt8}{e:Int}{mo da:List UInt8}{x y z p d:Int}(hR:Nx R)(hn:R.length<=1000)(hs:s.length<=140737488351232)(hm:mo.length<=140737488351232)(hda:da.length<=140737488351232)(he : -9223372036854775808<=e/\e<=9223372036854775807)(hg : -9223372036854775808<=g/\g<=9223372036854775807)(hb : -9223372036854775808<=b/\b<=9223372036854775807)(hd : -9223372036854775808<=d/\d<=9223372036854775807)(ha : -128<=a/\a<=127)(hc : -128<=c/\c<=127)(hx:0<=x/\x<=255)(hy:0<=y/\y<=255)(hz:0<=z/\z<=255)(hp:0<=p/\p<=255):bu Tryz.prog cfg 11 [.g [.a .u8 kd,.c 14 0 R.length K,.b ng,.b lg,.e s,.a .i64 e,.a .i64 g,.e mo,.e da,.a .u8 x,.a .u8 y,.a .u8 z,.a .u8 p,.a .i8 a,.a .i64 b,.a .i8 c,.a .i64 d]] [.a (bh R) false none] (.a .i64 (iT kd R.length (abH R) (dZ ng lg s e g mo da x y z) p (sZ a b c d) (bW ng lg s e g mo da x y z) g (eA (s++mo++da)) (mZ x y z) (i6 a b c d p) (bA a b c d) a c)) []:=by
 have hk:¬(1<=kd/\kd<=5)\/kd=1\/kd=2\/kd=3\/kd=4\/kd=5:=δ
 rcases hk with hk|rfl|rfl|rfl|rfl|rfl
 . refine lF s9 jz ai (bE 1023312320240) (R:=λQ=>(λ(B:Bool)(E:Prop)=>(λ(A:Bool)=>(λ(C:Prop)=>(A->A/\A/\B=false/\not (ab kd 5)/\E)/\(C->C/\C/\B/\E)) (A=false)) (not B)) (not (ab 1 kd)) (Q (.a .i64 18))) (λ_=>by rfl) λQ' hQ=>?_;try dsimp only
   have fin:∀v,iT kd R.length (abH R) (dZ ng lg s e g mo da x y z) p (sZ a b c d) (bW ng lg s e g mo da x y z) g (eA (s++mo++da)) (mZ x y z) (i6 a b c d p) (bA a b c d) a c=v->Q' (.a .i64 v):=λv h=>hQ _ (by rw[h]);clear hQ;have fin:=fin 18 (by unfold iT;grind);simp_all [az]
 . refine lF s9 jz ai (bE 10062300081023581111244401400014302552202430252202455666) (R:=λQ=>(λ(F G N O:Bool)(P:Nat)(H:Prop)=>(λ(A B:Bool)(I:List AV)=>(λ(T U:Bool)(C E:Prop)=>(A->A/\A/\A/\A/\F=false/\(B->B/\B/\B/\B/\G=false/\(N->H)/\(N=false->(O->Q (.a .i64 17))/\(O=false->(T->(eJ I->(U->ν R.length 1000/\Q (.a .i64 (abH (Xw I))))/\(U=false->False))/\(eJ I=false->False))/\(T=false->False))))/\(C->C/\C/\C/\C/\G/\H))/\(E->E/\E/\E/\E/\F/\H)) (and true (and (ν (HAdd.hAdd 0 P) (bh R).length) (bc 14 I))) (Nat.beq (List.length (Xw I)) R.length) (B=false) (A=false)) (not F) (not G) (b_ (bh R) 0 P)) (not (and (and (bQ ng false) (and (bQ lg false) (and (ae s []) (and (aa e 0) (and (aa g 0) true))))) (and (ae mo []) (and (ae da []) (and (and (aa x 0) (and (aa y 0) (and (aa z 0) true))) true))))) (not (aa p 0)) (not (and (and (aa a 0) (and (aa b 0) true)) (and (and (aa c 0) (and (aa d 0) true)) true))) (aa (Int.ofNat R.length) 0) (HMul.hMul R.length 4) (Q (.a .i64 5))) (λ_=>by rfl) λQ' hQ=>?_;try dsimp only
   have fin:∀v,iT 1 R.length (abH R) (dZ ng lg s e g mo da x y z) p (sZ a b c d) (bW ng lg s e g mo da x y z) g (eA (s++mo++da)) (mZ x y z) (i6 a b c d p) (bA a b c d) a c=v->Q' (.a .i64 v):=λv h=>hQ _ (by rw[h]);clear hQ;try simp only[tf]
   try simp only[tR]
   try simp only[tI]
   have bl:ν (R.length*4) (R.length*4)=true:=al.mpr (Nat.le_refl _);have ir:=pD hR;simp only[l_,iJ,Vo,kz,Nat.zero_add,bl,ir,Bool.and_true,Bool.true_and];generalize abH R=ch at *;have rnn:=@x7 a b c d;have enn:=@wk ng lg s e g mo da x y z;have eg:=@agN ng lg s e g mo da x y z;have rk0:=@gA a b c d;unfold iT at fin;generalize dZ ng lg s e g mo da x y z=dz at *;generalize sZ a b c d=sz at *;generalize mZ x y z=mz at *;generalize eA (s++mo++da)=xb at *;generalize bW ng lg s e g mo da x y z=ef at *;generalize i6 a b c d p=ft at *;generalize bA a b c d=rk at *;simp only[az,reduceCtorEq]
   (repeat' first|exact trivial|refine⟨?_,?_⟩|intro)<;>first|contradiction|omega|assumption|(apply fin;grind)|(exfalso;grind)|grind
 . refine lF s9 jz ai (bE 100662358102358100052810238114322000224327020624012200642200561430255220240006302522024056) (R:=λQ=>(λ(N O T U V Y u0:Bool)(Z:Int)(P W:Prop)=>(λ(A B C E u1:Bool)=>(λ(F G H I:Prop)=>(A->A/\A/\A/\A/\N=false/\(B->B/\B/\B/\B/\O=false/\(Y->P)/\(Y=false->ν s.length 140737488351232/\af .i64 e/\(u1->ν s.length 140737488351232/\af .i64 e/\Q (.a .i64 Z))/\(u1=false->(E->E/\E/\T/\ν mo.length 1000/\ν da.length 1000/\E/\U=false/\(C->C/\C/\C/\C/\V=false/\(u0->W)/\(u0=false->Q (.a .i64 0)))/\(F->F/\F/\F/\F/\V/\W))/\(I->I/\I/\I/\U/\W))))/\(G->G/\G/\G/\G/\O/\P))/\(H->H/\H/\H/\H/\N/\P)) (C=false) (B=false) (A=false) (E=false)) (not N) (not O) (not V) (not U) (not (ab Z 0))) (not (ab (Int.ofNat R.length) 0)) (not (aa p 0)) (ν s.length 1000) (not (ab g 0)) (aa (cond (eA ((s++mo)++da)) 1 0) 0) (not (and (and (aa a 0) (and (aa b 0) true)) (and (and (aa c 0) (and (aa d 0) true)) true))) (not (and (aa x 0) (and (aa y 0) (and (aa z 0) true)))) (bW ng lg s e g mo da x y z) (Q (.a .i64 5)) (Q (.a .i64 1))) (λ_=>by kernel_rfl) λQ' hQ=>?_;try dsimp only
   have fin:∀v,iT 2 R.length (abH R) (dZ ng lg s e g mo da x y z) p (sZ a b c d) (bW ng lg s e g mo da x y z) g (eA (s++mo++da)) (mZ x y z) (i6 a b c d p) (bA a b c d) a c=v->Q' (.a .i64 v):=λv h=>hQ _ (by rw[h]);clear hQ;have ln:=@W_ ng lg s e g mo da x y z;try simp only[tf]
   try simp only[tR]
   try simp only[tI]
   have rnn:=@x7 a b c d;have enn:=@wk ng lg s e g mo da x y z;have eg:=@agN ng lg s e g mo da x y z;have rk0:=@gA a b c d;unfold iT at fin;generalize dZ ng lg s e g mo da x y z=dz at *;generalize sZ a b c d=sz at *;generalize mZ x y z=mz at *;generalize eA (s++mo++da)=xb at *;generalize bW ng lg s e g mo da x y z=ef at *;generalize i6 a b c d p=ft at *;generalize bA a b c d=rk at *;simp only[az,reduceCtorEq]
   (repeat' first|exact trivial|refine⟨?_,?_⟩|intro)<;>first|contradiction|omega|assumption|(apply fin;grind)|(exfalso;grind)|grind
 . refine lF s9 jz ai (bE 1006623581006230008100203310202570010335331020252240010335331142025522400422020014202557004220200081020257001142025570042202000335800102025700114202557004220200033580042202001422024000140614030202405663020002202430205622024056) (R:=λQ=>(λ(A B P T W Y Z u0 u1 u3 u5 u6 u9:Bool)(C u4 u7 ua:Prop)=>(λ(E F G U ub:Bool)(H I uc ud ue uf:Prop)=>(λ(N O V u2 ug uh:Prop)=>(E->E/\E/\E/\E/\W=false/\(F->F/\F/\F/\F/\Y=false/\(U->U/\U/\Z=false/\(u3->u4)/\(u3=false->(u5->C)/\(u5=false->(G->G/\G/\G/\(ub->C)/\(ub=false->P/\af .i64 b/\T/\(u0->ug)/\(uf->ug)))/\(V->V/\V/\V/\P/\af .i64 b/\T/\(u0->B/\B/\B/\B/\B/\(u9->C)/\(u9=false->P/\af .i64 d/\T/\(u1->(A->uc)/\uh)/\(ud->(A->ue)/\uh)))/\(uf->B/\B/\B/\B/\B/\C)))))/\(u2->u2/\u2/\Z/\u4))/\(N->N/\N/\N/\N/\Y/\ua))/\(O->O/\O/\O/\O/\W/\ua)) (F=false) (E=false) (G=false) (U=false) (H/\H/\H/\H/\H/\P/\af .i64 d/\T/\(u1->A/\uc)/\(ud->A/\ue)) (I->I/\I/\I/\I/\u7)) (not W) (not Y) (not B) (not Z) (not A) (B=false) (A=false) (A/\A/\A/\A/\(u6->C)/\(u6=false->u7)) (u1=false) (A/\A/\A/\A/\C) (u0=false)) (aa c 0) (aa a 0) (af .i64 p) (and (ab 1 p) (ab p 3)) (not (ab (Int.ofNat R.length) 0)) (not (and (and (bQ ng false) (and (bQ lg false) (and (ae s []) (and (aa e 0) (and (aa g 0) true))))) (and (ae mo []) (and (ae da []) (and (and (aa x 0) (and (aa y 0) (and (aa z 0) true))) true))))) (not (ab 1 p)) (lT b p) (lT d p) (not (ab p 3)) (not (ab (bA a b c d) 0)) (not (and (aa 0 c) (and (aa (PU d p) d) true))) (not (and (aa 0 a) (and (aa (CK b p) b) true))) (Q (.a .i64 1)) (Q (.a .i64 18)) (Q (.a .i64 0)) (Q (.a .i64 5))) (λ_=>by kernel_rfl) λQ' hQ=>?_;try dsimp only
   have fin:∀v,iT 3 R.length (abH R) (dZ ng lg s e g mo da x y z) p (sZ a b c d) (bW ng lg s e g mo da x y z) g (eA (s++mo++da)) (mZ x y z) (i6 a b c d p) (bA a b c d) a c=v->Q' (.a .i64 v):=λv h=>hQ _ (by rw[h]);clear hQ;try simp only[tf]
   try simp only[tR]
   try simp only[tI]
   have rnn:=@x7 a b c d;have enn:=@wk ng lg s e g mo da x y z;have eg:=@agN ng lg s e g mo da x y z;have rk0:=@gA a b c d;have fi:=@zi a b c d p;unfold iT at fin;generalize dZ ng lg s e g mo da x y z=dz at *;generalize sZ a b c d=sz at *;generalize mZ x y z=mz at *;generalize eA (s++mo++da)=xb at *;generalize bW ng lg s e g mo da x y z=ef at *;generalize i6 a b c d p=ft at *;generalize bA a b c d=rk at *;simp only[az,reduceCtorEq]
   (repeat' first|exact trivial|refine⟨?_,?_⟩|intro)<;>first|contradiction|omega|assumption|(apply fin;grind)|(exfalso;grind)|grind
 . refine lF s9 jz ai (bE 10066235810062300081023581000562033102355810302552202403020245514556630252202430252202430205622024056) (R:=λQ=>(λ(O P T V W u0:Bool)(U Y:Prop)=>(λ(A B C E N:Bool)=>(λ(F G H I Z:Prop)=>(λ(u1:Prop->Prop->Prop)=>(A->u1 A (O=false/\(B->u1 B (P=false/\(C->u1 C (T=false/\(u0->U)/\(u0=false->(N->N/\N/\V=false/\(E->u1 E (W=false/\Q (.a .i64 0)))/\(F->u1 F (W/\U)))/\(Z->Z/\Z/\V/\U))))/\(G->u1 G (T/\Y))))/\(H->u1 H (P/\Y))))/\(I->u1 I (O/\Y))) (λu2 u3=>u2/\u2/\u2/\u2/\u3)) (E=false) (C=false) (B=false) (A=false) (N=false)) (not O) (not P) (not T) (not W) (not V)) (not (ab (Int.ofNat R.length) 0)) (not (and (and (bQ ng false) (and (bQ lg false) (and (ae s []) (and (aa e 0) (and (aa g 0) true))))) (and (ae mo []) (and (ae da []) (and (and (aa x 0) (and (aa y 0) (and (aa z 0) true))) true))))) (not (aa p 0)) (aa a 0) (not (aa c 0)) (not (ab (bA a b c d) 0)) (Q (.a .i64 1)) (Q (.a .i64 5))) (λ_=>by kernel_rfl) λQ' hQ=>?_;try dsimp only
   have fin:∀v,iT 4 R.length (abH R) (dZ ng lg s e g mo da x y z) p (sZ a b c d) (bW ng lg s e g mo da x y z) g (eA (s++mo++da)) (mZ x y z) (i6 a b c d p) (bA a b c d) a c=v->Q' (.a .i64 v):=λv h=>hQ _ (by rw[h]);clear hQ;try simp only[tf]
   try simp only[tR]
   try simp only[tI]
   have rnn:=@x7 a b c d;have enn:=@wk ng lg s e g mo da x y z;have eg:=@agN ng lg s e g mo da x y z;have rk0:=@gA a b c d;unfold iT at fin;generalize dZ ng lg s e g mo da x y z=dz at *;generalize sZ a b c d=sz at *;generalize mZ x y z=mz at *;generalize eA (s++mo++da)=xb at *;generalize bW ng lg s e g mo da x y z=ef at *;generalize i6 a b c d p=ft at *;generalize bA a b c d=rk at *;simp only[az,reduceCtorEq]
   (repeat' first|exact trivial|refine⟨?_,?_⟩|intro)<;>first|contradiction|omega|assumption|(apply fin;grind)|(exfalso;grind)|grind
 . refine lF s9 jz ai (bE 100662358100623000810235815203311400030202456614556630252202430252202430205622024056) (R:=λQ=>(λ(I N O T W:Bool)(P U:Prop)=>(λ(A B C H:Bool)=>(λ(E F G V:Prop)=>(A->A/\A/\A/\A/\I=false/\(B->B/\B/\B/\B/\N=false/\(C->C/\C/\C/\C/\O=false/\(W->P)/\(W=false->(H->H/\H/\T=false/\(aa c 0->P)/\(aa c 0=false->Q (.a .i64 0)))/\(V->V/\V/\T/\P)))/\(E->E/\E/\E/\E/\O/\U))/\(F->F/\F/\F/\F/\N/\U))/\(G->G/\G/\G/\G/\I/\U)) (C=false) (B=false) (A=false) (H=false)) (not I) (not N) (not O) (not T)) (not (ab (Int.ofNat R.length) 0)) (not (and (and (bQ ng false) (and (bQ lg false) (and (ae s []) (and (aa e 0) (and (aa g 0) true))))) (and (ae mo []) (and (ae da []) (and (and (aa x 0) (and (aa y 0) (and (aa z 0) true))) true))))) (not (aa p 0)) (not (aa a 0)) (not (ab (bA a b c d) 0)) (Q (.a .i64 1)) (Q (.a .i64 5))) (λ_=>by kernel_rfl) λQ' hQ=>?_;try dsimp only
   have fin:∀v,iT 5 R.length (abH R) (dZ ng lg s e g mo da x y z) p (sZ a b c d) (bW ng lg s e g mo da x y z) g (eA (s++mo++da)) (mZ x y z) (i6 a b c d p) (bA a b c d) a c=v->Q' (.a .i64 v):=λv h=>hQ _ (by rw[h]);clear hQ;try simp only[tf]
   try simp only[tR]
   try simp only[tI]
   have rnn:=@x7 a b c d;have enn:=@wk ng lg s e g mo da x y z;have eg:=@agN ng lg s e g mo da x y z;have rk0:=@gA a b c d;unfold iT at fin;generalize dZ ng lg s e g mo da x y z=dz at *;generalize sZ a b c d=sz at *;generalize mZ x y z=mz at *;generalize eA (s++mo++da)=xb at *;generalize bW ng lg s e g mo da x y z=ef at *;generalize i6 a b c d p=ft at *;generalize bA a b c d=rk at *;simp only[az,reduceCtorEq]
   (repeat' first|exact trivial|refine⟨?_,?_⟩|intro)<;>first|contradiction|omega|assumption|(apply fin;grind)|(exfalso;grind)|grind
theorem ar8{s:List UInt8}{e:Int}{mo da:List UInt8}{x y z p d:Int}(hs:s.length<=140737488351232)(hm:mo.length<=140737488351232)(hda:da.length<=140737488351232)(he : -9223372036854775808<=e/\e<=9223372036854775807)(hg : -9223372036854775808<=g/\g<=9223372036854775807)(hb : -9223372036854775808<=b/\b<=9223372036854775807)(hd : -9223372036854775808<=d/\d<=9223372036854775807)(ha : -128<=a/\a<=127)(hc : -128<=c/\c<=127)(hx:0<=x/\x<=255)(hy:0<=y/\y<=255)(hz:0<=z/\z<=255)(hp:0<=p/\p<=255):bu Tryz.prog cfg 11 [.g [.a .u8 kd,.f,.b ng,.b lg,.e s,.a .i64 e,.a .i64 g,.e mo,.e da,.a .u8 x,.a .u8 y,.a .u8 z,.a .u8 p,.a .i8 a,.a .i64 b,.a .i8 c,.a .i64 d]] [] (.a .i64 (iT kd 0 0 (dZ ng lg s e g mo da x y z) p (sZ a b c d) (bW ng lg s e g mo da x y z) g (eA (s++mo++da)) (mZ x y z) (i6 a b c d p) (bA a b c d) a c)) []:=by
 have hk:¬(1<=kd/\kd<=5)\/kd=1\/kd=2\/kd=3\/kd=4\/kd=5:=δ
 rcases hk with hk|rfl|rfl|rfl|rfl|rfl
 . refine lF s9 (λx hx=>by grind) ai (bE 1023312320240) (R:=λQ=>(λ(B:Bool)(E:Prop)=>(λ(A:Bool)=>(λ(C:Prop)=>(A->A/\A/\B=false/\not (ab kd 5)/\E)/\(C->C/\C/\B/\E)) (A=false)) (not B)) (not (ab 1 kd)) (Q (.a .i64 18))) (λ_=>by rfl) λQ' hQ=>?_;try dsimp only
   have fin:∀v,iT kd 0 0 (dZ ng lg s e g mo da x y z) p (sZ a b c d) (bW ng lg s e g mo da x y z) g (eA (s++mo++da)) (mZ x y z) (i6 a b c d p) (bA a b c d) a c=v->Q' (.a .i64 v):=λv h=>hQ _ (by rw[h]);clear hQ;have fin:=fin 18 (by unfold iT;grind);simp_all [az]
 . refine lF s9 (λx hx=>by grind) ai (bE 10062300081023581514302552202430252202455666) (R:=λQ=>(λ(F G I:Bool)(H:Prop)=>(λ(A B:Bool)=>(λ(C E:Prop)=>(A->A/\A/\A/\A/\F=false/\(B->B/\B/\B/\B/\G=false/\(I->H)/\(I=false->Q (.a .i64 17)))/\(C->C/\C/\C/\C/\G/\H))/\(E->E/\E/\E/\E/\F/\H)) (B=false) (A=false)) (not F) (not G)) (not (and (and (bQ ng false) (and (bQ lg false) (and (ae s []) (and (aa e 0) (and (aa g 0) true))))) (and (ae mo []) (and (ae da []) (and (and (aa x 0) (and (aa y 0) (and (aa z 0) true))) true))))) (not (aa p 0)) (not (and (and (aa a 0) (and (aa b 0) true)) (and (and (aa c 0) (and (aa d 0) true)) true))) (Q (.a .i64 5))) (λ_=>by rfl) λQ' hQ=>?_;try dsimp only
   have fin:∀v,iT 1 0 0 (dZ ng lg s e g mo da x y z) p (sZ a b c d) (bW ng lg s e g mo da x y z) g (eA (s++mo++da)) (mZ x y z) (i6 a b c d p) (bA a b c d) a c=v->Q' (.a .i64 v):=λv h=>hQ _ (by rw[h]);clear hQ;try simp only[tf]
   try simp only[tR]
   try simp only[tI]
   have rnn:=@x7 a b c d;have enn:=@wk ng lg s e g mo da x y z;have eg:=@agN ng lg s e g mo da x y z;have rk0:=@gA a b c d;unfold iT at fin;generalize dZ ng lg s e g mo da x y z=dz at *;generalize sZ a b c d=sz at *;generalize mZ x y z=mz at *;generalize eA (s++mo++da)=xb at *;generalize bW ng lg s e g mo da x y z=ef at *;generalize i6 a b c d p=ft at *;generalize bA a b c d=rk at *;simp only[az,reduceCtorEq]
   (repeat' first|exact trivial|refine⟨?_,?_⟩|intro)<;>first|contradiction|omega|assumption|(apply fin;grind)|(exfalso;grind)|grind
 . refine lF s9 (λx hx=>by cases hx) ai (bE 10235810005281023811432200022432702062401220064220056143025522024006666) (R:=λQ=>(λ(H I N O T W:Bool)(V:Int)(P U:Prop)=>(λ(A B C Y:Bool)=>(λ(E F G:Prop)=>(A->A/\A/\A/\A/\H=false/\(T->U)/\(T=false->ν s.length 140737488351232/\af .i64 e/\(Y->ν s.length 140737488351232/\af .i64 e/\Q (.a .i64 V))/\(Y=false->(C->C/\C/\I/\ν mo.length 1000/\ν da.length 1000/\C/\N=false/\(B->B/\B/\B/\B/\O=false/\(W->P)/\(W=false->Q (.a .i64 0)))/\(E->E/\E/\E/\E/\O/\P))/\(G->G/\G/\G/\N/\P))))/\(F->F/\F/\F/\F/\H/\U)) (B=false) (A=false) (C=false)) (not H) (not O) (not N) (not (ab V 0))) (not (aa p 0)) (ν s.length 1000) (not (ab g 0)) (aa (cond (eA ((s++mo)++da)) 1 0) 0) (not (and (and (aa a 0) (and (aa b 0) true)) (and (and (aa c 0) (and (aa d 0) true)) true))) (not (and (aa x 0) (and (aa y 0) (and (aa z 0) true)))) (bW ng lg s e g mo da x y z) (Q (.a .i64 1)) (Q (.a .i64 5))) (λ_=>by kernel_rfl) λQ' hQ=>?_;try dsimp only
   have fin:∀v,iT 2 0 0 (dZ ng lg s e g mo da x y z) p (sZ a b c d) (bW ng lg s e g mo da x y z) g (eA (s++mo++da)) (mZ x y z) (i6 a b c d p) (bA a b c d) a c=v->Q' (.a .i64 v):=λv h=>hQ _ (by rw[h]);clear hQ;have ln:=@W_ ng lg s e g mo da x y z;try simp only[tf]
   try simp only[tR]
   try simp only[tI]
   have rnn:=@x7 a b c d;have enn:=@wk ng lg s e g mo da x y z;have eg:=@agN ng lg s e g mo da x y z;have rk0:=@gA a b c d;unfold iT at fin;generalize dZ ng lg s e g mo da x y z=dz at *;generalize sZ a b c d=sz at *;generalize mZ x y z=mz at *;generalize eA (s++mo++da)=xb at *;generalize bW ng lg s e g mo da x y z=ef at *;generalize i6 a b c d p=ft at *;generalize bA a b c d=rk at *;simp only[az,reduceCtorEq]
   (repeat' first|exact trivial|refine⟨?_,?_⟩|intro)<;>first|contradiction|omega|assumption|(apply fin;grind)|(exfalso;grind)|grind
 . refine lF s9 (λx hx=>by cases hx) ai (bE 100623000810020331020257001033533102025224001033533114202552240042202001420255700422020008102025700114202557004220200033580010202570011420255700422020003358004220200142202400014061403020240566302000220246666) (R:=λQ=>(λ(A B N O U V W Y u0 u2 u3 u5:Bool)(C u1 u4:Prop)=>(λ(E F P u6:Bool)(G H u7 u9 ua ub:Prop)=>(λ(I T Z uc ud:Prop)=>(E->E/\E/\E/\E/\U=false/\(P->P/\P/\V=false/\(u0->u1)/\(u0=false->(u2->C)/\(u2=false->(F->F/\F/\F/\(u6->C)/\(u6=false->N/\af .i64 b/\O/\(W->uc)/\(ub->uc)))/\(T->T/\T/\T/\N/\af .i64 b/\O/\(W->B/\B/\B/\B/\B/\(u5->C)/\(u5=false->N/\af .i64 d/\O/\(Y->(A->u7)/\ud)/\(u9->(A->ua)/\ud)))/\(ub->B/\B/\B/\B/\B/\C)))))/\(Z->Z/\Z/\V/\u1))/\(I->I/\I/\I/\I/\U/\Q (.a .i64 5))) (E=false) (F=false) (P=false) (G/\G/\G/\G/\G/\N/\af .i64 d/\O/\(Y->A/\u7)/\(u9->A/\ua)) (H->H/\H/\H/\H/\u4)) (not U) (not B) (not V) (not A) (B=false) (A=false) (A/\A/\A/\A/\(u3->C)/\(u3=false->u4)) (Y=false) (A/\A/\A/\A/\C) (W=false)) (aa c 0) (aa a 0) (af .i64 p) (and (ab 1 p) (ab p 3)) (not (and (and (bQ ng false) (and (bQ lg false) (and (ae s []) (and (aa e 0) (and (aa g 0) true))))) (and (ae mo []) (and (ae da []) (and (and (aa x 0) (and (aa y 0) (and (aa z 0) true))) true))))) (not (ab 1 p)) (lT b p) (lT d p) (not (ab p 3)) (not (ab (bA a b c d) 0)) (not (and (aa 0 c) (and (aa (PU d p) d) true))) (not (and (aa 0 a) (and (aa (CK b p) b) true))) (Q (.a .i64 1)) (Q (.a .i64 18)) (Q (.a .i64 0))) (λ_=>by kernel_rfl) λQ' hQ=>?_;try dsimp only
   have fin:∀v,iT 3 0 0 (dZ ng lg s e g mo da x y z) p (sZ a b c d) (bW ng lg s e g mo da x y z) g (eA (s++mo++da)) (mZ x y z) (i6 a b c d p) (bA a b c d) a c=v->Q' (.a .i64 v):=λv h=>hQ _ (by rw[h]);clear hQ;try simp only[tf]
   try simp only[tR]
   try simp only[tI]
   have rnn:=@x7 a b c d;have enn:=@wk ng lg s e g mo da x y z;have eg:=@agN ng lg s e g mo da x y z;have rk0:=@gA a b c d;have fi:=@zi a b c d p;unfold iT at fin;generalize dZ ng lg s e g mo da x y z=dz at *;generalize sZ a b c d=sz at *;generalize mZ x y z=mz at *;generalize eA (s++mo++da)=xb at *;generalize bW ng lg s e g mo da x y z=ef at *;generalize i6 a b c d p=ft at *;generalize bA a b c d=rk at *;simp only[az,reduceCtorEq]
   (repeat' first|exact trivial|refine⟨?_,?_⟩|intro)<;>first|contradiction|omega|assumption|(apply fin;grind)|(exfalso;grind)|grind
 . refine lF s9 (λx hx=>by cases hx) ai (bE 1006230008102358100056203310235581030255220240302024551455663025220243025220246666) (R:=λQ=>(λ(I N P T V:Bool)(O W:Prop)=>(λ(A B C H:Bool)=>(λ(E F G U:Prop)=>(A->A/\A/\A/\A/\I=false/\(B->B/\B/\B/\B/\N=false/\(V->O)/\(V=false->(H->H/\H/\P=false/\(C->C/\C/\C/\C/\T=false/\Q (.a .i64 0))/\(E->E/\E/\E/\E/\T/\O))/\(U->U/\U/\P/\O)))/\(F->F/\F/\F/\F/\N/\W))/\(G->G/\G/\G/\G/\I/\W)) (C=false) (B=false) (A=false) (H=false)) (not I) (not N) (not T) (not P)) (not (and (and (bQ ng false) (and (bQ lg false) (and (ae s []) (and (aa e 0) (and (aa g 0) true))))) (and (ae mo []) (and (ae da []) (and (and (aa x 0) (and (aa y 0) (and (aa z 0) true))) true))))) (not (aa p 0)) (aa a 0) (not (aa c 0)) (not (ab (bA a b c d) 0)) (Q (.a .i64 1)) (Q (.a .i64 5))) (λ_=>by kernel_rfl) λQ' hQ=>?_;try dsimp only
   have fin:∀v,iT 4 0 0 (dZ ng lg s e g mo da x y z) p (sZ a b c d) (bW ng lg s e g mo da x y z) g (eA (s++mo++da)) (mZ x y z) (i6 a b c d p) (bA a b c d) a c=v->Q' (.a .i64 v):=λv h=>hQ _ (by rw[h]);clear hQ;try simp only[tf]
   try simp only[tR]
   try simp only[tI]
   have rnn:=@x7 a b c d;have enn:=@wk ng lg s e g mo da x y z;have eg:=@agN ng lg s e g mo da x y z;have rk0:=@gA a b c d;unfold iT at fin;generalize dZ ng lg s e g mo da x y z=dz at *;generalize sZ a b c d=sz at *;generalize mZ x y z=mz at *;generalize eA (s++mo++da)=xb at *;generalize bW ng lg s e g mo da x y z=ef at *;generalize i6 a b c d p=ft at *;generalize bA a b c d=rk at *;simp only[az,reduceCtorEq]
   (repeat' first|exact trivial|refine⟨?_,?_⟩|intro)<;>first|contradiction|omega|assumption|(apply fin;grind)|(exfalso;grind)|grind
 . refine lF s9 (λx hx=>by cases hx) ai (bE 10062300081023581520331140003020245661455663025220243025220246666) (R:=λQ=>(λ(G H N P:Bool)(I T:Prop)=>(λ(A B F:Bool)=>(λ(C E O:Prop)=>(A->A/\A/\A/\A/\G=false/\(B->B/\B/\B/\B/\H=false/\(P->I)/\(P=false->(F->F/\F/\N=false/\(aa c 0->I)/\(aa c 0=false->Q (.a .i64 0)))/\(O->O/\O/\N/\I)))/\(C->C/\C/\C/\C/\H/\T))/\(E->E/\E/\E/\E/\G/\T)) (B=false) (A=false) (F=false)) (not G) (not H) (not N)) (not (and (and (bQ ng false) (and (bQ lg false) (and (ae s []) (and (aa e 0) (and (aa g 0) true))))) (and (ae mo []) (and (ae da []) (and (and (aa x 0) (and (aa y 0) (and (aa z 0) true))) true))))) (not (aa p 0)) (not (aa a 0)) (not (ab (bA a b c d) 0)) (Q (.a .i64 1)) (Q (.a .i64 5))) (λ_=>by kernel_rfl) λQ' hQ=>?_;try dsimp only
   have fin:∀v,iT 5 0 0 (dZ ng lg s e g mo da x y z) p (sZ a b c d) (bW ng lg s e g mo da x y z) g (eA (s++mo++da)) (mZ x y z) (i6 a b c d p) (bA a b c d) a c=v->Q' (.a .i64 v):=λv h=>hQ _ (by rw[h]);clear hQ;try simp only[tf]
   try simp only[tR]
   try simp only[tI]
   have rnn:=@x7 a b c d;have enn:=@wk ng lg s e g mo da x y z;have eg:=@agN ng lg s e g mo da x y z;have rk0:=@gA a b c d;unfold iT at fin;generalize dZ ng lg s e g mo da x y z=dz at *;generalize sZ a b c d=sz at *;generalize mZ x y z=mz at *;generalize eA (s++mo++da)=xb at *;generalize bW ng lg s e g mo da x y z=ef at *;generalize i6 a b c d p=ft at *;generalize bA a b c d=rk at *;simp only[az,reduceCtorEq]
   (repeat' first|exact trivial|refine⟨?_,?_⟩|intro)<;>first|contradiction|omega|assumption|(apply fin;grind)|(exfalso;grind)|grind
def K2(k:Int)(R:List Rn)(x:Da)(p a b c d:Int):Int:=iT k R.length (jo R) (XY x) p (sZ a b c d) (UI x) x.g (eA (x.s++x.mo++x.da)) (mZ x.a x.b x.c) (i6 a b c d p) (bA a b c d) a c
def Zf(p a b c d:Int):Bool:=af .u8 p&&(af .i8 a&&(af .i64 b&&(af .i8 c&&af .i64 d)))
def Th(z:Bool)(n:Nat)(K:fg):AV:=bif z then .c 14 0 n K else .f
def UO(z:Bool)(R:List Rn):List cD:=bif z then[.a (bh R) false none]else[]
theorem aeS(h:rM x):(x.s.length<=140737488351232/\x.mo.length<=140737488351232/\x.da.length<=140737488351232)/\(-9223372036854775808<=x.e/\x.e<=9223372036854775807)/\(-9223372036854775808<=x.g/\x.g<=9223372036854775807)/\(0<=x.a/\x.a<=255)/\(0<=x.b/\x.b<=255)/\0<=x.c/\x.c<=255:=by
 unfold rM at h;simp only[zAa,al,aE,eH,eE]at h;exact⟨⟨h.1,h.2.1,h.2.2.1⟩,h.2.2.2.1,h.2.2.2.2.1,h.2.2.2.2.2.1,h.2.2.2.2.2.2.1,h.2.2.2.2.2.2.2⟩
theorem ae1{p d:Int}(h:Zf p a b c d):(0<=p/\p<=255)/\(-128<=a/\a<=127)/\(-9223372036854775808<=b/\b<=9223372036854775807)/\(-128<=c/\c<=127)/\-9223372036854775808<=d/\d<=9223372036854775807:=by
 unfold Zf at h;simp only[zAa,aE,eH,eE]at h;exact⟨h.1,h.2.1,h.2.2.1,h.2.2.2.1,h.2.2.2.2⟩
theorem ad2{f:Int->List Ci}{B:Nat}(h:∀k,(f k).length<=B):∀{n:Nat} {a:Int},(agj f a n).length<=n*B
 | 0,_=>Nat.zero_le _
 | n+1,a=>by
   have h1:=h a;have h2:=ad2 h (n:=n) (a:=a+1);rw[agj,zAe,Nat.succ_mul];omega
theorem alZ{s:List UInt8}{g:Nat}:(Co s g).length<=g:=by
 unfold Co;split
 . exact eV _ _ _
 . exact Nat.zero_le _
theorem aqr{s:List UInt8}{e:Int}{mo da:List UInt8}(h:bW ng lg s e g mo da a b c=0):(Yh ng s e mo da).length<=10000000:=by
 obtain⟨ho,hx,-⟩:=dC (Cc h) dE;have hM:(kI mo).length<=12:=by
  have:=@alZ mo 12;unfold kI;cases ae mo []<;>cases aa (aR mo) 0<;>simp<;>omega
 have hD:(sd da).length<=31:=by
  have:=@alZ da 31;unfold sd;cases ae da []<;>simp<;>omega
 have hY:∀y,(an7 mo da y).length<=372:=λy=>by
  rw[aa6];have:=@aaA (UY da (sd da) y) 31 (λm=>by unfold UY;have:=List.length_filter_le (λd=>ab d (kN y m da)) (sd da);omega) (kI mo);unfold VE;omega
 have hK:∀k,(an6 ng s e mo da k).length<=372:=λk=>by
  have:=hY k;unfold an6;cases mP ng s e k<;>simp<;>omega
 have hn:Zi ng s e+1-jR ng s e<=20000:=by
  unfold jR Zi;cases hX:Nat.beq (dT s 88 88) 0 with
  | true=>rw[cond_true,cond_true];omega
  | false=>
    rw[cond_false,cond_false];obtain⟨c0,c1,c2,c3,rfl,h0,h1,h2,h3⟩:=sV hx hX;have a:=G7 (x:=48) ζ h0 h1 h2 h3;have b:=G7 (x:=57) ζ h0 h1 h2 h3;grind [nT,Fd]
 have:=@ad2 _ 372 hK (Zi ng s e+1-jR ng s e).toNat (jR ng s e);unfold Yh;omega
noncomputable def TMy:aQ:=aK (aK (aK gZ 112 ac2) 97 Sf) 113 aq9
theorem YF:ak Tryz.prog cfg TMy:=apW (RG (aiC aW))
def wr(n:Int):Int:=IntKind.wrap .i64 n
def mnU(b d p:Int):Int:=wr (wr (aad (CK d p) p-aad (CK b p) p)+1)
def mnN(k:Int)(x:Da)(p a b c d:Int):Int:=bif aa k 1 then 1 else bif aa k 2 then Ya x.ng x.s x.e x.mo x.da else bif aa k 3&&(aa a 0&&aa c 0)then mnU b d p else 0
def mnB(k a c:Int):Bool:=!(aa k 1 || aa k 2 || (aa k 3&&(aa a 0&&aa c 0)))
def ark(p b d:Int):List Bool:=[af .i64 b,ab 1 p&&ab p 3,lT b p,af .i64 d,ab 1 p&&ab p 3,lT d p,af .i64 (CK b p),af .i64 (PU b p),ab 1 p,ab p 3,lT (CK b p) p,aa (CK (CK b p) p) (CK b p),aa (PU (CK b p) p) (PU b p),af .i64 (CK d p),af .i64 (PU d p),ab 1 p,ab p 3,lT (CK d p) p,aa (CK (CK d p) p) (CK d p),aa (PU (CK d p) p) (PU d p)]
def fkR(n:Int)(X:Int->Prop):Prop:=fk (af .i64 n) (X n) (X (wr n))
theorem YU{n:Int}{X:Int->Prop}(h:X (wr n)):fkR n X:=by
 refine⟨λhr=>?_,λ_=>h⟩;rw[aE]at hr;have e:wr n=n:=Bx .i64 n hr.1 hr.2
 rwa [e]at h
section
variable(x:Da)(p a b c d:Int)(R:List Rn)(n:Nat)(K:fg){Q:AV->Prop}
theorem bM1(z:Bool):gG Q (pW TMy jE (UO z R) 60 [.g (eb 1 (Th z n K) x p a b c d)]) (bE 100)=Q (.d [.a .i64 1,.b false]):=by cases z<;>kernel_rfl
theorem bM2(z:Bool):gG Q (pW TMy jE (UO z R) 60 [.g (eb 2 (Th z n K) x p a b c d)]) (bE 12777056)=XK [ν x.s.length 1000,ν x.mo.length 1000,ν x.da.length 1000,af .i64 x.e,aa x.g 0,af .u8 x.a,af .u8 x.b,af .u8 x.c,aa (bW x.ng x.lg x.s x.e x.g x.mo x.da x.a x.b x.c) 0,ν (Yh x.ng x.s x.e x.mo x.da).length 10000000] (Q (.d [.a .i64 (Ya x.ng x.s x.e x.mo x.da),.b false])):=by cases z<;>kernel_rfl
theorem bM3(z:Bool):gG Q (pW TMy jE (UO z R) 60 [.g (eb 3 (Th z n K) x p a b c d)]) (bE 103381114114427755277675700042207405)=vZ 5 5 (aa a 0) (fk (aa c 0) (XK (ark p b d) (fkR (Int.sub (aad (CK d p) p) (aad (CK b p) p)) λm=>fkR (Int.add m 1) λm=>Q (.d [.a .i64 m,.b false]))) (Q (.d [.a .i64 0,.b true]))) (Q (.d [.a .i64 0,.b true])):=by cases z<;>kernel_rfl
theorem bM4(z:Bool):gG Q (pW TMy jE (UO z R) 60 [.g (eb 4 (Th z n K) x p a b c d)]) (bE 15)=Q (.d [.a .i64 0,.b true]):=by cases z<;>kernel_rfl
theorem bM5(z:Bool):gG Q (pW TMy jE (UO z R) 60 [.g (eb 5 (Th z n K) x p a b c d)]) (bE 15)=Q (.d [.a .i64 0,.b true]):=by cases z<;>kernel_rfl
end
theorem YM:aY tab 60=some (dH 60,aL 60):=κ
theorem x8:∀o∈UO z R,cR 14 o:=by
 cases z
 . nofun
 . exact jz
theorem aff{d p:Int}(hp:1<=p/\p<=3)(ok:lT d p)(hd:af .i64 d):af .i64 (CK d p)/\af .i64 (PU d p)=true:=by
 have hp:p=1\/p=2\/p=3:=δ
 rcases hp with rfl|rfl|rfl
 . have cb:=lO (Yu ok (.inl rfl));rw[aE,aE];simp only[eH,eE];show(_<=bf (aN d)/\bf (aN d)<=_)/\_<=bf (aN d)+364+iE (aN d)/\bf (aN d)+364+iE (aN d)<=_;omega
 . have cb:=lO (Yu ok (.inr rfl));rw[aE,aE];simp only[eH,eE];show(_<=aG (aN d) (bZ d)/\aG (aN d) (bZ d)<=_)/\_<=aG (aN d) (bZ d)+d6 (aN d) (bZ d)-1/\aG (aN d) (bZ d)+d6 (aN d) (bZ d)-1<=_;omega
 . exact⟨hd,hd⟩
theorem aon{p d:Int}(hp:1<=p/\p<=3)(hb:af .i64 b)(hd:af .i64 d)(ob:lT b p)(od:lT d p):Tk (ark p b d):=by
 obtain⟨b1,b2,b3,-⟩:=ZI hp ob;obtain⟨d1,d2,d3,-⟩:=ZI hp od;obtain⟨b4,b5⟩:=aff hp ob hb;obtain⟨d4,d5⟩:=aff hp od hd;have p1:ab 1 p=true:=aq.mpr hp.1;have p3:ab p 3=true:=aq.mpr hp.2;have pp:(ab 1 p&&ab p 3)=true:=by rw[p1,p3];rfl
 exact⟨hb,pp,ob,hd,pp,od,b4,b5,p1,p3,b1,ao.mpr b2,ao.mpr b3,d4,d5,p1,p3,d1,ao.mpr d2,ao.mpr d3,trivial⟩
theorem acN{p d:Int}(h:K2 k R x p a b c d=0):k=1\/(k=2/\UI x=0/\x.g=0)\/(k=3/\(1<=p/\p<=3)/\i6 a b c d p=true)\/k=4\/k=5:=by
 unfold K2 iT at h
 (repeat' split at h)<;>first|omega|(simp_all;done)|grind
theorem fMn{p d:Int}(gx:rM x)(gp:Zf p a b c d)(h0:K2 k R x p a b c d=0):bu Tryz.prog cfg 60 [.g (eb k (Th z R.length K) x p a b c d)] (UO z R) (.d [.a .i64 (mnN k x p a b c d),.b (mnB k a c)]) []:=by
 rcases acN h0 with rfl|⟨rfl,e0,g0⟩|⟨rfl,hp,hf⟩|rfl|rfl
 . exact P0 YF (L:=jE) x8 YM θ ai (bb λQ' hQ=>cg ((bM1 x p a b c d R _ K z).mpr (hQ _ rfl))) κ
 . refine P0 YF (L:=jE) x8 YM θ ai (bb λQ' hQ=>cg ((bM2 x p a b c d R _ K z).mpr (rR (hQ _ rfl) ?_))) κ;obtain⟨l1,l2,l3⟩:=aej (Vd gx e0);unfold rM at gx;simp only[zAa]at gx;exact⟨l1,l2,l3,gx.2.2.2.1,ao.mpr g0,gx.2.2.2.2.2.1,gx.2.2.2.2.2.2.1,gx.2.2.2.2.2.2.2,ao.mpr e0,al.mpr (aqr e0),trivial⟩
 . refine P0 YF (L:=jE) x8 YM θ ai (bb λQ' hQ=>cg ((bM3 x p a b c d R _ K z).mpr ?_)) κ;have hQ:=hQ _ rfl;unfold mnN mnB at hQ;unfold Zf at gp;simp only[zAa]at gp;have fin:aa a 0->aa c 0->Tk (ark p b d):=λha hc=>by
    unfold i6 at hf;rw[ha,hc]at hf;simp only[Bool.not_true,Bool.false_or,zAa]at hf;exact aon hp gp.2.2.1 gp.2.2.2.2 hf.2.2.1.1 hf.2.2.2.1
   cases ha:aa a 0<;>rw[ha]at hQ
   . exact⟨nofun,λ_=>⟨rfl,rfl,rfl,rfl,rfl,hQ⟩⟩
   . refine⟨λ_=>⟨rfl,rfl,rfl,rfl,rfl,?_⟩,nofun⟩;cases hc:aa c 0<;>rw[hc]at hQ
     . exact⟨nofun,λ_=>hQ⟩
     . exact⟨λ_=>rR (YU (YU hQ)) (fin ha hc),nofun⟩
 . exact P0 YF (L:=jE) x8 YM θ ai (bb λQ' hQ=>cg ((bM4 x p a b c d R _ K z).mpr (hQ _ rfl))) κ
 . exact P0 YF (L:=jE) x8 YM θ ai (bb λQ' hQ=>cg ((bM5 x p a b c d R _ K z).mpr (hQ _ rfl))) κ
def TMa(ok:qp)(e N:Int)(B:Bool):aQ:=eQ (eQ gZ 10 (vv ok 10 (λ_=>.a .i64 e) [])) 60 (vv ok 60 (λ_=>.d [.a .i64 N,.b B]) [])
theorem apM{e N:Int}{B:Bool}:ak Tryz.prog cfg (TMa (okC Tryz.prog cfg) e N B):=bm (bm aW sf) sf
def t3(n:Int)(b:Bool)(e:Int):AV:=.d [.a .i64 n,.b b,.a .i64 e]
def tMa(N:Int)(B:Bool)(Q:AV->Prop):Prop:=vZ 2 3 (not (not (ab 0 N))) (fk (aa N 0) (aa N 0/\not (not (ab 0 N))/\aa N 0/\not (ab 0 N)=false/\fk (not B) (Q (t3 0 false 15)) (Q (t3 N B 0))) (aa N 0=false/\not (not (ab 0 N))/\aa N 0=false/\not (ab 0 N)=false/\Q (t3 N B 0))) (not (ab 0 N)/\Q (t3 0 false 15))
def oM(k:Int)(z:Bool)(n:Nat)(K:fg)(x:Da)(p a b c d:Int):aB:=oE (eb k (Th z n K) x p a b c d)
theorem bMa(ok:qp)(e N:Int)(B:Bool)(k:Int)(x:Da)(p a b c d:Int)(R:List Rn)(n:Nat)(K:fg){Q:AV->Prop}(z:Bool):gG Q (pW (TMa ok e N B) jE (UO z R) 15 [.g (eb k (Th z n K) x p a b c d)]) (bE 102300331033231143742242556142556)=(ok 10 (Cw cfg (UO z R)) [.g (eb k (Th z n K) x p a b c d)] (oM k z n K x p a b c d) (.a .i64 e,oM k z n K x p a b c d)/\fk (not (aa e 0)) (Q (t3 0 false e)) (ok 60 (Cw cfg (UO z R)) [.g (eb k (Th z n K) x p a b c d)] (oM k z n K x p a b c d) (.d [.a .i64 N,.b B],oM k z n K x p a b c d)/\tMa N B Q)):=by cases z<;>kernel_rfl
theorem Ww{f:Nat}{args args':List AV}{szs:List Nat}{q:Aq}{o:aB}(hcan:nC (nX 14 C o 20) args ⟨szs,[],true⟩=some (args',q))(hq:q.ok)(hv:∀ρ,kG 14 ρ 20 v=some v)(h:bu Tryz.prog cfg f args' q.ws v []):rL Tryz.prog cfg f C args o (v,o):=by
 have:=abR (news':=[]) gR.lv Az hcan hq h (hv _) rfl λj hj=>absurd hj (Nat.not_lt_zero j);simp_all
theorem acA{f:Nat}{p d:Int}{o:aB}{xs:List AV}(hx:∀q,nC (nX 14 C o 20) xs q=some (xs,q))(hg:z->get C o 14=.a (bh R) false none)(hv:∀ρ,kG 14 ρ 20 v=some v)(h:∀K,bu Tryz.prog cfg f (.g (eb k (Th z R.length K) x p a b c d)::xs) (UO z R) v []):rL Tryz.prog cfg f C (.g (eb k (Th z R.length K) x p a b c d)::xs) o (v,o):=by
 cases z
 . have hc:nC (nX 14 C o 20) (.g (eb k .f x p a b c d)::xs) ⟨[],[],true⟩=some (.g (eb k .f x p a b c d)::xs,⟨[],[],true⟩):=by
    have hn:∀q,nX 14 C o 19 .f q=some (.f,q):=λ_=>rfl;simp only[nC,agd,hn,ob,hx]
   exact Ww hc rfl hv (h K)
 . have hc:nC (nX 14 C o 20) (.g (eb k (.c 14 0 R.length K) x p a b c d)::xs) ⟨[4],[],true⟩=some (.g (eb k (.c 14 0 R.length (xe K)) x p a b c d)::xs,⟨[],[.a (bh R) false none],true⟩):=by
    simp only[nC,agd,ac4 (hg rfl) kC ma,ob,hx,List.length_nil,Nat.add_zero,List.nil_append]
   exact Ww hc rfl hv (h (xe K))
theorem ap4:aY tab 15=some (dH 15,aL 15):=κ
def mnE(N:Int)(B:Bool):AV:=bif not (ab 0 N) || (aa N 0&&not B)then t3 0 false 15 else t3 N B 0
def mnV(k:Int)(R:List Rn)(x:Da)(p a b c d:Int):AV:=bif not (aa (K2 k R x p a b c d) 0)then t3 0 false (K2 k R x p a b c d)else mnE (mnN k x p a b c d) (mnB k a c)
theorem are{N:Int}{B:Bool}{Q:AV->Prop}(h:Q (mnE N B)):tMa N B Q:=by
 unfold mnE at h;cases hl:ab 0 N<;>cases h0:aa N 0<;>cases B<;>simp_all [tMa,vZ,fk,rp]
theorem aqB{p d:Int}(hz:z=false->R=[])(hR:Nx R)(hn:R.length<=1000)(gx:rM x)(gp:Zf p a b c d):bu Tryz.prog cfg 10 [.g (eb k (Th z R.length K) x p a b c d)] (UO z R) (.a .i64 (K2 k R x p a b c d)) []:=by
 obtain⟨⟨g1,g2,g3⟩,g4,g5,g6,g7,g8⟩:=aeS gx;obtain⟨i1,i2,i3,i4,i5⟩:=ae1 gp;cases z
 . cases hz rfl;exact ar6 g1 g2 g3 g4 g5 i3 i5 i2 i4 g6 g7 g8 i1
 . exact ar7 hR hn g1 g2 g3 g4 g5 i3 i5 i2 i4 g6 g7 g8 i1
theorem alN{E:List AV}(h:z):get (Cw cfg (UO z R)) (oE E) 14=.a (bh R) false none:=by
 subst h;rfl
theorem fMa{p d:Int}(hz:z=false->R=[])(hR:Nx R)(hn:R.length<=1000)(gx:rM x)(gp:Zf p a b c d):bu Tryz.prog cfg 15 [.g (eb k (Th z R.length K) x p a b c d)] (UO z R) (mnV k R x p a b c d) []:=by
 have hi:aC (mnV k R x p a b c d)=[]:=by
  unfold mnV mnE;cases aa (K2 k R x p a b c d) 0<;>cases(not (ab 0 (mnN k x p a b c d)) || (aa (mnN k x p a b c d) 0&&not (mnB k a c)))<;>rfl
 refine P0 (apM (e:=K2 k R x p a b c d) (N:=mnN k x p a b c d) (B:=mnB k a c)) (L:=jE) x8 ap4 θ ai (bb λQ' hQ=>cg ((bMa (okC Tryz.prog cfg) _ _ _ k x p a b c d R _ K z).mpr ⟨aa3.2 (acA (λ_=>rfl) alN (λ_=>rfl) λK=>aqB hz hR hn gx gp),λe=>?_,λe=>?_⟩)) hi
 . have hQ:=hQ _ rfl;unfold mnV at hQ;rw[e]at hQ;exact hQ
 . have hQ:=hQ _ rfl;unfold mnV at hQ;rw[e]at hQ;rw[Bool.not_eq_false',ao]at e;exact⟨aa3.2 (acA (λ_=>rfl) alN (λ_=>rfl) λK=>fMn gx gp e),are hQ⟩
end Go.Ev
