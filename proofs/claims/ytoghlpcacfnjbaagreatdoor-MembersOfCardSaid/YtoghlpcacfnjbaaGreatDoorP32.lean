import Derived.ChangeArms
import Derived.OpenShut
import Derived.Lib.LaidTab
import Derived.LaidLaws
import Derived.DataReads
import Derived.Test.YtoghlpcacfnjbaaGreatDoorP31
set_option linter.all false
set_option maxRecDepth 100000
set_option maxHeartbeats 4000000
namespace Go.Ev
open Go Go.Proofs
variable{y b c d kd:Int}{S:aR}
def P20:aR:=fw (aY (aY (aY (oC gX 45 O2) 47 SW) 48 Yv) 49 Ya) 46 (fy 14 [4] XH)
theorem jO:ak Tryz.prog cfg P20:=UH (TH (Vh (Gy (d7 aV DH))))
theorem YM{ng lg:Bool}{s:List UInt8}{e g:Int}{mo da:List UInt8}{x z p a:Int}{R:List Rn}{K:eZ}(hR:MW R)(hn:R.length<=1000)(hs:s.length<=1000)(hm:mo.length<=1000)(hda:da.length<=1000)(he : -9223372036854775808<=e/\e<=9223372036854775807)(hg : -9223372036854775808<=g/\g<=9223372036854775807)(hb : -9223372036854775808<=b/\b<=9223372036854775807)(hd : -9223372036854775808<=d/\d<=9223372036854775807)(ha : -128<=a/\a<=127)(hc : -128<=c/\c<=127)(hx:0<=x/\x<=255)(hy:0<=y/\y<=255)(hz:0<=z/\z<=255)(hp:0<=p/\p<=255):bt Tryz.prog cfg 19 [.agg [.int .u8 kd,.slice 14 0 R.length K,.bool ng,.bool lg,.str s,.int .i64 e,.int .i64 g,.str mo,.str da,.int .u8 x,.int .u8 y,.int .u8 z,.int .u8 p,.int .i8 a,.int .i64 b,.int .i8 c,.int .i64 d]] [.cells (bB R) false none] (.int .i64 (cA kd R.length (ip R) (dZ ng lg s e g mo da x y z) p (sZ a b c d) (bJ ng lg s e g mo da x y z) g (ba (s++mo++da)) (mZ x y z) (cJ a b c d p) (a_ a b c d) a c)) []:=by
 have hk:¬(1<=kd/\kd<=5)\/kd=1\/kd=2\/kd=3\/kd=4\/kd=5:=by omega
 rcases hk with hk|rfl|rfl|rfl|rfl|rfl
 . refine pK jO jk ag (bA 1023312320240) (R:=λQ=>(λ(B:Bool)(E:Prop)=>(λ(A:Bool)=>(λ(C:Prop)=>(A->A/\A/\B=false/\not (ab kd 5)/\E)/\(C->C/\C/\B/\E)) (A=false)) (not B)) (not (ab 1 kd)) (Q (.int .i64 18))) (λ_=>by kernel_rfl) λQ' hQ=>?_;try dsimp only
   have fin:∀v,cA kd R.length (ip R) (dZ ng lg s e g mo da x y z) p (sZ a b c d) (bJ ng lg s e g mo da x y z) g (ba (s++mo++da)) (mZ x y z) (cJ a b c d p) (a_ a b c d) a c=v->Q' (.int .i64 v):=λv h=>hQ _ (by rw[h]);clear hQ;have fin:=fin 18 (by unfold cA;grind);simp only[az,reduceCtorEq]
   (repeat' first|exact trivial|refine⟨?_,?_⟩|intro)<;>first|contradiction|omega|assumption
 . refine pK jO jk ag (bA 100031031111244401400051424240056666) (R:=λQ=>(λ(A B F G:Bool)(H:Nat)(C:Prop)=>(λ(E:List AV)(I N:Prop)=>(λ(O P:Bool)=>(A->A/\(B->B/\(F->C)/\(F=false->(G->Q (.int .i64 17))/\(G=false->(O->(eQ E->(P->Nat.ble R.length 1000/\Q (.int .i64 (ip (jD E))))/\(P=false->False))/\(eQ E=false->False))/\(O=false->False))))/\(I->I/\C))/\(N->N/\C)) (and true (and (Nat.ble (HAdd.hAdd 0 H) (bB R).length) (bw 14 E))) (Nat.beq (List.length (jD E)) R.length)) (cN (bB R) 0 H) (B=false) (A=false)) (and (and (bW ng false) (and (bW lg false) (and (af s []) (and (aa e 0) (and (aa g 0) true))))) (and (af mo []) (and (af da []) (and (and (aa x 0) (and (aa y 0) (and (aa z 0) true))) true)))) (aa p 0) (not (and (and (aa a 0) (and (aa b 0) true)) (and (and (aa c 0) (and (aa d 0) true)) true))) (aa (Int.ofNat R.length) 0) (HMul.hMul R.length 4) (Q (.int .i64 5))) (λ_=>by kernel_rfl) λQ' hQ=>?_;try dsimp only
   have fin:∀v,cA 1 R.length (ip R) (dZ ng lg s e g mo da x y z) p (sZ a b c d) (bJ ng lg s e g mo da x y z) g (ba (s++mo++da)) (mZ x y z) (cJ a b c d p) (a_ a b c d) a c=v->Q' (.int .i64 v):=λv h=>hQ _ (by rw[h]);clear hQ;try simp only[pP]
   try simp only[pS]
   try simp only[pZ]
   have bl:Nat.ble (R.length*4) (R.length*4)=true:=aq.mpr (Nat.le_refl _);have ir:=tE hR;simp only[lZ,jn,ib,kn,Nat.zero_add,bl,ir,Bool.and_true,Bool.true_and];generalize ip R=ch at *;unfold cA at fin;generalize dZ ng lg s e g mo da x y z=dz at *;generalize sZ a b c d=sz at *;generalize mZ x y z=mz at *;generalize ba (s++mo++da)=xb at *;generalize bJ ng lg s e g mo da x y z=ef at *;generalize cJ a b c d p=ft at *;generalize a_ a b c d=rk at *;simp only[az,reduceCtorEq]
   (repeat' first|exact trivial|refine⟨?_,?_⟩|intro)<;>first|contradiction|omega|assumption|(apply fin;grind)|(exfalso;grind)|grind
 . refine pK jO jk ag (bA 100031031000581033811470002242702062401422776614242400056666) (R:=λQ=>(λ(A C F G N O P T V:Bool)(U:Int)(H I:Prop)=>(λ(W:Bool)(B E Y Z:Prop)=>(F->F/\(G->G/\(N->H)/\(N=false->O/\P/\T/\ae .i64 e/\ae .i64 g/\ae .u8 x/\ae .u8 y/\ae .u8 z/\(W->Q (.int .i64 U))/\(W=false->(C->C/\C/\O/\P/\T/\C/\(A->A/\A/\A/\A/\A/\(V->I)/\(V=false->Q (.int .i64 0)))/\(B->B/\B/\B/\B/\B/\I))/\(E->E/\E/\E/\I))))/\(Y->Y/\H))/\(Z->Z/\H)) (not (aa U 0)) (A=false) (C=false) (G=false) (F=false)) (ba ((s++mo)++da)) (aa g 0) (aa (Int.ofNat R.length) 0) (aa p 0) (not (and (and (aa a 0) (and (aa b 0) true)) (and (and (aa c 0) (and (aa d 0) true)) true))) (Nat.ble s.length 1000) (Nat.ble mo.length 1000) (Nat.ble da.length 1000) (not (and (aa x 0) (and (aa y 0) (and (aa z 0) true)))) (bJ ng lg s e g mo da x y z) (Q (.int .i64 5)) (Q (.int .i64 1))) (λ_=>by kernel_rfl) λQ' hQ=>?_;try dsimp only
   have fin:∀v,cA 2 R.length (ip R) (dZ ng lg s e g mo da x y z) p (sZ a b c d) (bJ ng lg s e g mo da x y z) g (ba (s++mo++da)) (mZ x y z) (cJ a b c d p) (a_ a b c d) a c=v->Q' (.int .i64 v):=λv h=>hQ _ (by rw[h]);clear hQ;try simp only[pP]
   try simp only[pS]
   try simp only[pZ]
   unfold cA at fin;generalize dZ ng lg s e g mo da x y z=dz at *;generalize sZ a b c d=sz at *;generalize mZ x y z=mz at *;generalize ba (s++mo++da)=xb at *;generalize bJ ng lg s e g mo da x y z=ef at *;generalize cJ a b c d p=ft at *;generalize a_ a b c d=rk at *;simp only[az,reduceCtorEq]
   (repeat' first|exact trivial|refine⟨?_,?_⟩|intro)<;>first|contradiction|omega|assumption|(apply fin;grind)|(exfalso;grind)|grind
 . refine pK jO jk ag (bA 1031023311477005143202461424556666) (R:=λQ=>(λ(B C F H N:Bool)(G I:Prop)=>(λ(A:Bool)(O:Prop)=>(λ(E:Prop)=>(B->B/\(F->G)/\(F=false->(A->A/\A/\C=false/\(H->I)/\(H=false->ae .i8 a/\ae .i64 b/\ae .i8 c/\ae .i64 d/\ab 1 p/\ab p 3/\(N->Q (.int .i64 1))/\(N=false->Q (.int .i64 0))))/\(E->E/\E/\C/\I)))/\(O->O/\G)) (A=false)) (not C) (B=false)) (aa (Int.ofNat R.length) 0) (not (ab 1 p)) (not (and (and (bW ng false) (and (bW lg false) (and (af s []) (and (aa e 0) (and (aa g 0) true))))) (and (af mo []) (and (af da []) (and (and (aa x 0) (and (aa y 0) (and (aa z 0) true))) true))))) (not (ab p 3)) (not (cJ a b c d p)) (Q (.int .i64 5)) (Q (.int .i64 18))) (λ_=>by kernel_rfl) λQ' hQ=>?_;try dsimp only
   have fin:∀v,cA 3 R.length (ip R) (dZ ng lg s e g mo da x y z) p (sZ a b c d) (bJ ng lg s e g mo da x y z) g (ba (s++mo++da)) (mZ x y z) (cJ a b c d p) (a_ a b c d) a c=v->Q' (.int .i64 v):=λv h=>hQ _ (by rw[h]);clear hQ;try simp only[pP]
   try simp only[pS]
   try simp only[pZ]
   unfold cA at fin;generalize dZ ng lg s e g mo da x y z=dz at *;generalize sZ a b c d=sz at *;generalize mZ x y z=mz at *;generalize ba (s++mo++da)=xb at *;generalize bJ ng lg s e g mo da x y z=ef at *;generalize cJ a b c d p=ft at *;generalize a_ a b c d=rk at *;simp only[az,reduceCtorEq]
   (repeat' first|exact trivial|refine⟨?_,?_⟩|intro)<;>first|contradiction|omega|assumption|(apply fin;grind)|(exfalso;grind)|grind
 . refine pK jO jk ag (bA 10003103100053381033811422074220746142424556666) (R:=λQ=>(λ(A B F G N O:Bool)(H I:Prop)=>(λ(C E P T:Prop)=>(F->F/\(G->G/\(N->H)/\(N=false->(A->A/\A/\A/\A/\A/\(B->B/\B/\B/\B/\B/\(O->I)/\(O=false->Q (.int .i64 0)))/\(C->C/\C/\C/\C/\C/\I))/\(E->E/\E/\E/\E/\E/\I)))/\(P->P/\H))/\(T->T/\H)) (B=false) (A=false) (G=false) (F=false)) (aa (a_ a b c d) 0) (aa a (Neg.neg 1)) (aa (Int.ofNat R.length) 0) (and (and (bW ng false) (and (bW lg false) (and (af s []) (and (aa e 0) (and (aa g 0) true))))) (and (af mo []) (and (af da []) (and (and (aa x 0) (and (aa y 0) (and (aa z 0) true))) true)))) (not (aa p 0)) (not (aa c 0)) (Q (.int .i64 5)) (Q (.int .i64 1))) (λ_=>by kernel_rfl) λQ' hQ=>?_;try dsimp only
   have fin:∀v,cA 4 R.length (ip R) (dZ ng lg s e g mo da x y z) p (sZ a b c d) (bJ ng lg s e g mo da x y z) g (ba (s++mo++da)) (mZ x y z) (cJ a b c d p) (a_ a b c d) a c=v->Q' (.int .i64 v):=λv h=>hQ _ (by rw[h]);clear hQ;try simp only[pP]
   try simp only[pS]
   try simp only[pZ]
   unfold cA at fin;generalize dZ ng lg s e g mo da x y z=dz at *;generalize sZ a b c d=sz at *;generalize mZ x y z=mz at *;generalize ba (s++mo++da)=xb at *;generalize bJ ng lg s e g mo da x y z=ef at *;generalize cJ a b c d p=ft at *;generalize a_ a b c d=rk at *;simp only[az,reduceCtorEq]
   (repeat' first|exact trivial|refine⟨?_,?_⟩|intro)<;>first|contradiction|omega|assumption|(apply fin;grind)|(exfalso;grind)|grind
 . refine pK jO jk ag (bA 100031031000533810338114220742207406142424556666) (R:=λQ=>(λ(A B F G N O:Bool)(H I:Prop)=>(λ(C E P T:Prop)=>(F->F/\(G->G/\(N->H)/\(N=false->(A->A/\A/\A/\A/\A/\(B->B/\B/\B/\B/\B/\(O->I)/\(O=false->Q (.int .i64 0)))/\(C->C/\C/\C/\C/\C/\I))/\(E->E/\E/\E/\E/\E/\I)))/\(P->P/\H))/\(T->T/\H)) (B=false) (A=false) (G=false) (F=false)) (aa (a_ a b c d) 0) (aa a 0) (aa (Int.ofNat R.length) 0) (and (and (bW ng false) (and (bW lg false) (and (af s []) (and (aa e 0) (and (aa g 0) true))))) (and (af mo []) (and (af da []) (and (and (aa x 0) (and (aa y 0) (and (aa z 0) true))) true)))) (not (aa p 0)) (not (aa c 1)) (Q (.int .i64 5)) (Q (.int .i64 1))) (λ_=>by kernel_rfl) λQ' hQ=>?_;try dsimp only
   have fin:∀v,cA 5 R.length (ip R) (dZ ng lg s e g mo da x y z) p (sZ a b c d) (bJ ng lg s e g mo da x y z) g (ba (s++mo++da)) (mZ x y z) (cJ a b c d p) (a_ a b c d) a c=v->Q' (.int .i64 v):=λv h=>hQ _ (by rw[h]);clear hQ;try simp only[pP]
   try simp only[pS]
   try simp only[pZ]
   unfold cA at fin;generalize dZ ng lg s e g mo da x y z=dz at *;generalize sZ a b c d=sz at *;generalize mZ x y z=mz at *;generalize ba (s++mo++da)=xb at *;generalize bJ ng lg s e g mo da x y z=ef at *;generalize cJ a b c d p=ft at *;generalize a_ a b c d=rk at *;simp only[az,reduceCtorEq]
   (repeat' first|exact trivial|refine⟨?_,?_⟩|intro)<;>first|contradiction|omega|assumption|(apply fin;grind)|(exfalso;grind)|grind
theorem YP{ng lg:Bool}{s:List UInt8}{e g:Int}{mo da:List UInt8}{x z p a:Int}(hs:s.length<=1000)(hm:mo.length<=1000)(hda:da.length<=1000)(he : -9223372036854775808<=e/\e<=9223372036854775807)(hg : -9223372036854775808<=g/\g<=9223372036854775807)(hb : -9223372036854775808<=b/\b<=9223372036854775807)(hd : -9223372036854775808<=d/\d<=9223372036854775807)(ha : -128<=a/\a<=127)(hc : -128<=c/\c<=127)(hx:0<=x/\x<=255)(hy:0<=y/\y<=255)(hz:0<=z/\z<=255)(hp:0<=p/\p<=255):bt Tryz.prog cfg 19 [.agg [.int .u8 kd,.nilslice,.bool ng,.bool lg,.str s,.int .i64 e,.int .i64 g,.str mo,.str da,.int .u8 x,.int .u8 y,.int .u8 z,.int .u8 p,.int .i8 a,.int .i64 b,.int .i8 c,.int .i64 d]] [] (.int .i64 (cA kd 0 0 (dZ ng lg s e g mo da x y z) p (sZ a b c d) (bJ ng lg s e g mo da x y z) g (ba (s++mo++da)) (mZ x y z) (cJ a b c d p) (a_ a b c d) a c)) []:=by
 have hk:¬(1<=kd/\kd<=5)\/kd=1\/kd=2\/kd=3\/kd=4\/kd=5:=by omega
 rcases hk with hk|rfl|rfl|rfl|rfl|rfl
 . refine pK jO (λx hx=>by cases hx) ag (bA 1023312320240) (R:=λQ=>(λ(B:Bool)(E:Prop)=>(λ(A:Bool)=>(λ(C:Prop)=>(A->A/\A/\B=false/\not (ab kd 5)/\E)/\(C->C/\C/\B/\E)) (A=false)) (not B)) (not (ab 1 kd)) (Q (.int .i64 18))) (λ_=>by kernel_rfl) λQ' hQ=>?_;try dsimp only
   have fin:∀v,cA kd 0 0 (dZ ng lg s e g mo da x y z) p (sZ a b c d) (bJ ng lg s e g mo da x y z) g (ba (s++mo++da)) (mZ x y z) (cJ a b c d p) (a_ a b c d) a c=v->Q' (.int .i64 v):=λv h=>hQ _ (by rw[h]);clear hQ;have fin:=fin 18 (by unfold cA;grind);simp only[az,reduceCtorEq]
   (repeat' first|exact trivial|refine⟨?_,?_⟩|intro)<;>first|contradiction|omega|assumption
 . refine pK jO (λx hx=>by cases hx) ag (bA 100031031551424240056666) (R:=λQ=>(λ(A B E:Bool)(C:Prop)=>(λ(F G:Prop)=>(A->A/\(B->B/\(E->C)/\(E=false->Q (.int .i64 17)))/\(F->F/\C))/\(G->G/\C)) (B=false) (A=false)) (and (and (bW ng false) (and (bW lg false) (and (af s []) (and (aa e 0) (and (aa g 0) true))))) (and (af mo []) (and (af da []) (and (and (aa x 0) (and (aa y 0) (and (aa z 0) true))) true)))) (aa p 0) (not (and (and (aa a 0) (and (aa b 0) true)) (and (and (aa c 0) (and (aa d 0) true)) true))) (Q (.int .i64 5))) (λ_=>by kernel_rfl) λQ' hQ=>?_;try dsimp only
   have fin:∀v,cA 1 0 0 (dZ ng lg s e g mo da x y z) p (sZ a b c d) (bJ ng lg s e g mo da x y z) g (ba (s++mo++da)) (mZ x y z) (cJ a b c d p) (a_ a b c d) a c=v->Q' (.int .i64 v):=λv h=>hQ _ (by rw[h]);clear hQ;try simp only[pP]
   try simp only[pS]
   try simp only[pZ]
   unfold cA at fin;generalize dZ ng lg s e g mo da x y z=dz at *;generalize sZ a b c d=sz at *;generalize mZ x y z=mz at *;generalize ba (s++mo++da)=xb at *;generalize bJ ng lg s e g mo da x y z=ef at *;generalize cJ a b c d p=ft at *;generalize a_ a b c d=rk at *;simp only[az,reduceCtorEq]
   (repeat' first|exact trivial|refine⟨?_,?_⟩|intro)<;>first|contradiction|omega|assumption|(apply fin;grind)|(exfalso;grind)|grind
 . refine pK jO (λx hx=>by cases hx) ag (bA 10310005810338114700022427020624014227766142466666) (R:=λQ=>(λ(A C F H N O P U:Bool)(T:Int)(G I:Prop)=>(λ(V:Bool)(B E W:Prop)=>(F->F/\(H->I)/\(H=false->N/\O/\P/\ae .i64 e/\ae .i64 g/\ae .u8 x/\ae .u8 y/\ae .u8 z/\(V->Q (.int .i64 T))/\(V=false->(C->C/\C/\N/\O/\P/\C/\(A->A/\A/\A/\A/\A/\(U->G)/\(U=false->Q (.int .i64 0)))/\(B->B/\B/\B/\B/\B/\G))/\(E->E/\E/\E/\G))))/\(W->W/\I)) (not (aa T 0)) (A=false) (C=false) (F=false)) (ba ((s++mo)++da)) (aa g 0) (aa p 0) (not (and (and (aa a 0) (and (aa b 0) true)) (and (and (aa c 0) (and (aa d 0) true)) true))) (Nat.ble s.length 1000) (Nat.ble mo.length 1000) (Nat.ble da.length 1000) (not (and (aa x 0) (and (aa y 0) (and (aa z 0) true)))) (bJ ng lg s e g mo da x y z) (Q (.int .i64 1)) (Q (.int .i64 5))) (λ_=>by kernel_rfl) λQ' hQ=>?_;try dsimp only
   have fin:∀v,cA 2 0 0 (dZ ng lg s e g mo da x y z) p (sZ a b c d) (bJ ng lg s e g mo da x y z) g (ba (s++mo++da)) (mZ x y z) (cJ a b c d p) (a_ a b c d) a c=v->Q' (.int .i64 v):=λv h=>hQ _ (by rw[h]);clear hQ;try simp only[pP]
   try simp only[pS]
   try simp only[pZ]
   unfold cA at fin;generalize dZ ng lg s e g mo da x y z=dz at *;generalize sZ a b c d=sz at *;generalize mZ x y z=mz at *;generalize ba (s++mo++da)=xb at *;generalize bJ ng lg s e g mo da x y z=ef at *;generalize cJ a b c d p=ft at *;generalize a_ a b c d=rk at *;simp only[az,reduceCtorEq]
   (repeat' first|exact trivial|refine⟨?_,?_⟩|intro)<;>first|contradiction|omega|assumption|(apply fin;grind)|(exfalso;grind)|grind
 . refine pK jO (λx hx=>by cases hx) ag (bA 10233114770051432024614066666) (R:=λQ=>(λ(B E F H:Bool)(G:Prop)=>(λ(A:Bool)=>(λ(C:Prop)=>(E->Q (.int .i64 5))/\(E=false->(A->A/\A/\B=false/\(F->G)/\(F=false->ae .i8 a/\ae .i64 b/\ae .i8 c/\ae .i64 d/\ab 1 p/\ab p 3/\(H->Q (.int .i64 1))/\(H=false->Q (.int .i64 0))))/\(C->C/\C/\B/\G))) (A=false)) (not B)) (not (ab 1 p)) (not (and (and (bW ng false) (and (bW lg false) (and (af s []) (and (aa e 0) (and (aa g 0) true))))) (and (af mo []) (and (af da []) (and (and (aa x 0) (and (aa y 0) (and (aa z 0) true))) true))))) (not (ab p 3)) (not (cJ a b c d p)) (Q (.int .i64 18))) (λ_=>by kernel_rfl) λQ' hQ=>?_;try dsimp only
   have fin:∀v,cA 3 0 0 (dZ ng lg s e g mo da x y z) p (sZ a b c d) (bJ ng lg s e g mo da x y z) g (ba (s++mo++da)) (mZ x y z) (cJ a b c d p) (a_ a b c d) a c=v->Q' (.int .i64 v):=λv h=>hQ _ (by rw[h]);clear hQ;try simp only[pP]
   try simp only[pS]
   try simp only[pZ]
   unfold cA at fin;generalize dZ ng lg s e g mo da x y z=dz at *;generalize sZ a b c d=sz at *;generalize mZ x y z=mz at *;generalize ba (s++mo++da)=xb at *;generalize bJ ng lg s e g mo da x y z=ef at *;generalize cJ a b c d p=ft at *;generalize a_ a b c d=rk at *;simp only[az,reduceCtorEq]
   (repeat' first|exact trivial|refine⟨?_,?_⟩|intro)<;>first|contradiction|omega|assumption|(apply fin;grind)|(exfalso;grind)|grind
 . refine pK jO (λx hx=>by cases hx) ag (bA 1031000533810338114220742207461424066666) (R:=λQ=>(λ(A B F H N:Bool)(G I:Prop)=>(λ(C E O:Prop)=>(F->F/\(H->I)/\(H=false->(A->A/\A/\A/\A/\A/\(B->B/\B/\B/\B/\B/\(N->G)/\(N=false->Q (.int .i64 0)))/\(C->C/\C/\C/\C/\C/\G))/\(E->E/\E/\E/\E/\E/\G)))/\(O->O/\I)) (B=false) (A=false) (F=false)) (aa (a_ a b c d) 0) (aa a (Neg.neg 1)) (and (and (bW ng false) (and (bW lg false) (and (af s []) (and (aa e 0) (and (aa g 0) true))))) (and (af mo []) (and (af da []) (and (and (aa x 0) (and (aa y 0) (and (aa z 0) true))) true)))) (not (aa p 0)) (not (aa c 0)) (Q (.int .i64 1)) (Q (.int .i64 5))) (λ_=>by kernel_rfl) λQ' hQ=>?_;try dsimp only
   have fin:∀v,cA 4 0 0 (dZ ng lg s e g mo da x y z) p (sZ a b c d) (bJ ng lg s e g mo da x y z) g (ba (s++mo++da)) (mZ x y z) (cJ a b c d p) (a_ a b c d) a c=v->Q' (.int .i64 v):=λv h=>hQ _ (by rw[h]);clear hQ;try simp only[pP]
   try simp only[pS]
   try simp only[pZ]
   unfold cA at fin;generalize dZ ng lg s e g mo da x y z=dz at *;generalize sZ a b c d=sz at *;generalize mZ x y z=mz at *;generalize ba (s++mo++da)=xb at *;generalize bJ ng lg s e g mo da x y z=ef at *;generalize cJ a b c d p=ft at *;generalize a_ a b c d=rk at *;simp only[az,reduceCtorEq]
   (repeat' first|exact trivial|refine⟨?_,?_⟩|intro)<;>first|contradiction|omega|assumption|(apply fin;grind)|(exfalso;grind)|grind
 . refine pK jO (λx hx=>by cases hx) ag (bA 10310005338103381142207422074061424066666) (R:=λQ=>(λ(A B F H N:Bool)(G I:Prop)=>(λ(C E O:Prop)=>(F->F/\(H->I)/\(H=false->(A->A/\A/\A/\A/\A/\(B->B/\B/\B/\B/\B/\(N->G)/\(N=false->Q (.int .i64 0)))/\(C->C/\C/\C/\C/\C/\G))/\(E->E/\E/\E/\E/\E/\G)))/\(O->O/\I)) (B=false) (A=false) (F=false)) (aa (a_ a b c d) 0) (aa a 0) (and (and (bW ng false) (and (bW lg false) (and (af s []) (and (aa e 0) (and (aa g 0) true))))) (and (af mo []) (and (af da []) (and (and (aa x 0) (and (aa y 0) (and (aa z 0) true))) true)))) (not (aa p 0)) (not (aa c 1)) (Q (.int .i64 1)) (Q (.int .i64 5))) (λ_=>by kernel_rfl) λQ' hQ=>?_;try dsimp only
   have fin:∀v,cA 5 0 0 (dZ ng lg s e g mo da x y z) p (sZ a b c d) (bJ ng lg s e g mo da x y z) g (ba (s++mo++da)) (mZ x y z) (cJ a b c d p) (a_ a b c d) a c=v->Q' (.int .i64 v):=λv h=>hQ _ (by rw[h]);clear hQ;try simp only[pP]
   try simp only[pS]
   try simp only[pZ]
   unfold cA at fin;generalize dZ ng lg s e g mo da x y z=dz at *;generalize sZ a b c d=sz at *;generalize mZ x y z=mz at *;generalize ba (s++mo++da)=xb at *;generalize bJ ng lg s e g mo da x y z=ef at *;generalize cJ a b c d p=ft at *;generalize a_ a b c d=rk at *;simp only[az,reduceCtorEq]
   (repeat' first|exact trivial|refine⟨?_,?_⟩|intro)<;>first|contradiction|omega|assumption|(apply fin;grind)|(exfalso;grind)|grind
def W_:lB:=λargs ws=>match args,ws with
 | [.agg [.int .u8 k,.slice 14 0 n K,.bool ng,.bool lg,.str s,.int .i64 e,.int .i64 g,.str mo,.str da,.int .u8 x,.int .u8 y,.int .u8 z,.int .u8 p,.int .i8 a,.int .i64 b,.int .i8 c,.int .i64 d]],[.cells w false none]=>some (aH [Nat.ble s.length 1000,Nat.ble mo.length 1000,Nat.ble da.length 1000,ae .i64 e,ae .i64 g,ae .i64 b,ae .i64 d,ae .i8 a,ae .i8 c,ae .u8 x,ae .u8 y,ae .u8 z,ae .u8 p,eQ w,Nat.beq (jD w).length n,Nat.ble n 1000] (.ret (.int .i64 (cA k n (ip (jD w)) (dZ ng lg s e g mo da x y z) p (sZ a b c d) (bJ ng lg s e g mo da x y z) g (ba (s++mo++da)) (mZ x y z) (cJ a b c d p) (a_ a b c d) a c),[])))
 | [.agg [.int .u8 k,.nilslice,.bool ng,.bool lg,.str s,.int .i64 e,.int .i64 g,.str mo,.str da,.int .u8 x,.int .u8 y,.int .u8 z,.int .u8 p,.int .i8 a,.int .i64 b,.int .i8 c,.int .i64 d]],[]=>some (aH [Nat.ble s.length 1000,Nat.ble mo.length 1000,Nat.ble da.length 1000,ae .i64 e,ae .i64 g,ae .i64 b,ae .i64 d,ae .i8 a,ae .i8 c,ae .u8 x,ae .u8 y,ae .u8 z,ae .u8 p] (.ret (.int .i64 (cA k 0 0 (dZ ng lg s e g mo da x y z) p (sZ a b c d) (bJ ng lg s e g mo da x y z) g (ba (s++mo++da)) (mZ x y z) (cJ a b c d p) (a_ a b c d) a c),[])))
 | _,_=>none
theorem Fh:∀{w:List AV},eQ w->MW (jD w)
 | [],_=>λi hi=>absurd hi (Nat.not_lt_zero _)
 | .int .i8 a::.int .i64 b::.int .i8 c::.int .i64 d::r,h=>λi hi=>by
   simp only[eQ,zAa,aB,dP,dR]at h;cases i with
   | zero=>exact⟨h.1,h.2.1⟩
   | succ i=>exact Fh h.2.2 i (by simpa [jD]using hi)
theorem OR(hS:ak Tryz.prog cfg S):ak Tryz.prog cfg (fw S 19 (fy 14 [4] W_)):=by
 refine bm hS (ga dG.lv AD λargs ws t r he hr=>?_);unfold W_ at he;split at he
 . rename_i k n K ng lg s e g mo da x y z p a b c d w;cases he;replace hr:=aF hr;obtain⟨⟨h1,h2,h3,h4,h5,h6,h7,h8,h9,h10,h11,h12,h13,h14,h15,h16,-⟩,hr⟩:=hr;rw[aq]at h1 h2 h3;rw[aB]at h4 h5 h6 h7 h8 h9 h10 h11 h12 h13;simp only[dP,dR]at h4 h5 h6 h7 h8 h9 h10 h11 h12 h13;rw[aK]at h15;rw[aq]at h16;subst h15;cases hr;have key:=YM (ng:=ng) (lg:=lg) (s:=s) (e:=e) (g:=g) (mo:=mo) (da:=da) (x:=x) (y:=y) (z:=z) (p:=p) (a:=a) (b:=b) (c:=c) (d:=d) (kd:=k) (R:=jD w) (K:=K) (Fh h14) h16 h1 h2 h3 h4 h5 h6 h7 h8 h9 h10 h11 h12 h13;rw[iH h14]at key;exact⟨key,λx hx=>by cases hx⟩
 . rename_i k ng lg s e g mo da x y z p a b c d;cases he;replace hr:=aF hr;obtain⟨⟨h1,h2,h3,h4,h5,h6,h7,h8,h9,h10,h11,h12,h13,-⟩,hr⟩:=hr;rw[aq]at h1 h2 h3;rw[aB]at h4 h5 h6 h7 h8 h9 h10 h11 h12 h13;simp only[dP,dR]at h4 h5 h6 h7 h8 h9 h10 h11 h12 h13;cases hr;exact⟨YP h1 h2 h3 h4 h5 h6 h7 h8 h9 h10 h11 h12 h13,λx hx=>by cases hx⟩
 . cases he
section
variable{P:Program}{w:World}{r:Reach}{b0:Nat}{t:TypeId}{v:Value}
theorem HO(ht:P.underlying t=some .bool)(h:Cell.okWide P w r b0 t v):∃b,v=.bool b:=by
 unfold Cell.okWide Cell.ok at h;rw[ht]at h;cases v<;>first|exact⟨_,rfl⟩|exact h.elim
theorem ex{k:IntKind}(ht:P.underlying t=some (.int k))(h:Cell.okWide P w r b0 t v):∃n,v=.int k n/\k.min<=n/\n<=k.max:=by
 unfold Cell.okWide Cell.ok at h;rw[ht]at h;cases v<;>first|exact h.elim|skip
 obtain⟨rfl,h1⟩:=h;exact⟨_,rfl,h1⟩
end
def dg2(a b:UInt8):Int:=10*(Int.ofNat a.toNat-48)+(Int.ofNat b.toNat-48)
def W4(l:List UInt8):Int:=match l with
 | [a,b]=>dg2 a b
 | _=>0
def GJ(l:List UInt8):Bool:=match l with
 | []=>true
 | [a,b]=>dB a&&dB b
 | _=>false
def eG(i:Int):Int:=aG (cV i 12) (d_ i 12+1)
def X9:d9:=λvs o=>match vs,o with
 | [.int .i64 y,.ptr 14 0,.int .i64 f,.int .i64 n,.int .i64 lo,.int .i64 hi,.int .i64 k],⟨2,[.cells w true none,.cells [.int .i8 0,.int .i64 0,.int .i8 0,.int .i64 0] true none],[]⟩=>some (aH [eB y,aa k 0,aa hi (eG (12*y+f-1)-1),qD f,ab 3 n,ab n 6] (.ret (.exit 0,[.int .i64 y,.ptr 14 0,.int .i64 f,.int .i64 n,.int .i64 lo,.int .i64 (eG (12*y+f-1+n)-1),.int .i64 n],o)))
 | _,_=>none
def L31:cz:=iz io 0 (eb 49 [0,4,5,6,7,8,9] X9)
def vR(lo hi:Int):AV:=.agg [.int .i8 0,.int .i64 lo,.int .i8 0,.int .i64 hi]
def ZY:dJ:=λargs=>match args with
 | [.int .i64 y,.int .i64 c]=>some (aH [eB y,yQ c,eB (fk y c)] (.ret (vR (aG y (fR c)) (aG (fk y c) (kK y c+2)-1))))
 | _=>none
def jQ(y m d:Int):Int:=bif aa m 0 then bf y else bif ab 13 m then aG y (fR m)else bif aa d 0 then aG y m else aG y m+d-1
def jV(y m d:Int):Int:=bif aa m 0 then bf (y+1)-1 else bif ab 13 m then aG (fk y m) (kK y m+2)-1 else bif aa d 0 then aG y (m+1)-1 else aG y m+d-1
def nz(y m d:Int):Bool:=eB y&&(ab 0 d&&ab d 31&&(aa m 0 || (qD m || yQ m&&eB (fk y m))))
def s9:dJ:=λargs=>match args with
 | [.int .i64 y,.int .i64 m,.int .i64 d]=>some (aH [nz y m d] (.ret (vR (jQ y m d) (jV y m d))))
 | _=>none
def Pm:bh tab 74=some (dC 74,aN 74):=by kernel_rfl
def Mn:(bj (aN 74)).map (·.1)=[0]:=by kernel_rfl
theorem UU(y:Int):aG y 13=aG (y+1) 1:=Go.Proofs.YtoghlpcacfnjbaaGreatDoor.mst_next y
theorem nK(i:Int):eG (i+1)=eG i+dX (cV i 12) (d_ i 12+1)/\eG (i+1)=aG (cV i 12) (d_ i 12+2):=by
 have hm:0<=d_ i 12/\d_ i 12<=11:=by unfold d_;omega
 have hs:=@pQ (cV i 12) (d_ i 12+1) (by omega) (by omega);have e:eG (i+1)=aG (cV i 12) (d_ i 12+2):=by
  unfold eG;by_cases h:d_ i 12=11
  . rw[h,show cV (i+1) 12=cV i 12+1 by unfold cV d_ at *;omega,show d_ (i+1) 12=0 by unfold d_ at *;omega];exact(UU _).symm
  . rw[show cV (i+1) 12=cV i 12 by unfold cV d_ at *;omega,show d_ (i+1) 12=d_ i 12+1 by unfold d_ at *;omega,show d_ i 12+1+1=d_ i 12+2 by omega]
 refine⟨?_,e⟩;rw[e,show d_ i 12+2=d_ i 12+1+1 by omega,hs];rfl
theorem Ei(i:Int)(k:Nat):eG i+28*k<=eG (i+k)/\eG (i+k)<=eG i+31*k:=by
 induction k with
 | zero=>simp
 | succ k ih=>
   have h:=(nK (i+k)).1;have b:=iF (cV (i+k) 12) (d_ (i+k) 12+1);rw[show i+((k+1:Nat):Int)=i+k+1 by omega];omega
theorem Zt:cx Tryz.prog (cH cfg R3) (Cw cfg []) (lb 74 0) 49 [0,4,5,6,7,8,9] X9:=by
 intro vs o t Q hv hq J;unfold X9 at hv;split at hv
 . rename_i y f n lo hi k w;cases hv;replace hq:=cL hq;obtain⟨⟨h1,h2,h3,h4,h5,h6,-⟩,hq⟩:=hq;rw[al]at h2 h3;rw[bV]at h1;rw[gz]at h4;rw[ao]at h5 h6;subst h2 h3;simp only[aH,Tr.wp]at hq;have e0:eG (12*y+f-1)=aG y f:=by
    unfold eG;rw[show cV (12*y+f-1) 12=y by unfold cV;omega,show d_ (12*y+f-1) 12+1=f by unfold d_;omega]
   have b0:=@mst_bd y f h1 h4.1 (by omega);refine im tP rfl rfl ag (ι:={k:Nat // (k:Int)<=n}) (λx=>[.int .i64 y,.ptr 14 0,.int .i64 f,.int .i64 n,.int .i64 lo,.int .i64 (eG (12*y+f-1+x.1)-1),.int .i64 x.1]) (λ_=>⟨2,[.cells w true none,.cells [.int .i8 0,.int .i64 0,.int .i8 0,.int .i64 0] true none],[]⟩) (λx=>(n-x.1).toNat) 2 (λ_=>Nat.le_refl _) (λx J=>?_) (Nat.le_refl _) (λJ=>Wk.refl ⟨⟨0,by omega⟩,J,by dsimp only;rw[show 12*y+f-1+((0:Nat):Int)=12*y+f-1 by omega];rfl⟩) J;obtain⟨k,hk⟩:=x;dsimp only;have hs:=(nK (12*y+f-1+k)).1;have bk:=Ei (12*y+f-1) k;have e1:f+k<=12->cV (12*y+f-1+k) 12=y/\d_ (12*y+f-1+k) 12+1=f+k:=λh=>by unfold cV d_;omega
   have e2:12<f+k->cV (12*y+f-1+k) 12=y+1/\d_ (12*y+f-1+k) 12+1=f+k-12:=λh=>by unfold cV d_;omega
   refine jT (bA 117017022424) (R:=λQ=>(λ(B C E F G O P:AV)(H:Bool)(A I N:Int)=>(λ(Y:AV)(T V W:Bool)(U Z:Int)=>(λ(u0:Int)=>(H->ae .i64 A/\(T->ae .i64 U/\V/\V/\ae .i64 u0/\W/\Q (.normal,[B,C,E,F,G,.int .i64 u0,Y],⟨2,[.cells w true none,.cells [O,P,O,P] true none],[]⟩))/\(T=false->ae .i64 y/\ae .i64 Z/\W/\Q (.normal,[B,C,E,F,G,.int .i64 Z,Y],⟨2,[.cells w true none,.cells [O,P,O,P] true none],[]⟩)))/\(H=false->Q (.exit 0,[B,C,E,F,G,.int .i64 (eG (12*y+f-1+k)-1),.int .i64 k],⟨2,[.cells w true none,.cells [O,P,O,P] true none],[]⟩))) (Int.add (eG (12*y+f-1+k)-1) (dX I U))) (.int .i64 N) (not (ab A 12)) (ae .i64 I) (ae .i64 N) (Int.sub A 12) (Int.add (eG (12*y+f-1+k)-1) (dX y A))) (.int .i64 y) (.ptr 14 0) (.int .i64 f) (.int .i64 n) (.int .i64 lo) (.int .i8 0) (.int .i64 0) (not (ab n k)) (Int.add f k) (Int.add y 1) (Int.add k 1)) (λ_=>by kernel_rfl) λQ' hQ=>?_;try dsimp only
   have m1:=iF y (f+k);have m2:=iF (y+1) (f+k-12);have next:∀x:Int,k<n->x=eG (12*y+f-1+k+1)-1->∃z:{k:Nat // (k:Int)<=n},(n-z.1).toNat<(n-k).toNat/\VW cfg (Cw cfg []) 2 49 [0,4,5,6,7,8,9] [.int .i64 y,.ptr 14 0,.int .i64 f,.int .i64 n,.int .i64 lo,.int .i64 x,.int .i64 (k+1)] ⟨2,[.cells w true none,.cells [.int .i8 0,.int .i64 0,.int .i8 0,.int .i64 0] true none],[]⟩ [.int .i64 y,.ptr 14 0,.int .i64 f,.int .i64 n,.int .i64 lo,.int .i64 (eG (12*y+f-1+z.1)-1),.int .i64 z.1] ⟨2,[.cells w true none,.cells [.int .i8 0,.int .i64 0,.int .i8 0,.int .i64 0] true none],[]⟩:=λx hk h=>by
    subst h;exact⟨⟨k+1,by omega⟩,by dsimp only;omega,VW.of_eq (by dsimp only;rw[show 12*y+f-1+((k+1:Nat):Int)=12*y+f-1+k+1 by omega];rfl) rfl⟩
   have fin:(k:Int)=n->Q (.exit 0,[.int .i64 y,.ptr 14 0,.int .i64 f,.int .i64 n,.int .i64 lo,.int .i64 (eG (12*y+f-1+k)-1),.int .i64 k],⟨2,[.cells w true none,.cells [.int .i8 0,.int .i64 0,.int .i8 0,.int .i64 0] true none],[]⟩):=λh=>by rw[h];exact hq
   clear hq;rw[hs]at next;have next1:=λx (h:f+k<=12)=>by have:=next x;rw[(e1 h).1,(e1 h).2]at this;exact this
   have next2:=λx (h:12<f+k)=>by have:=next x;rw[(e2 h).1,(e2 h).2]at this;exact this
   clear next e1 e2 hs;generalize eG (12*y+f-1+k)=H at *;generalize dX y (f+k)=l1 at *;generalize dX (y+1) (f+k-12)=l2 at *;simp only[az,reduceCtorEq]
   (repeat' first|exact trivial|refine⟨?_,?_⟩|intro)<;>first|omega|refine hQ _ ?_
   . exact next2 _ (by omega) (by omega) (by omega)
   . exact next1 _ (by omega) (by omega) (by omega)
   . exact⟨_,_,VW.refl,fin (by omega)⟩
 . cases hv
theorem Tu(h:21<=c/\c<=41):List.getD [AV.int .i64 3,AV.int .i64 6,AV.int .i64 9,AV.int .i64 12,AV.int .i64 3,AV.int .i64 6,AV.int .i64 9,AV.int .i64 12,AV.int .i64 9,AV.int .i64 12,AV.int .i64 3,AV.int .i64 6,AV.int .i64 1,AV.int .i64 4,AV.int .i64 7,AV.int .i64 10,AV.int .i64 1,AV.int .i64 5,AV.int .i64 9,AV.int .i64 1,AV.int .i64 7] (0+(Int.sub c 21).toNat*1) (AV.tuple [])=.int .i64 (fR c):=by
 rcases oy h with rfl|rfl|rfl|rfl|rfl|rfl|rfl|rfl|rfl|rfl|rfl|rfl|rfl|rfl|rfl|rfl|rfl|rfl|rfl|rfl|rfl<;>rfl
theorem Vt(h:21<=c/\c<=41):(39<c->mR c=6)/\(36<c/\c<=39->mR c=4)/\(c<=36->mR c=3):=by
 rcases oy h with rfl|rfl|rfl|rfl|rfl|rfl|rfl|rfl|rfl|rfl|rfl|rfl|rfl|rfl|rfl|rfl|rfl|rfl|rfl|rfl|rfl<;>decide
theorem Wn(hS:ak Tryz.prog cfg S):ak Tryz.prog cfg (aY S 74 ZY):=by
 refine au hS λargs t v he hv=>?_;unfold ZY at he;split at he
 . rename_i y c;cases he;replace hv:=aF hv;obtain⟨⟨h1,h2,h3,-⟩,hv⟩:=hv;cases hv;have h1':=bV.1 h1;rw[lN]at h2;obtain⟨⟨f1,f2⟩,n1,n2⟩:=xN h2;refine kw tP (L:=L31) Pm (by simp) (dv Mn λi hi e he st Q hw=>?_) (jT (bA 111111544021115440240044203111115440211154402400442011111544021115440240044204447) (R:=λQ=>(λ(B F U V W Y u7:AV)(A u8 u9:Bool)(T:Int)=>(λ(ua:Nat)(ub:Prop)=>(λ(uc:AV)=>(λ(ud:Bool)(C:Int)=>(λ(E G:Bool)(H ue:Int)=>(λ(u0:AV)(I:Bool)(Z uf:Int)(u1 u2:Prop)=>(λ(N O P:Bool)(u3:Prop)=>(λ(u4 u5 u6 ug uh ui:Prop)=>ae .i64 T/\ab 0 T/\aW ua 21/\(ud->(u8->(u9->A/\(E->(G->(N->A/\(O->ug)/\u4)/\(u5->A/\(P->ug)/\u6))/\u1)/\u2)/\(ub->A/\(E->(G->(N->A/\(O->uh)/\u4)/\(u5->A/\(P->uh)/\u6))/\u1)/\u2))/\(u8=false->ub/\A/\(E->(G->(N->A/\(O->ui)/\u4)/\(u5->A/\(P->ui)/\u6))/\u1)/\u2))/\(ud=false->False)) (O=false->False) (N=false) (P=false->False) ((I->(∀J1:Nat->Value,Q (.agg [B,u0,B,.int .i64 (HSub.hSub (eG (HAdd.hAdd H 6)) 1)])))/\u3) ((I->(∀J1:Nat->Value,Q (.agg [B,u0,B,.int .i64 (HSub.hSub (eG (HAdd.hAdd H 4)) 1)])))/\u3) ((I->(∀J1:Nat->Value,Q (.agg [B,u0,B,.int .i64 (HSub.hSub (eG (HAdd.hAdd H 3)) 1)])))/\u3)) (ae .i64 Z) (aa Z uf) (aa (IntKind.wrap .i64 Z) uf) (I=false->False)) (.int .i64 ue) (and E (ab C 12)) (Int.sub ue 1) (HSub.hSub (eG H) 1) (G=false->False) (E=false->False)) (ab 1 C) (ab C 13) (HSub.hSub (HAdd.hAdd (HMul.hMul 12 y) C) 1) (HSub.hSub (HAdd.hAdd (aG y C) 1) 1)) (cq .i64 uc) (bC uc)) (List.getD [U,V,F,W,U,V,F,W,F,W,U,V,Y,.int .i64 4,u7,.int .i64 10,Y,.int .i64 5,F,Y,u7] (HAdd.hAdd 0 (HMul.hMul ua 1)) (.tuple []))) T.toNat (u9=false)) (.int .i8 0) (.int .i64 9) (.int .i64 3) (.int .i64 6) (.int .i64 12) (.int .i64 1) (.int .i64 7) (and (ab (Neg.neg 10000000000000000) y) (ab y 10000000000000000)) (not (ab c 36)) (not (ab c 39)) (Int.sub c 21)) (λ_=>by kernel_rfl) λQ' hQ=>?_) (by simp[aD,bz,vR])
   . have hi:i=0:=by simp at hi;omega
     subst hi;cases he;exact b7 (cF.good tP) (by decide) rfl Zt hw
   . try dsimp only
     have hs:=(nK (12*y+fR c-1+(mR c-1))).2;rw[show 12*y+fR c-1+(mR c-1)+1=12*y+fR c-1+mR c by omega,show 12*y+fR c-1+(mR c-1)=12*y+(fR c-1)+(mR c-1)by omega]at hs;have e0:eG (12*y+fR c-1)=aG y (fR c):=by
      unfold eG;rw[show cV (12*y+fR c-1) 12=y by unfold cV;omega,show d_ (12*y+fR c-1) 12+1=fR c by unfold d_;omega]
     have b0:=@mst_bd y (fR c) h1' f1 (by omega);have i0:∀n:Int,bC (.int .i64 n)=n:=λ_=>rfl;have ka:∀n:Int,cq .i64 (.int .i64 n)=true:=λn=>rfl;obtain⟨m1,m2,m3⟩:=Vt h2;rw[Tu h2];simp only[i0,ka];have fin:∀n:Int,n=mR c->Q' (vR (aG y (fR c)) (eG (12*y+fR c-1+n)-1)):=λn h=>by
      rw[h,hs];exact hQ _ rfl
     unfold vR at fin;clear hQ hs;rw[e0];simp only[az,reduceCtorEq];rw[show aG y (fR c)+1-1=aG y (fR c)by omega]
     (repeat' first|exact trivial|refine⟨?_,?_⟩|intro)<;>first|omega|exact fin _ (by omega)|(rename_i h;rw[bV.2 h1']at h;exact h)|(rename_i h;rw[gz.2 ⟨f1,f2⟩]at h;cases h)|(rename_i h;rw[bV.2 h1']at h;cases h)
 . cases he
theorem ku{m:Int}:nz y m d=true↔(-10000000000000000<=y/\y<=10000000000000000)/\(0<=d/\d<=31)/\(m=0\/(1<=m/\m<=12)\/(21<=m/\m<=41)/\eB (fk y m)=true):=by
 unfold nz;rw[zAa,bV,zAa,zAa,Bool.or_eq_true,al,Bool.or_eq_true,zAa,gz,ao,ao,lN]
theorem TN(hS:ak Tryz.prog cfg S):ak Tryz.prog cfg (aY S 41 s9):=by
 refine au hS λargs t v he hv=>?_;unfold s9 at he;split at he
 . rename_i y m d;cases he;obtain⟨h1,hv'⟩:=bK hv;clear hv;have hv:=hv';clear hv'
   cases hv;obtain⟨hy,hd,hm⟩:=ku.1 h1;have hm1:0<=m/\m<=41:=by omega
   have bl:0<=ii y/\ii y<=1:=Go.Proofs.YtoghlpcacfnjbaaGreatDoor.lp_01 y;have b1:=@qK y hy.1 (by omega);have b2:1<=m->m<=12->-3652425000000000001<=aG y m/\aG y m<=3652425000000000800:=λk1 k2=>mst_bd hy k1 (by omega);have hn:=iF y m;have ys:bf (y+1)=bf y+365+ii y:=Go.Proofs.YtoghlpcacfnjbaaGreatDoor.yst_succ y;have ms:1<=m->m<=12->aG y (m+1)=aG y m+dX y m:=λk1 k2=>pQ k1 k2;have yb:=bV.2 hy;have cb:=@lN m;refine kP (Wn tP) ag (bA 100227022701007000700070410704100220220204) (R:=λQ=>(λ(A N:AV)(B C E F H:Bool)(G I:Int)=>(λ(O P:Int)=>(λ(T:Int)=>(λ(U:Prop->Prop)=>(aa m 0->F/\F/\ae .i64 G/\ae .i64 y/\ae .i64 O/\Q (.agg [A,.int .i64 (bf y),A,.int .i64 O]))/\(aa m 0=false->(H->B/\yQ m/\eB (fk y m)/\Q (.agg [A,.int .i64 (aG y (fR m)),A,.int .i64 (HSub.hSub (aG (fk y m) (HAdd.hAdd (kK y m) 2)) 1)]))/\(H=false->(aa d 0->B/\C/\E/\B/\C/\E/\ae .i64 y/\ae .i64 P/\ae .i64 T/\Q (.agg [A,.int .i64 I,A,.int .i64 T]))/\(aa d 0=false->U (U (Q (.agg [A,N,A,N]))))))) (λu0=>B/\C/\E/\ab 1 d/\ab d 31/\u0)) (Int.sub P 1)) (Int.add G (ii y)) (Int.add I (dX y m))) (.int .i8 0) (.int .i64 (HSub.hSub (HAdd.hAdd (aG y m) d) 1)) (eB y) (ab 1 m) (ab m 13) (and (ab (Neg.neg 10000000000000000) y) (ab y 10000000000000001)) (not (ab m 12)) (Int.add (bf y) 364) (HSub.hSub (HAdd.hAdd (aG y m) 1) 1)) (λ_=>by kernel_rfl) (hi:=(by simp[aD,bz,vR])) λQ' hQ=>?_;try dsimp only
   unfold vR jQ jV at hQ;rw[yb];generalize fk y m=sy at *;generalize kK y m=sm at *;generalize aG y (fR m)=k1 at *;generalize aG sy (sm+2)=k2 at *;cases hm0:aa m 0 with
   | true=>
     rw[hm0,cond_true,cond_true,ys]at hQ;rw[al]at hm0;simp only[az,reduceCtorEq]
     (repeat' first|exact trivial|refine⟨?_,?_⟩|intro)<;>first|contradiction|omega|(rw[show bf y+364+ii y=bf y+365+ii y-1 by omega];exact hQ)
   | false=>
     rw[hm0,cond_false,cond_false]at hQ;rw[ay]at hm0;cases h13:ab 13 m with
     | true=>
       rw[h13,cond_true,cond_true]at hQ;rw[ao]at h13;have hs:eB sy=true:=by rcases hm with h|h|h<;>first|omega|exact h.2
       have hc:yQ m=true:=cb.2 (by omega);rw[hs,hc];simp only[az,reduceCtorEq]
       (repeat' first|exact trivial|refine⟨?_,?_⟩|intro)<;>first|contradiction|omega|exact hQ
     | false=>
       rw[h13,cond_false,cond_false]at hQ;rw[bY]at h13;have e:=ms (by omega) (by omega);have b2:=b2 (by omega) (by omega);cases hd0:aa d 0 with
       | true=>
         rw[hd0,cond_true,cond_true,e]at hQ;rw[al]at hd0;simp only[az,reduceCtorEq]
         (repeat' first|exact trivial|refine⟨?_,?_⟩|intro)<;>first|contradiction|omega|(rw[show aG y m+1-1=aG y m by omega];exact hQ)
       | false=>
         rw[hd0,cond_false,cond_false]at hQ;rw[ay]at hd0;simp only[az,reduceCtorEq]
         (repeat' first|exact trivial|refine⟨?_,?_⟩|intro)<;>first|contradiction|omega|exact hQ
 . cases he
def GU1:aR:=aY R7 174 MJ
theorem KV:ak Tryz.prog cfg GU1:=J4 vA
theorem Cm(s t:List UInt8)(a b:Int):aT (s++t) a b=aT s a b+aT t a b:=by
 unfold aT;rw[List.filter_append,zAg]
theorem Mk{s:List UInt8}(h:aT s 88 88=0):∀c∈s,c.toNat≠88:=λc hc h88=>by
 unfold aT at h;rw[List.length_eq_zero_iff,List.filter_eq_nil_iff]at h;refine h c hc ?_;rw[h88];rfl
theorem XU{mo t:List UInt8}{r:Int}(h1:GJ t/\W4 t=c)(h2:r=0\/(GJ mo/\W4 mo=r)):(bif af mo t then c else r)=0\/(GJ mo/\W4 mo=bif af mo t then c else r):=by
 cases hb:af mo t with
 | true=>rw[bX,beq_iff_eq]at hb;subst hb;exact .inr h1
 | false=>exact h2
theorem JY(mo:List UInt8):aL mo=0\/(GJ mo/\W4 mo=aL mo):=by
 unfold aL
 (repeat' refine XU ⟨by decide,by decide⟩ ?_)
 exact .inl rfl
theorem MS(hc:21<=c/\c<=41)(hy : -10000000000000000<=y/\y<=10000000000000000)(h:(c≠24/\c≠28/\c≠30)\/y≠10000000000000000):eB (fk y c)=true:=by
 obtain⟨h1,h2,h3⟩:=LU hc;rw[bV];unfold fk cV;omega
theorem OO{m:Int}(h:nz y m d) : -3652425000000000002<=jQ y m d/\jQ y m d<=jV y m d/\jV y m d<=3652425000000002000:=by
 obtain⟨hy,hd,hm⟩:=ku.1 h;unfold jQ jV;cases hm0:aa m 0 with
 | true=>
   have b1:=@qK y hy.1 (by omega);have ys:bf (y+1)=bf y+365+ii y:=Go.Proofs.YtoghlpcacfnjbaaGreatDoor.yst_succ y;have bl:0<=ii y/\ii y<=1:=Go.Proofs.YtoghlpcacfnjbaaGreatDoor.lp_01 y;simp only[cond_true];omega
 | false=>
   rw[ay]at hm0;simp only[cond_false];cases h13:ab 13 m with
   | true=>
     rw[ao]at h13;simp only[cond_true];have hc:21<=m/\m<=41:=by omega
     obtain⟨⟨f1,f2⟩,n1,n2⟩:=xN hc;have b0:=@mst_bd y (fR m) hy f1 (by omega);have hs:=(nK (12*y+fR m-1+(mR m-1))).2;rw[show 12*y+fR m-1+(mR m-1)+1=12*y+fR m-1+mR m by omega,show 12*y+fR m-1+(mR m-1)=12*y+(fR m-1)+(mR m-1)by omega]at hs;have e0:eG (12*y+fR m-1)=aG y (fR m):=by
      unfold eG;rw[show cV (12*y+fR m-1) 12=y by unfold cV;omega,show d_ (12*y+fR m-1) 12+1=fR m by unfold d_;omega]
     have bk:=Ei (12*y+fR m-1) (mR m).toNat;rw[show((mR m).toNat:Int)=mR m by omega,hs,e0]at bk;have:aG (cV (12*y+(fR m-1)+(mR m-1)) 12) (d_ (12*y+(fR m-1)+(mR m-1)) 12+2)=aG (fk y m) (kK y m+2):=rfl;rw[this]at bk;omega
   | false=>
     rw[bY]at h13;simp only[cond_false];have b2:=@mst_bd y m hy (by omega) (by omega);have e:=@pQ y m (by omega) (by omega);have hn:=iF y m;cases aa d 0<;>simp only[zAj]<;>omega
theorem x6{y:Int}:aJ (bf y)=y/\aJ (bf (y+1)-1)=y:=by
 have ys:bf (y+1)=bf y+365+ii y:=Go.Proofs.YtoghlpcacfnjbaaGreatDoor.yst_succ y;have bl:0<=ii y/\ii y<=1:=Go.Proofs.YtoghlpcacfnjbaaGreatDoor.lp_01 y;refine⟨Go.Proofs.YtoghlpcacfnjbaaGreatDoor.yOf_unique (Int.le_refl _) ?_,Go.Proofs.YtoghlpcacfnjbaaGreatDoor.yOf_unique ?_ ?_⟩
 . show bf y<bf (y+1);omega
 . show bf y<=bf (y+1)-1;omega
 . show bf (y+1)-1<bf (y+1);omega
theorem eo{a:Int}(h:a<=b):bf a<=bf b:=Go.Proofs.YtoghlpcacfnjbaaGreatDoor.yst_le h
theorem n8:bf (-10000000000000000) = -3652425000000000000/\bf 10000000000000000=3652425000000000000:=by decide
theorem Jw{a:Int}(h:a<=b):a_ 0 a 0 b=0:=iO.2 ⟨.inl rfl,.inl rfl,.inr ⟨rfl,h⟩⟩
end Go.Ev
