import Derived.ChangeArms
import Derived.OpenShut
import Derived.Lib.LaidTab
import Derived.LaidLaws
import Derived.DataReads
import Derived.Test.YtoghlpcacfnjbaaGreatDoorP31
set_option linter.all false
set_option maxRecDepth 100000
set_option maxHeartbeats 4000000
namespace Go.Ev
open Go Go.Proofs
variable{y b c d kd:Int}{S:aQ}
def P20:aQ:=eQ (bb (bb (bb (pX gZ 45 Pm) 47 TL) 48 XZ) 49 YH) 46 (fl 14 [4] YK)
theorem jG:ak Tryz.prog cfg P20:=UQ (Vn (TX (G9 (eG aW Es))))
theorem Yo{ng lg:Bool}{s:List UInt8}{e g:Int}{mo da:List UInt8}{x z p a:Int}{R:List Rn}{K:fg}(hR:Nx R)(hn:R.length<=1000)(hs:s.length<=1000)(hm:mo.length<=1000)(hda:da.length<=1000)(he : -9223372036854775808<=e/\e<=9223372036854775807)(hg : -9223372036854775808<=g/\g<=9223372036854775807)(hb : -9223372036854775808<=b/\b<=9223372036854775807)(hd : -9223372036854775808<=d/\d<=9223372036854775807)(ha : -128<=a/\a<=127)(hc : -128<=c/\c<=127)(hx:0<=x/\x<=255)(hy:0<=y/\y<=255)(hz:0<=z/\z<=255)(hp:0<=p/\p<=255):bu Tryz.prog cfg 19 [.h [.a .u8 kd,.c 14 0 R.length K,.b ng,.b lg,.d s,.a .i64 e,.a .i64 g,.d mo,.d da,.a .u8 x,.a .u8 y,.a .u8 z,.a .u8 p,.a .i8 a,.a .i64 b,.a .i8 c,.a .i64 d]] [.a (bh R) false none] (.a .i64 (dr kd R.length (jo R) (dZ ng lg s e g mo da x y z) p (sZ a b c d) (bW ng lg s e g mo da x y z) g (bo (s++mo++da)) (mZ x y z) (dN a b c d p) (bA a b c d) a c)) []:=by
 have hk:¬(1<=kd/\kd<=5)\/kd=1\/kd=2\/kd=3\/kd=4\/kd=5:=by omega
 rcases hk with hk|rfl|rfl|rfl|rfl|rfl
 . refine lF jG jz ai (bE 1023312320240) (R:=λQ=>(λ(B:Bool)(E:Prop)=>(λ(A:Bool)=>(λ(C:Prop)=>(A->A/\A/\B=false/\not (ab kd 5)/\E)/\(C->C/\C/\B/\E)) (A=false)) (not B)) (not (ab 1 kd)) (Q (.a .i64 18))) (λ_=>by kernel_rfl) λQ' hQ=>?_;try dsimp only
   have fin:∀v,dr kd R.length (jo R) (dZ ng lg s e g mo da x y z) p (sZ a b c d) (bW ng lg s e g mo da x y z) g (bo (s++mo++da)) (mZ x y z) (dN a b c d p) (bA a b c d) a c=v->Q' (.a .i64 v):=λv h=>hQ _ (by rw[h]);clear hQ;have fin:=fin 18 (by unfold dr;grind);simp only[az,reduceCtorEq]
   (repeat' first|exact trivial|refine⟨?_,?_⟩|intro)<;>first|contradiction|omega|assumption
 . refine lF jG jz ai (bE 100031031111244401400051424240056666) (R:=λQ=>(λ(A B F G:Bool)(H:Nat)(C:Prop)=>(λ(E:List AV)(I N:Prop)=>(λ(O P:Bool)=>(A->A/\(B->B/\(F->C)/\(F=false->(G->Q (.a .i64 17))/\(G=false->(O->(eJ E->(P->Nat.ble R.length 1000/\Q (.a .i64 (jo (g8 E))))/\(P=false->False))/\(eJ E=false->False))/\(O=false->False))))/\(I->I/\C))/\(N->N/\C)) (and true (and (Nat.ble (HAdd.hAdd 0 H) (bh R).length) (bc 14 E))) (Nat.beq (List.length (g8 E)) R.length)) (b_ (bh R) 0 H) (B=false) (A=false)) (and (and (bQ ng false) (and (bQ lg false) (and (ae s []) (and (aa e 0) (and (aa g 0) true))))) (and (ae mo []) (and (ae da []) (and (and (aa x 0) (and (aa y 0) (and (aa z 0) true))) true)))) (aa p 0) (not (and (and (aa a 0) (and (aa b 0) true)) (and (and (aa c 0) (and (aa d 0) true)) true))) (aa (Int.ofNat R.length) 0) (HMul.hMul R.length 4) (Q (.a .i64 5))) (λ_=>by kernel_rfl) λQ' hQ=>?_;try dsimp only
   have fin:∀v,dr 1 R.length (jo R) (dZ ng lg s e g mo da x y z) p (sZ a b c d) (bW ng lg s e g mo da x y z) g (bo (s++mo++da)) (mZ x y z) (dN a b c d p) (bA a b c d) a c=v->Q' (.a .i64 v):=λv h=>hQ _ (by rw[h]);clear hQ;try simp only[p4]
   try simp only[p7]
   try simp only[qm]
   have bl:Nat.ble (R.length*4) (R.length*4)=true:=al.mpr (Nat.le_refl _);have ir:=pD hR;simp only[l_,iJ,ij,kz,Nat.zero_add,bl,ir,Bool.and_true,Bool.true_and];generalize jo R=ch at *;unfold dr at fin;generalize dZ ng lg s e g mo da x y z=dz at *;generalize sZ a b c d=sz at *;generalize mZ x y z=mz at *;generalize bo (s++mo++da)=xb at *;generalize bW ng lg s e g mo da x y z=ef at *;generalize dN a b c d p=ft at *;generalize bA a b c d=rk at *;simp only[az,reduceCtorEq]
   (repeat' first|exact trivial|refine⟨?_,?_⟩|intro)<;>first|contradiction|omega|assumption|(apply fin;grind)|(exfalso;grind)|grind
 . refine lF jG jz ai (bE 100031031000581033811470002242702062401422776614242400056666) (R:=λQ=>(λ(A C F G N O P T V:Bool)(U:Int)(H I:Prop)=>(λ(W:Bool)(B E Y Z:Prop)=>(F->F/\(G->G/\(N->H)/\(N=false->O/\P/\T/\af .i64 e/\af .i64 g/\af .u8 x/\af .u8 y/\af .u8 z/\(W->Q (.a .i64 U))/\(W=false->(C->C/\C/\O/\P/\T/\C/\(A->A/\A/\A/\A/\A/\(V->I)/\(V=false->Q (.a .i64 0)))/\(B->B/\B/\B/\B/\B/\I))/\(E->E/\E/\E/\I))))/\(Y->Y/\H))/\(Z->Z/\H)) (not (aa U 0)) (A=false) (C=false) (G=false) (F=false)) (bo ((s++mo)++da)) (aa g 0) (aa (Int.ofNat R.length) 0) (aa p 0) (not (and (and (aa a 0) (and (aa b 0) true)) (and (and (aa c 0) (and (aa d 0) true)) true))) (Nat.ble s.length 1000) (Nat.ble mo.length 1000) (Nat.ble da.length 1000) (not (and (aa x 0) (and (aa y 0) (and (aa z 0) true)))) (bW ng lg s e g mo da x y z) (Q (.a .i64 5)) (Q (.a .i64 1))) (λ_=>by kernel_rfl) λQ' hQ=>?_;try dsimp only
   have fin:∀v,dr 2 R.length (jo R) (dZ ng lg s e g mo da x y z) p (sZ a b c d) (bW ng lg s e g mo da x y z) g (bo (s++mo++da)) (mZ x y z) (dN a b c d p) (bA a b c d) a c=v->Q' (.a .i64 v):=λv h=>hQ _ (by rw[h]);clear hQ;try simp only[p4]
   try simp only[p7]
   try simp only[qm]
   unfold dr at fin;generalize dZ ng lg s e g mo da x y z=dz at *;generalize sZ a b c d=sz at *;generalize mZ x y z=mz at *;generalize bo (s++mo++da)=xb at *;generalize bW ng lg s e g mo da x y z=ef at *;generalize dN a b c d p=ft at *;generalize bA a b c d=rk at *;simp only[az,reduceCtorEq]
   (repeat' first|exact trivial|refine⟨?_,?_⟩|intro)<;>first|contradiction|omega|assumption|(apply fin;grind)|(exfalso;grind)|grind
 . refine lF jG jz ai (bE 1031023311477005143202461424556666) (R:=λQ=>(λ(B C F H N:Bool)(G I:Prop)=>(λ(A:Bool)(O:Prop)=>(λ(E:Prop)=>(B->B/\(F->G)/\(F=false->(A->A/\A/\C=false/\(H->I)/\(H=false->af .i8 a/\af .i64 b/\af .i8 c/\af .i64 d/\ab 1 p/\ab p 3/\(N->Q (.a .i64 1))/\(N=false->Q (.a .i64 0))))/\(E->E/\E/\C/\I)))/\(O->O/\G)) (A=false)) (not C) (B=false)) (aa (Int.ofNat R.length) 0) (not (ab 1 p)) (not (and (and (bQ ng false) (and (bQ lg false) (and (ae s []) (and (aa e 0) (and (aa g 0) true))))) (and (ae mo []) (and (ae da []) (and (and (aa x 0) (and (aa y 0) (and (aa z 0) true))) true))))) (not (ab p 3)) (not (dN a b c d p)) (Q (.a .i64 5)) (Q (.a .i64 18))) (λ_=>by kernel_rfl) λQ' hQ=>?_;try dsimp only
   have fin:∀v,dr 3 R.length (jo R) (dZ ng lg s e g mo da x y z) p (sZ a b c d) (bW ng lg s e g mo da x y z) g (bo (s++mo++da)) (mZ x y z) (dN a b c d p) (bA a b c d) a c=v->Q' (.a .i64 v):=λv h=>hQ _ (by rw[h]);clear hQ;try simp only[p4]
   try simp only[p7]
   try simp only[qm]
   unfold dr at fin;generalize dZ ng lg s e g mo da x y z=dz at *;generalize sZ a b c d=sz at *;generalize mZ x y z=mz at *;generalize bo (s++mo++da)=xb at *;generalize bW ng lg s e g mo da x y z=ef at *;generalize dN a b c d p=ft at *;generalize bA a b c d=rk at *;simp only[az,reduceCtorEq]
   (repeat' first|exact trivial|refine⟨?_,?_⟩|intro)<;>first|contradiction|omega|assumption|(apply fin;grind)|(exfalso;grind)|grind
 . refine lF jG jz ai (bE 10003103100053381033811422074220746142424556666) (R:=λQ=>(λ(A B F G N O:Bool)(H I:Prop)=>(λ(C E P T:Prop)=>(F->F/\(G->G/\(N->H)/\(N=false->(A->A/\A/\A/\A/\A/\(B->B/\B/\B/\B/\B/\(O->I)/\(O=false->Q (.a .i64 0)))/\(C->C/\C/\C/\C/\C/\I))/\(E->E/\E/\E/\E/\E/\I)))/\(P->P/\H))/\(T->T/\H)) (B=false) (A=false) (G=false) (F=false)) (aa (bA a b c d) 0) (aa a (Neg.neg 1)) (aa (Int.ofNat R.length) 0) (and (and (bQ ng false) (and (bQ lg false) (and (ae s []) (and (aa e 0) (and (aa g 0) true))))) (and (ae mo []) (and (ae da []) (and (and (aa x 0) (and (aa y 0) (and (aa z 0) true))) true)))) (not (aa p 0)) (not (aa c 0)) (Q (.a .i64 5)) (Q (.a .i64 1))) (λ_=>by kernel_rfl) λQ' hQ=>?_;try dsimp only
   have fin:∀v,dr 4 R.length (jo R) (dZ ng lg s e g mo da x y z) p (sZ a b c d) (bW ng lg s e g mo da x y z) g (bo (s++mo++da)) (mZ x y z) (dN a b c d p) (bA a b c d) a c=v->Q' (.a .i64 v):=λv h=>hQ _ (by rw[h]);clear hQ;try simp only[p4]
   try simp only[p7]
   try simp only[qm]
   unfold dr at fin;generalize dZ ng lg s e g mo da x y z=dz at *;generalize sZ a b c d=sz at *;generalize mZ x y z=mz at *;generalize bo (s++mo++da)=xb at *;generalize bW ng lg s e g mo da x y z=ef at *;generalize dN a b c d p=ft at *;generalize bA a b c d=rk at *;simp only[az,reduceCtorEq]
   (repeat' first|exact trivial|refine⟨?_,?_⟩|intro)<;>first|contradiction|omega|assumption|(apply fin;grind)|(exfalso;grind)|grind
 . refine lF jG jz ai (bE 100031031000533810338114220742207406142424556666) (R:=λQ=>(λ(A B F G N O:Bool)(H I:Prop)=>(λ(C E P T:Prop)=>(F->F/\(G->G/\(N->H)/\(N=false->(A->A/\A/\A/\A/\A/\(B->B/\B/\B/\B/\B/\(O->I)/\(O=false->Q (.a .i64 0)))/\(C->C/\C/\C/\C/\C/\I))/\(E->E/\E/\E/\E/\E/\I)))/\(P->P/\H))/\(T->T/\H)) (B=false) (A=false) (G=false) (F=false)) (aa (bA a b c d) 0) (aa a 0) (aa (Int.ofNat R.length) 0) (and (and (bQ ng false) (and (bQ lg false) (and (ae s []) (and (aa e 0) (and (aa g 0) true))))) (and (ae mo []) (and (ae da []) (and (and (aa x 0) (and (aa y 0) (and (aa z 0) true))) true)))) (not (aa p 0)) (not (aa c 1)) (Q (.a .i64 5)) (Q (.a .i64 1))) (λ_=>by kernel_rfl) λQ' hQ=>?_;try dsimp only
   have fin:∀v,dr 5 R.length (jo R) (dZ ng lg s e g mo da x y z) p (sZ a b c d) (bW ng lg s e g mo da x y z) g (bo (s++mo++da)) (mZ x y z) (dN a b c d p) (bA a b c d) a c=v->Q' (.a .i64 v):=λv h=>hQ _ (by rw[h]);clear hQ;try simp only[p4]
   try simp only[p7]
   try simp only[qm]
   unfold dr at fin;generalize dZ ng lg s e g mo da x y z=dz at *;generalize sZ a b c d=sz at *;generalize mZ x y z=mz at *;generalize bo (s++mo++da)=xb at *;generalize bW ng lg s e g mo da x y z=ef at *;generalize dN a b c d p=ft at *;generalize bA a b c d=rk at *;simp only[az,reduceCtorEq]
   (repeat' first|exact trivial|refine⟨?_,?_⟩|intro)<;>first|contradiction|omega|assumption|(apply fin;grind)|(exfalso;grind)|grind
theorem YF{ng lg:Bool}{s:List UInt8}{e g:Int}{mo da:List UInt8}{x z p a:Int}(hs:s.length<=1000)(hm:mo.length<=1000)(hda:da.length<=1000)(he : -9223372036854775808<=e/\e<=9223372036854775807)(hg : -9223372036854775808<=g/\g<=9223372036854775807)(hb : -9223372036854775808<=b/\b<=9223372036854775807)(hd : -9223372036854775808<=d/\d<=9223372036854775807)(ha : -128<=a/\a<=127)(hc : -128<=c/\c<=127)(hx:0<=x/\x<=255)(hy:0<=y/\y<=255)(hz:0<=z/\z<=255)(hp:0<=p/\p<=255):bu Tryz.prog cfg 19 [.h [.a .u8 kd,.f,.b ng,.b lg,.d s,.a .i64 e,.a .i64 g,.d mo,.d da,.a .u8 x,.a .u8 y,.a .u8 z,.a .u8 p,.a .i8 a,.a .i64 b,.a .i8 c,.a .i64 d]] [] (.a .i64 (dr kd 0 0 (dZ ng lg s e g mo da x y z) p (sZ a b c d) (bW ng lg s e g mo da x y z) g (bo (s++mo++da)) (mZ x y z) (dN a b c d p) (bA a b c d) a c)) []:=by
 have hk:¬(1<=kd/\kd<=5)\/kd=1\/kd=2\/kd=3\/kd=4\/kd=5:=by omega
 rcases hk with hk|rfl|rfl|rfl|rfl|rfl
 . refine lF jG (λx hx=>by cases hx) ai (bE 1023312320240) (R:=λQ=>(λ(B:Bool)(E:Prop)=>(λ(A:Bool)=>(λ(C:Prop)=>(A->A/\A/\B=false/\not (ab kd 5)/\E)/\(C->C/\C/\B/\E)) (A=false)) (not B)) (not (ab 1 kd)) (Q (.a .i64 18))) (λ_=>by kernel_rfl) λQ' hQ=>?_;try dsimp only
   have fin:∀v,dr kd 0 0 (dZ ng lg s e g mo da x y z) p (sZ a b c d) (bW ng lg s e g mo da x y z) g (bo (s++mo++da)) (mZ x y z) (dN a b c d p) (bA a b c d) a c=v->Q' (.a .i64 v):=λv h=>hQ _ (by rw[h]);clear hQ;have fin:=fin 18 (by unfold dr;grind);simp only[az,reduceCtorEq]
   (repeat' first|exact trivial|refine⟨?_,?_⟩|intro)<;>first|contradiction|omega|assumption
 . refine lF jG (λx hx=>by cases hx) ai (bE 100031031551424240056666) (R:=λQ=>(λ(A B E:Bool)(C:Prop)=>(λ(F G:Prop)=>(A->A/\(B->B/\(E->C)/\(E=false->Q (.a .i64 17)))/\(F->F/\C))/\(G->G/\C)) (B=false) (A=false)) (and (and (bQ ng false) (and (bQ lg false) (and (ae s []) (and (aa e 0) (and (aa g 0) true))))) (and (ae mo []) (and (ae da []) (and (and (aa x 0) (and (aa y 0) (and (aa z 0) true))) true)))) (aa p 0) (not (and (and (aa a 0) (and (aa b 0) true)) (and (and (aa c 0) (and (aa d 0) true)) true))) (Q (.a .i64 5))) (λ_=>by kernel_rfl) λQ' hQ=>?_;try dsimp only
   have fin:∀v,dr 1 0 0 (dZ ng lg s e g mo da x y z) p (sZ a b c d) (bW ng lg s e g mo da x y z) g (bo (s++mo++da)) (mZ x y z) (dN a b c d p) (bA a b c d) a c=v->Q' (.a .i64 v):=λv h=>hQ _ (by rw[h]);clear hQ;try simp only[p4]
   try simp only[p7]
   try simp only[qm]
   unfold dr at fin;generalize dZ ng lg s e g mo da x y z=dz at *;generalize sZ a b c d=sz at *;generalize mZ x y z=mz at *;generalize bo (s++mo++da)=xb at *;generalize bW ng lg s e g mo da x y z=ef at *;generalize dN a b c d p=ft at *;generalize bA a b c d=rk at *;simp only[az,reduceCtorEq]
   (repeat' first|exact trivial|refine⟨?_,?_⟩|intro)<;>first|contradiction|omega|assumption|(apply fin;grind)|(exfalso;grind)|grind
 . refine lF jG (λx hx=>by cases hx) ai (bE 10310005810338114700022427020624014227766142466666) (R:=λQ=>(λ(A C F H N O P U:Bool)(T:Int)(G I:Prop)=>(λ(V:Bool)(B E W:Prop)=>(F->F/\(H->I)/\(H=false->N/\O/\P/\af .i64 e/\af .i64 g/\af .u8 x/\af .u8 y/\af .u8 z/\(V->Q (.a .i64 T))/\(V=false->(C->C/\C/\N/\O/\P/\C/\(A->A/\A/\A/\A/\A/\(U->G)/\(U=false->Q (.a .i64 0)))/\(B->B/\B/\B/\B/\B/\G))/\(E->E/\E/\E/\G))))/\(W->W/\I)) (not (aa T 0)) (A=false) (C=false) (F=false)) (bo ((s++mo)++da)) (aa g 0) (aa p 0) (not (and (and (aa a 0) (and (aa b 0) true)) (and (and (aa c 0) (and (aa d 0) true)) true))) (Nat.ble s.length 1000) (Nat.ble mo.length 1000) (Nat.ble da.length 1000) (not (and (aa x 0) (and (aa y 0) (and (aa z 0) true)))) (bW ng lg s e g mo da x y z) (Q (.a .i64 1)) (Q (.a .i64 5))) (λ_=>by kernel_rfl) λQ' hQ=>?_;try dsimp only
   have fin:∀v,dr 2 0 0 (dZ ng lg s e g mo da x y z) p (sZ a b c d) (bW ng lg s e g mo da x y z) g (bo (s++mo++da)) (mZ x y z) (dN a b c d p) (bA a b c d) a c=v->Q' (.a .i64 v):=λv h=>hQ _ (by rw[h]);clear hQ;try simp only[p4]
   try simp only[p7]
   try simp only[qm]
   unfold dr at fin;generalize dZ ng lg s e g mo da x y z=dz at *;generalize sZ a b c d=sz at *;generalize mZ x y z=mz at *;generalize bo (s++mo++da)=xb at *;generalize bW ng lg s e g mo da x y z=ef at *;generalize dN a b c d p=ft at *;generalize bA a b c d=rk at *;simp only[az,reduceCtorEq]
   (repeat' first|exact trivial|refine⟨?_,?_⟩|intro)<;>first|contradiction|omega|assumption|(apply fin;grind)|(exfalso;grind)|grind
 . refine lF jG (λx hx=>by cases hx) ai (bE 10233114770051432024614066666) (R:=λQ=>(λ(B E F H:Bool)(G:Prop)=>(λ(A:Bool)=>(λ(C:Prop)=>(E->Q (.a .i64 5))/\(E=false->(A->A/\A/\B=false/\(F->G)/\(F=false->af .i8 a/\af .i64 b/\af .i8 c/\af .i64 d/\ab 1 p/\ab p 3/\(H->Q (.a .i64 1))/\(H=false->Q (.a .i64 0))))/\(C->C/\C/\B/\G))) (A=false)) (not B)) (not (ab 1 p)) (not (and (and (bQ ng false) (and (bQ lg false) (and (ae s []) (and (aa e 0) (and (aa g 0) true))))) (and (ae mo []) (and (ae da []) (and (and (aa x 0) (and (aa y 0) (and (aa z 0) true))) true))))) (not (ab p 3)) (not (dN a b c d p)) (Q (.a .i64 18))) (λ_=>by kernel_rfl) λQ' hQ=>?_;try dsimp only
   have fin:∀v,dr 3 0 0 (dZ ng lg s e g mo da x y z) p (sZ a b c d) (bW ng lg s e g mo da x y z) g (bo (s++mo++da)) (mZ x y z) (dN a b c d p) (bA a b c d) a c=v->Q' (.a .i64 v):=λv h=>hQ _ (by rw[h]);clear hQ;try simp only[p4]
   try simp only[p7]
   try simp only[qm]
   unfold dr at fin;generalize dZ ng lg s e g mo da x y z=dz at *;generalize sZ a b c d=sz at *;generalize mZ x y z=mz at *;generalize bo (s++mo++da)=xb at *;generalize bW ng lg s e g mo da x y z=ef at *;generalize dN a b c d p=ft at *;generalize bA a b c d=rk at *;simp only[az,reduceCtorEq]
   (repeat' first|exact trivial|refine⟨?_,?_⟩|intro)<;>first|contradiction|omega|assumption|(apply fin;grind)|(exfalso;grind)|grind
 . refine lF jG (λx hx=>by cases hx) ai (bE 1031000533810338114220742207461424066666) (R:=λQ=>(λ(A B F H N:Bool)(G I:Prop)=>(λ(C E O:Prop)=>(F->F/\(H->I)/\(H=false->(A->A/\A/\A/\A/\A/\(B->B/\B/\B/\B/\B/\(N->G)/\(N=false->Q (.a .i64 0)))/\(C->C/\C/\C/\C/\C/\G))/\(E->E/\E/\E/\E/\E/\G)))/\(O->O/\I)) (B=false) (A=false) (F=false)) (aa (bA a b c d) 0) (aa a (Neg.neg 1)) (and (and (bQ ng false) (and (bQ lg false) (and (ae s []) (and (aa e 0) (and (aa g 0) true))))) (and (ae mo []) (and (ae da []) (and (and (aa x 0) (and (aa y 0) (and (aa z 0) true))) true)))) (not (aa p 0)) (not (aa c 0)) (Q (.a .i64 1)) (Q (.a .i64 5))) (λ_=>by kernel_rfl) λQ' hQ=>?_;try dsimp only
   have fin:∀v,dr 4 0 0 (dZ ng lg s e g mo da x y z) p (sZ a b c d) (bW ng lg s e g mo da x y z) g (bo (s++mo++da)) (mZ x y z) (dN a b c d p) (bA a b c d) a c=v->Q' (.a .i64 v):=λv h=>hQ _ (by rw[h]);clear hQ;try simp only[p4]
   try simp only[p7]
   try simp only[qm]
   unfold dr at fin;generalize dZ ng lg s e g mo da x y z=dz at *;generalize sZ a b c d=sz at *;generalize mZ x y z=mz at *;generalize bo (s++mo++da)=xb at *;generalize bW ng lg s e g mo da x y z=ef at *;generalize dN a b c d p=ft at *;generalize bA a b c d=rk at *;simp only[az,reduceCtorEq]
   (repeat' first|exact trivial|refine⟨?_,?_⟩|intro)<;>first|contradiction|omega|assumption|(apply fin;grind)|(exfalso;grind)|grind
 . refine lF jG (λx hx=>by cases hx) ai (bE 10310005338103381142207422074061424066666) (R:=λQ=>(λ(A B F H N:Bool)(G I:Prop)=>(λ(C E O:Prop)=>(F->F/\(H->I)/\(H=false->(A->A/\A/\A/\A/\A/\(B->B/\B/\B/\B/\B/\(N->G)/\(N=false->Q (.a .i64 0)))/\(C->C/\C/\C/\C/\C/\G))/\(E->E/\E/\E/\E/\E/\G)))/\(O->O/\I)) (B=false) (A=false) (F=false)) (aa (bA a b c d) 0) (aa a 0) (and (and (bQ ng false) (and (bQ lg false) (and (ae s []) (and (aa e 0) (and (aa g 0) true))))) (and (ae mo []) (and (ae da []) (and (and (aa x 0) (and (aa y 0) (and (aa z 0) true))) true)))) (not (aa p 0)) (not (aa c 1)) (Q (.a .i64 1)) (Q (.a .i64 5))) (λ_=>by kernel_rfl) λQ' hQ=>?_;try dsimp only
   have fin:∀v,dr 5 0 0 (dZ ng lg s e g mo da x y z) p (sZ a b c d) (bW ng lg s e g mo da x y z) g (bo (s++mo++da)) (mZ x y z) (dN a b c d p) (bA a b c d) a c=v->Q' (.a .i64 v):=λv h=>hQ _ (by rw[h]);clear hQ;try simp only[p4]
   try simp only[p7]
   try simp only[qm]
   unfold dr at fin;generalize dZ ng lg s e g mo da x y z=dz at *;generalize sZ a b c d=sz at *;generalize mZ x y z=mz at *;generalize bo (s++mo++da)=xb at *;generalize bW ng lg s e g mo da x y z=ef at *;generalize dN a b c d p=ft at *;generalize bA a b c d=rk at *;simp only[az,reduceCtorEq]
   (repeat' first|exact trivial|refine⟨?_,?_⟩|intro)<;>first|contradiction|omega|assumption|(apply fin;grind)|(exfalso;grind)|grind
def ZY:kS:=λargs ws=>match args,ws with
 | [.h [.a .u8 k,.c 14 0 n K,.b ng,.b lg,.d s,.a .i64 e,.a .i64 g,.d mo,.d da,.a .u8 x,.a .u8 y,.a .u8 z,.a .u8 p,.a .i8 a,.a .i64 b,.a .i8 c,.a .i64 d]],[.a w false none]=>some (aH [Nat.ble s.length 1000,Nat.ble mo.length 1000,Nat.ble da.length 1000,af .i64 e,af .i64 g,af .i64 b,af .i64 d,af .i8 a,af .i8 c,af .u8 x,af .u8 y,af .u8 z,af .u8 p,eJ w,Nat.beq (g8 w).length n,Nat.ble n 1000] (.a0 (.a .i64 (dr k n (jo (g8 w)) (dZ ng lg s e g mo da x y z) p (sZ a b c d) (bW ng lg s e g mo da x y z) g (bo (s++mo++da)) (mZ x y z) (dN a b c d p) (bA a b c d) a c),[])))
 | [.h [.a .u8 k,.f,.b ng,.b lg,.d s,.a .i64 e,.a .i64 g,.d mo,.d da,.a .u8 x,.a .u8 y,.a .u8 z,.a .u8 p,.a .i8 a,.a .i64 b,.a .i8 c,.a .i64 d]],[]=>some (aH [Nat.ble s.length 1000,Nat.ble mo.length 1000,Nat.ble da.length 1000,af .i64 e,af .i64 g,af .i64 b,af .i64 d,af .i8 a,af .i8 c,af .u8 x,af .u8 y,af .u8 z,af .u8 p] (.a0 (.a .i64 (dr k 0 0 (dZ ng lg s e g mo da x y z) p (sZ a b c d) (bW ng lg s e g mo da x y z) g (bo (s++mo++da)) (mZ x y z) (dN a b c d p) (bA a b c d) a c),[])))
 | _,_=>none
theorem He:∀{w:List AV},eJ w->Nx (g8 w)
 | [],_=>λi hi=>absurd hi (Nat.not_lt_zero _)
 | .a .i8 a::.a .i64 b::.a .i8 c::.a .i64 d::r,h=>λi hi=>by
   simp only[eJ,zAa,aE,eH,eE]at h;cases i with
   | zero=>exact⟨h.1,h.2.1⟩
   | succ i=>exact He h.2.2 i (by simpa [g8]using hi)
theorem Uc(hS:ak Tryz.prog cfg S):ak Tryz.prog cfg (eQ S 19 (fl 14 [4] ZY)):=by
 refine bm hS (fW dI.lv Az λargs ws t r he hr=>?_);unfold ZY at he;split at he
 . rename_i k n K ng lg s e g mo da x y z p a b c d w;cases he;replace hr:=aF hr;obtain⟨⟨h1,h2,h3,h4,h5,h6,h7,h8,h9,h10,h11,h12,h13,h14,h15,h16,-⟩,hr⟩:=hr;rw[al]at h1 h2 h3;rw[aE]at h4 h5 h6 h7 h8 h9 h10 h11 h12 h13;simp only[eH,eE]at h4 h5 h6 h7 h8 h9 h10 h11 h12 h13;rw[aJ]at h15;rw[al]at h16;subst h15;cases hr;have key:=Yo (ng:=ng) (lg:=lg) (s:=s) (e:=e) (g:=g) (mo:=mo) (da:=da) (x:=x) (y:=y) (z:=z) (p:=p) (a:=a) (b:=b) (c:=c) (d:=d) (kd:=k) (R:=g8 w) (K:=K) (He h14) h16 h1 h2 h3 h4 h5 h6 h7 h8 h9 h10 h11 h12 h13;rw[hZ h14]at key;exact⟨key,λx hx=>by cases hx⟩
 . rename_i k ng lg s e g mo da x y z p a b c d;cases he;replace hr:=aF hr;obtain⟨⟨h1,h2,h3,h4,h5,h6,h7,h8,h9,h10,h11,h12,h13,-⟩,hr⟩:=hr;rw[al]at h1 h2 h3;rw[aE]at h4 h5 h6 h7 h8 h9 h10 h11 h12 h13;simp only[eH,eE]at h4 h5 h6 h7 h8 h9 h10 h11 h12 h13;cases hr;exact⟨YF h1 h2 h3 h4 h5 h6 h7 h8 h9 h10 h11 h12 h13,λx hx=>by cases hx⟩
 . cases he
section
variable{P:Program}{w:World}{r:Reach}{b0:Nat}{t:TypeId}{v:Value}
theorem HH(ht:P.underlying t=some .bool)(h:Cell.okWide P w r b0 t v):∃b,v=.bool b:=by
 unfold Cell.okWide Cell.ok at h;rw[ht]at h;cases v<;>first|exact⟨_,rfl⟩|exact h.elim
theorem e7{k:IntKind}(ht:P.underlying t=some (.int k))(h:Cell.okWide P w r b0 t v):∃n,v=.int k n/\k.min<=n/\n<=k.max:=by
 unfold Cell.okWide Cell.ok at h;rw[ht]at h;cases v<;>first|exact h.elim|skip
 obtain⟨rfl,h1⟩:=h;exact⟨_,rfl,h1⟩
end
def dg2(a b:UInt8):Int:=10*(Int.ofNat a.toNat-48)+(Int.ofNat b.toNat-48)
def XR(l:List UInt8):Int:=match l with
 | [a,b]=>dg2 a b
 | _=>0
def H4(l:List UInt8):Bool:=match l with
 | []=>true
 | [a,b]=>dB a&&dB b
 | _=>false
def eN(i:Int):Int:=aG (dc i 12) (d8 i 12+1)
def YV:dW:=λvs o=>match vs,o with
 | [.a .i64 y,.g 14 0,.a .i64 f,.a .i64 n,.a .i64 lo,.a .i64 hi,.a .i64 k],⟨2,[.a w true none,.a [.a .i8 0,.a .i64 0,.a .i8 0,.a .i64 0] true none],[]⟩=>some (aH [eO y,aa k 0,aa hi (eN (12*y+f-1)-1),tL f,ab 3 n,ab n 6] (.a0 (.b 0,[.a .i64 y,.g 14 0,.a .i64 f,.a .i64 n,.a .i64 lo,.a .i64 (eN (12*y+f-1+n)-1),.a .i64 n],o)))
 | _,_=>none
def L31:cx:=iz jE 0 (d9 49 [0,4,5,6,7,8,9] YV)
def vR(lo hi:Int):AV:=.h [.a .i8 0,.a .i64 lo,.a .i8 0,.a .i64 hi]
def s31:dP:=λargs=>match args with
 | [.a .i64 y,.a .i64 c]=>some (aH [eO y,zI c,eO (fq y c)] (.a0 (vR (aG y (fR c)) (aG (fq y c) (kX y c+2)-1))))
 | _=>none
def iO(y m d:Int):Int:=bif aa m 0 then bf y else bif ab 13 m then aG y (fR m)else bif aa d 0 then aG y m else aG y m+d-1
def iD(y m d:Int):Int:=bif aa m 0 then bf (y+1)-1 else bif ab 13 m then aG (fq y m) (kX y m+2)-1 else bif aa d 0 then aG y (m+1)-1 else aG y m+d-1
def kY(y m d:Int):Bool:=eO y&&(ab 0 d&&ab d 31&&(aa m 0 || (tL m || zI m&&eO (fq y m))))
def s9:dP:=λargs=>match args with
 | [.a .i64 y,.a .i64 m,.a .i64 d]=>some (aH [kY y m d] (.a0 (vR (iO y m d) (iD y m d))))
 | _=>none
def Sj:bj tab 74=some (dH 74,aL 74):=by kernel_rfl
def Ox:(bz (aL 74)).map (·.1)=[0]:=by kernel_rfl
theorem VS(y:Int):aG y 13=aG (y+1) 1:=Go.Proofs.YtoghlpcacfnjbaaGreatDoor.mst_next y
theorem ox(i:Int):eN (i+1)=eN i+d6 (dc i 12) (d8 i 12+1)/\eN (i+1)=aG (dc i 12) (d8 i 12+2):=by
 have hm:0<=d8 i 12/\d8 i 12<=11:=by unfold d8;omega
 have hs:=@p9 (dc i 12) (d8 i 12+1) (by omega) (by omega);have e:eN (i+1)=aG (dc i 12) (d8 i 12+2):=by
  unfold eN;by_cases h:d8 i 12=11
  . rw[h,show dc (i+1) 12=dc i 12+1 by unfold dc d8 at *;omega,show d8 (i+1) 12=0 by unfold d8 at *;omega];exact(VS _).symm
  . rw[show dc (i+1) 12=dc i 12 by unfold dc d8 at *;omega,show d8 (i+1) 12=d8 i 12+1 by unfold d8 at *;omega,show d8 i 12+1+1=d8 i 12+2 by omega]
 refine⟨?_,e⟩;rw[e,show d8 i 12+2=d8 i 12+1+1 by omega,hs];rfl
theorem EX(i:Int)(k:Nat):eN i+28*k<=eN (i+k)/\eN (i+k)<=eN i+31*k:=by
 induction k with
 | zero=>simp
 | succ k ih=>
   have h:=(ox (i+k)).1;have b:=jk (dc (i+k) 12) (d8 (i+k) 12+1);rw[show i+((k+1:Nat):Int)=i+k+1 by omega];omega
theorem Yw:cu Tryz.prog (cH cfg R3) (Cw cfg []) (lb 74 0) 49 [0,4,5,6,7,8,9] YV:=by
 intro vs o t Q hv hq J;unfold YV at hv;split at hv
 . rename_i y f n lo hi k w;cases hv;replace hq:=cO hq;obtain⟨⟨h1,h2,h3,h4,h5,h6,-⟩,hq⟩:=hq;rw[ao]at h2 h3;rw[bX]at h1;rw[gX]at h4;rw[aq]at h5 h6;subst h2 h3;simp only[aH,Tr.wp]at hq;have e0:eN (12*y+f-1)=aG y f:=by
    unfold eN;rw[show dc (12*y+f-1) 12=y by unfold dc;omega,show d8 (12*y+f-1) 12+1=f by unfold d8;omega]
   have b0:=@mst_bd y f h1 h4.1 (by omega);refine ia vW rfl rfl ai (ι:={k:Nat // (k:Int)<=n}) (λx=>[.a .i64 y,.g 14 0,.a .i64 f,.a .i64 n,.a .i64 lo,.a .i64 (eN (12*y+f-1+x.1)-1),.a .i64 x.1]) (λ_=>⟨2,[.a w true none,.a [.a .i8 0,.a .i64 0,.a .i8 0,.a .i64 0] true none],[]⟩) (λx=>(n-x.1).toNat) 2 (λ_=>Nat.le_refl _) (λx J=>?_) (Nat.le_refl _) (λJ=>Wk.a0 ⟨⟨0,by omega⟩,J,by dsimp only;rw[show 12*y+f-1+((0:Nat):Int)=12*y+f-1 by omega];rfl⟩) J;obtain⟨k,hk⟩:=x;dsimp only;have hs:=(ox (12*y+f-1+k)).1;have bk:=EX (12*y+f-1) k;have e1:f+k<=12->dc (12*y+f-1+k) 12=y/\d8 (12*y+f-1+k) 12+1=f+k:=λh=>by unfold dc d8;omega
   have e2:12<f+k->dc (12*y+f-1+k) 12=y+1/\d8 (12*y+f-1+k) 12+1=f+k-12:=λh=>by unfold dc d8;omega
   refine jJ (bE 117017022424) (R:=λQ=>(λ(B C E F G O P:AV)(H:Bool)(A I N:Int)=>(λ(Y:AV)(T V W:Bool)(U Z:Int)=>(λ(u0:Int)=>(H->af .i64 A/\(T->af .i64 U/\V/\V/\af .i64 u0/\W/\Q (.a,[B,C,E,F,G,.a .i64 u0,Y],⟨2,[.a w true none,.a [O,P,O,P] true none],[]⟩))/\(T=false->af .i64 y/\af .i64 Z/\W/\Q (.a,[B,C,E,F,G,.a .i64 Z,Y],⟨2,[.a w true none,.a [O,P,O,P] true none],[]⟩)))/\(H=false->Q (.b 0,[B,C,E,F,G,.a .i64 (eN (12*y+f-1+k)-1),.a .i64 k],⟨2,[.a w true none,.a [O,P,O,P] true none],[]⟩))) (Int.add (eN (12*y+f-1+k)-1) (d6 I U))) (.a .i64 N) (not (ab A 12)) (af .i64 I) (af .i64 N) (Int.sub A 12) (Int.add (eN (12*y+f-1+k)-1) (d6 y A))) (.a .i64 y) (.g 14 0) (.a .i64 f) (.a .i64 n) (.a .i64 lo) (.a .i8 0) (.a .i64 0) (not (ab n k)) (Int.add f k) (Int.add y 1) (Int.add k 1)) (λ_=>by kernel_rfl) λQ' hQ=>?_;try dsimp only
   have m1:=jk y (f+k);have m2:=jk (y+1) (f+k-12);have next:∀x:Int,k<n->x=eN (12*y+f-1+k+1)-1->∃z:{k:Nat // (k:Int)<=n},(n-z.1).toNat<(n-k).toNat/\VW cfg (Cw cfg []) 2 49 [0,4,5,6,7,8,9] [.a .i64 y,.g 14 0,.a .i64 f,.a .i64 n,.a .i64 lo,.a .i64 x,.a .i64 (k+1)] ⟨2,[.a w true none,.a [.a .i8 0,.a .i64 0,.a .i8 0,.a .i64 0] true none],[]⟩ [.a .i64 y,.g 14 0,.a .i64 f,.a .i64 n,.a .i64 lo,.a .i64 (eN (12*y+f-1+z.1)-1),.a .i64 z.1] ⟨2,[.a w true none,.a [.a .i8 0,.a .i64 0,.a .i8 0,.a .i64 0] true none],[]⟩:=λx hk h=>by
    subst h;exact⟨⟨k+1,by omega⟩,by dsimp only;omega,VW.a0 (by dsimp only;rw[show 12*y+f-1+((k+1:Nat):Int)=12*y+f-1+k+1 by omega];rfl) rfl⟩
   have fin:(k:Int)=n->Q (.b 0,[.a .i64 y,.g 14 0,.a .i64 f,.a .i64 n,.a .i64 lo,.a .i64 (eN (12*y+f-1+k)-1),.a .i64 k],⟨2,[.a w true none,.a [.a .i8 0,.a .i64 0,.a .i8 0,.a .i64 0] true none],[]⟩):=λh=>by rw[h];exact hq
   clear hq;rw[hs]at next;have next1:=λx (h:f+k<=12)=>by have:=next x;rw[(e1 h).1,(e1 h).2]at this;exact this
   have next2:=λx (h:12<f+k)=>by have:=next x;rw[(e2 h).1,(e2 h).2]at this;exact this
   clear next e1 e2 hs;generalize eN (12*y+f-1+k)=H at *;generalize d6 y (f+k)=l1 at *;generalize d6 (y+1) (f+k-12)=l2 at *;simp only[az,reduceCtorEq]
   (repeat' first|exact trivial|refine⟨?_,?_⟩|intro)<;>first|omega|refine hQ _ ?_
   . exact next2 _ (by omega) (by omega) (by omega)
   . exact next1 _ (by omega) (by omega) (by omega)
   . exact⟨_,_,VW.b0,fin (by omega)⟩
 . cases hv
theorem WS(h:21<=c/\c<=41):List.getD [AV.a .i64 3,AV.a .i64 6,AV.a .i64 9,AV.a .i64 12,AV.a .i64 3,AV.a .i64 6,AV.a .i64 9,AV.a .i64 12,AV.a .i64 9,AV.a .i64 12,AV.a .i64 3,AV.a .i64 6,AV.a .i64 1,AV.a .i64 4,AV.a .i64 7,AV.a .i64 10,AV.a .i64 1,AV.a .i64 5,AV.a .i64 9,AV.a .i64 1,AV.a .i64 7] (0+(Int.sub c 21).toNat*1) (AV.e [])=.a .i64 (fR c):=by
 rcases oJ h with rfl|rfl|rfl|rfl|rfl|rfl|rfl|rfl|rfl|rfl|rfl|rfl|rfl|rfl|rfl|rfl|rfl|rfl|rfl|rfl|rfl<;>rfl
theorem VY(h:21<=c/\c<=41):(39<c->mR c=6)/\(36<c/\c<=39->mR c=4)/\(c<=36->mR c=3):=by
 rcases oJ h with rfl|rfl|rfl|rfl|rfl|rfl|rfl|rfl|rfl|rfl|rfl|rfl|rfl|rfl|rfl|rfl|rfl|rfl|rfl|rfl|rfl<;>decide
theorem Wu(hS:ak Tryz.prog cfg S):ak Tryz.prog cfg (bb S 74 s31):=by
 refine au hS λargs t v he hv=>?_;unfold s31 at he;split at he
 . rename_i y c;cases he;replace hv:=aF hv;obtain⟨⟨h1,h2,h3,-⟩,hv⟩:=hv;cases hv;have h1':=bX.1 h1;rw[mg]at h2;obtain⟨⟨f1,f2⟩,n1,n2⟩:=xH h2;refine kV vW (L:=L31) Sj (by simp) (dv Ox λi hi e he st Q hw=>?_) (jJ (bE 111111544021115440240044203111115440211154402400442011111544021115440240044204447) (R:=λQ=>(λ(B F U V W Y u7:AV)(A u8 u9:Bool)(T:Int)=>(λ(ua:Nat)(ub:Prop)=>(λ(uc:AV)=>(λ(ud:Bool)(C:Int)=>(λ(E G:Bool)(H ue:Int)=>(λ(u0:AV)(I:Bool)(Z uf:Int)(u1 u2:Prop)=>(λ(N O P:Bool)(u3:Prop)=>(λ(u4 u5 u6 ug uh ui:Prop)=>af .i64 T/\ab 0 T/\aS ua 21/\(ud->(u8->(u9->A/\(E->(G->(N->A/\(O->ug)/\u4)/\(u5->A/\(P->ug)/\u6))/\u1)/\u2)/\(ub->A/\(E->(G->(N->A/\(O->uh)/\u4)/\(u5->A/\(P->uh)/\u6))/\u1)/\u2))/\(u8=false->ub/\A/\(E->(G->(N->A/\(O->ui)/\u4)/\(u5->A/\(P->ui)/\u6))/\u1)/\u2))/\(ud=false->False)) (O=false->False) (N=false) (P=false->False) ((I->(∀J1:Nat->Value,Q (.h [B,u0,B,.a .i64 (HSub.hSub (eN (HAdd.hAdd H 6)) 1)])))/\u3) ((I->(∀J1:Nat->Value,Q (.h [B,u0,B,.a .i64 (HSub.hSub (eN (HAdd.hAdd H 4)) 1)])))/\u3) ((I->(∀J1:Nat->Value,Q (.h [B,u0,B,.a .i64 (HSub.hSub (eN (HAdd.hAdd H 3)) 1)])))/\u3)) (af .i64 Z) (aa Z uf) (aa (IntKind.wrap .i64 Z) uf) (I=false->False)) (.a .i64 ue) (and E (ab C 12)) (Int.sub ue 1) (HSub.hSub (eN H) 1) (G=false->False) (E=false->False)) (ab 1 C) (ab C 13) (HSub.hSub (HAdd.hAdd (HMul.hMul 12 y) C) 1) (HSub.hSub (HAdd.hAdd (aG y C) 1) 1)) (bC .i64 uc) (aK uc)) (List.getD [U,V,F,W,U,V,F,W,F,W,U,V,Y,.a .i64 4,u7,.a .i64 10,Y,.a .i64 5,F,Y,u7] (HAdd.hAdd 0 (HMul.hMul ua 1)) (.e []))) T.toNat (u9=false)) (.a .i8 0) (.a .i64 9) (.a .i64 3) (.a .i64 6) (.a .i64 12) (.a .i64 1) (.a .i64 7) (and (ab (Neg.neg 10000000000000000) y) (ab y 10000000000000000)) (not (ab c 36)) (not (ab c 39)) (Int.sub c 21)) (λ_=>by kernel_rfl) λQ' hQ=>?_) (by simp[aC,bw,vR])
   . have hi:i=0:=by simp at hi;omega
     subst hi;cases he;exact bR (cC.a0 vW) (by decide) rfl Yw hw
   . try dsimp only
     have hs:=(ox (12*y+fR c-1+(mR c-1))).2;rw[show 12*y+fR c-1+(mR c-1)+1=12*y+fR c-1+mR c by omega,show 12*y+fR c-1+(mR c-1)=12*y+(fR c-1)+(mR c-1)by omega]at hs;have e0:eN (12*y+fR c-1)=aG y (fR c):=by
      unfold eN;rw[show dc (12*y+fR c-1) 12=y by unfold dc;omega,show d8 (12*y+fR c-1) 12+1=fR c by unfold d8;omega]
     have b0:=@mst_bd y (fR c) h1' f1 (by omega);have i0:∀n:Int,aK (.a .i64 n)=n:=λ_=>rfl;have ka:∀n:Int,bC .i64 (.a .i64 n)=true:=λn=>rfl;obtain⟨m1,m2,m3⟩:=VY h2;rw[WS h2];simp only[i0,ka];have fin:∀n:Int,n=mR c->Q' (vR (aG y (fR c)) (eN (12*y+fR c-1+n)-1)):=λn h=>by
      rw[h,hs];exact hQ _ rfl
     unfold vR at fin;clear hQ hs;rw[e0];simp only[az,reduceCtorEq];rw[show aG y (fR c)+1-1=aG y (fR c)by omega]
     (repeat' first|exact trivial|refine⟨?_,?_⟩|intro)<;>first|omega|exact fin _ (by omega)|(rename_i h;rw[bX.2 h1']at h;exact h)|(rename_i h;rw[gX.2 ⟨f1,f2⟩]at h;cases h)|(rename_i h;rw[bX.2 h1']at h;cases h)
 . cases he
theorem ju{m:Int}:kY y m d=true↔(-10000000000000000<=y/\y<=10000000000000000)/\(0<=d/\d<=31)/\(m=0\/(1<=m/\m<=12)\/(21<=m/\m<=41)/\eO (fq y m)=true):=by
 unfold kY;rw[zAa,bX,zAa,zAa,Bool.or_eq_true,ao,Bool.or_eq_true,zAa,gX,aq,aq,mg]
theorem UJ(hS:ak Tryz.prog cfg S):ak Tryz.prog cfg (bb S 41 s9):=by
 refine au hS λargs t v he hv=>?_;unfold s9 at he;split at he
 . rename_i y m d;cases he;obtain⟨h1,hv'⟩:=bO hv;clear hv;have hv:=hv';clear hv'
   cases hv;obtain⟨hy,hd,hm⟩:=ju.1 h1;have hm1:0<=m/\m<=41:=by omega
   have bl:0<=iE y/\iE y<=1:=Go.Proofs.YtoghlpcacfnjbaaGreatDoor.lp_01 y;have b1:=@rm y hy.1 (by omega);have b2:1<=m->m<=12->-3652425000000000001<=aG y m/\aG y m<=3652425000000000800:=λk1 k2=>mst_bd hy k1 (by omega);have hn:=jk y m;have ys:bf (y+1)=bf y+365+iE y:=Go.Proofs.YtoghlpcacfnjbaaGreatDoor.yst_succ y;have ms:1<=m->m<=12->aG y (m+1)=aG y m+d6 y m:=λk1 k2=>p9 k1 k2;have yb:=bX.2 hy;have cb:=@mg m;refine nF (Wu vW) ai (bE 100227022701007000700070410704100220220204) (R:=λQ=>(λ(A N:AV)(B C E F H:Bool)(G I:Int)=>(λ(O P:Int)=>(λ(T:Int)=>(λ(U:Prop->Prop)=>(aa m 0->F/\F/\af .i64 G/\af .i64 y/\af .i64 O/\Q (.h [A,.a .i64 (bf y),A,.a .i64 O]))/\(aa m 0=false->(H->B/\zI m/\eO (fq y m)/\Q (.h [A,.a .i64 (aG y (fR m)),A,.a .i64 (HSub.hSub (aG (fq y m) (HAdd.hAdd (kX y m) 2)) 1)]))/\(H=false->(aa d 0->B/\C/\E/\B/\C/\E/\af .i64 y/\af .i64 P/\af .i64 T/\Q (.h [A,.a .i64 I,A,.a .i64 T]))/\(aa d 0=false->U (U (Q (.h [A,N,A,N]))))))) (λu0=>B/\C/\E/\ab 1 d/\ab d 31/\u0)) (Int.sub P 1)) (Int.add G (iE y)) (Int.add I (d6 y m))) (.a .i8 0) (.a .i64 (HSub.hSub (HAdd.hAdd (aG y m) d) 1)) (eO y) (ab 1 m) (ab m 13) (and (ab (Neg.neg 10000000000000000) y) (ab y 10000000000000001)) (not (ab m 12)) (Int.add (bf y) 364) (HSub.hSub (HAdd.hAdd (aG y m) 1) 1)) (λ_=>by kernel_rfl) (hi:=(by simp[aC,bw,vR])) λQ' hQ=>?_;try dsimp only
   unfold vR iO iD at hQ;rw[yb];generalize fq y m=sy at *;generalize kX y m=sm at *;generalize aG y (fR m)=k1 at *;generalize aG sy (sm+2)=k2 at *;cases hm0:aa m 0 with
   | true=>
     rw[hm0,cond_true,cond_true,ys]at hQ;rw[ao]at hm0;simp only[az,reduceCtorEq]
     (repeat' first|exact trivial|refine⟨?_,?_⟩|intro)<;>first|contradiction|omega|(rw[show bf y+364+iE y=bf y+365+iE y-1 by omega];exact hQ)
   | false=>
     rw[hm0,cond_false,cond_false]at hQ;rw[aw]at hm0;cases h13:ab 13 m with
     | true=>
       rw[h13,cond_true,cond_true]at hQ;rw[aq]at h13;have hs:eO sy=true:=by rcases hm with h|h|h<;>first|omega|exact h.2
       have hc:zI m=true:=cb.2 (by omega);rw[hs,hc];simp only[az,reduceCtorEq]
       (repeat' first|exact trivial|refine⟨?_,?_⟩|intro)<;>first|contradiction|omega|exact hQ
     | false=>
       rw[h13,cond_false,cond_false]at hQ;rw[bF]at h13;have e:=ms (by omega) (by omega);have b2:=b2 (by omega) (by omega);cases hd0:aa d 0 with
       | true=>
         rw[hd0,cond_true,cond_true,e]at hQ;rw[ao]at hd0;simp only[az,reduceCtorEq]
         (repeat' first|exact trivial|refine⟨?_,?_⟩|intro)<;>first|contradiction|omega|(rw[show aG y m+1-1=aG y m by omega];exact hQ)
       | false=>
         rw[hd0,cond_false,cond_false]at hQ;rw[aw]at hd0;simp only[az,reduceCtorEq]
         (repeat' first|exact trivial|refine⟨?_,?_⟩|intro)<;>first|contradiction|omega|exact hQ
 . cases he
def GU1:aQ:=bb R7 174 Nz
theorem J6:ak Tryz.prog cfg GU1:=MA yF
theorem Dj(s t:List UInt8)(a b:Int):aY (s++t) a b=aY s a b+aY t a b:=by
 unfold aY;rw[List.filter_append,zAg]
theorem Oo{s:List UInt8}(h:aY s 88 88=0):∀c∈s,c.toNat≠88:=λc hc h88=>by
 unfold aY at h;rw[List.length_eq_zero_iff,List.filter_eq_nil_iff]at h;refine h c hc ?_;rw[h88];rfl
theorem Yz{mo t:List UInt8}{r:Int}(h1:H4 t/\XR t=c)(h2:r=0\/(H4 mo/\XR mo=r)):(bif ae mo t then c else r)=0\/(H4 mo/\XR mo=bif ae mo t then c else r):=by
 cases hb:ae mo t with
 | true=>rw[bV,beq_iff_eq]at hb;subst hb;exact .inr h1
 | false=>exact h2
theorem L6(mo:List UInt8):aR mo=0\/(H4 mo/\XR mo=aR mo):=by
 unfold aR
 (repeat' refine Yz ⟨by decide,by decide⟩ ?_)
 exact .inl rfl
theorem N_(hc:21<=c/\c<=41)(hy : -10000000000000000<=y/\y<=10000000000000000)(h:(c≠24/\c≠28/\c≠30)\/y≠10000000000000000):eO (fq y c)=true:=by
 obtain⟨h1,h2,h3⟩:=KJ hc;rw[bX];unfold fq dc;omega
theorem Gx{m:Int}(h:kY y m d) : -3652425000000000002<=iO y m d/\iO y m d<=iD y m d/\iD y m d<=3652425000000002000:=by
 obtain⟨hy,hd,hm⟩:=ju.1 h;unfold iO iD;cases hm0:aa m 0 with
 | true=>
   have b1:=@rm y hy.1 (by omega);have ys:bf (y+1)=bf y+365+iE y:=Go.Proofs.YtoghlpcacfnjbaaGreatDoor.yst_succ y;have bl:0<=iE y/\iE y<=1:=Go.Proofs.YtoghlpcacfnjbaaGreatDoor.lp_01 y;simp only[cond_true];omega
 | false=>
   rw[aw]at hm0;simp only[cond_false];cases h13:ab 13 m with
   | true=>
     rw[aq]at h13;simp only[cond_true];have hc:21<=m/\m<=41:=by omega
     obtain⟨⟨f1,f2⟩,n1,n2⟩:=xH hc;have b0:=@mst_bd y (fR m) hy f1 (by omega);have hs:=(ox (12*y+fR m-1+(mR m-1))).2;rw[show 12*y+fR m-1+(mR m-1)+1=12*y+fR m-1+mR m by omega,show 12*y+fR m-1+(mR m-1)=12*y+(fR m-1)+(mR m-1)by omega]at hs;have e0:eN (12*y+fR m-1)=aG y (fR m):=by
      unfold eN;rw[show dc (12*y+fR m-1) 12=y by unfold dc;omega,show d8 (12*y+fR m-1) 12+1=fR m by unfold d8;omega]
     have bk:=EX (12*y+fR m-1) (mR m).toNat;rw[show((mR m).toNat:Int)=mR m by omega,hs,e0]at bk;have:aG (dc (12*y+(fR m-1)+(mR m-1)) 12) (d8 (12*y+(fR m-1)+(mR m-1)) 12+2)=aG (fq y m) (kX y m+2):=rfl;rw[this]at bk;omega
   | false=>
     rw[bF]at h13;simp only[cond_false];have b2:=@mst_bd y m hy (by omega) (by omega);have e:=@p9 y m (by omega) (by omega);have hn:=jk y m;cases aa d 0<;>simp only[zAj]<;>omega
theorem yR{y:Int}:aN (bf y)=y/\aN (bf (y+1)-1)=y:=by
 have ys:bf (y+1)=bf y+365+iE y:=Go.Proofs.YtoghlpcacfnjbaaGreatDoor.yst_succ y;have bl:0<=iE y/\iE y<=1:=Go.Proofs.YtoghlpcacfnjbaaGreatDoor.lp_01 y;refine⟨Go.Proofs.YtoghlpcacfnjbaaGreatDoor.yOf_unique (Int.le_refl _) ?_,Go.Proofs.YtoghlpcacfnjbaaGreatDoor.yOf_unique ?_ ?_⟩
 . show bf y<bf (y+1);omega
 . show bf y<=bf (y+1)-1;omega
 . show bf (y+1)-1<bf (y+1);omega
theorem eF{a:Int}(h:a<=b):bf a<=bf b:=Go.Proofs.YtoghlpcacfnjbaaGreatDoor.yst_le h
theorem n9:bf (-10000000000000000) = -3652425000000000000/\bf 10000000000000000=3652425000000000000:=by decide
theorem Qo{a:Int}(h:a<=b):bA 0 a 0 b=0:=gA.2 ⟨.inl rfl,.inl rfl,.inr ⟨rfl,h⟩⟩
end Go.Ev
