import Derived.Test.YtoghlpcacfnjbaaGreatDoorP43
set_option linter.all false
set_option maxRecDepth 100000
set_option maxHeartbeats 4000000
namespace Go.Ev
open Go Go.Proofs
variable{mo da s:List UInt8}{ng lg:Bool}{e b c y m:Int}{S:aQ}
def fG(ng:Bool)(s:List UInt8)(e:Int)(mo da:List UInt8):Option (Int×Int×Int):=cJ ng s e (-9223372036854775808) 0 0 mo da (cA mo) (dF da) (yV ng s e (-9223372036854775808) true) (yB ng s e (-9223372036854775808) true)
def fF(ng:Bool)(s:List UInt8)(e:Int)(mo da:List UInt8):Option (Int×Int×Int):=eX ng s e da (fk (cA mo)) (fk (dF da)) (yV ng s e 9223372036854775807 false) (yB ng s e 9223372036854775807 false)
noncomputable def Zy:aQ:=eQ (bb gZ 47 TL) 82 (fl 14 [] Rv)
noncomputable def SEU:aQ:=eQ Zy 83 (fl 14 [1,1] Oy)
noncomputable def SED:aQ:=eQ Zy 83 (fl 14 [1,1] Rp)
def SO:dP:=λargs=>match args with
 | [.h [.b ng,.b lg,.d s,.a .i64 e,.a .i64 g,.d mo,.d da,.a .u8 a,.a .u8 b,.a .u8 c]]=>some (aH [Nat.ble s.length 1000,Nat.ble mo.length 1000,Nat.ble da.length 1000,af .i64 e,aa g 0,af .u8 a,af .u8 b,af .u8 c,aa (bW ng lg s e g mo da a b c) 0] (.a0 (.e [.h [.a .i64 (p1 (fG ng s e mo da)),.a .i64 (p2 (fG ng s e mo da)),.a .i64 (p3 (fG ng s e mo da))],.a .i64 0])))
 | _=>none
def So:dP:=λargs=>match args with
 | [.h [.b ng,.b lg,.d s,.a .i64 e,.a .i64 g,.d mo,.d da,.a .u8 a,.a .u8 b,.a .u8 c]]=>some (aH [Nat.ble s.length 1000,Nat.ble mo.length 1000,Nat.ble da.length 1000,af .i64 e,aa g 0,af .u8 a,af .u8 b,af .u8 c,aa (bW ng lg s e g mo da a b c) 0] (.a0 (.e [.h [.a .i64 (p1 (fF ng s e mo da)),.a .i64 (p2 (fF ng s e mo da)),.a .i64 (p3 (fF ng s e mo da))],.a .i64 0])))
 | _=>none
theorem Mp:ak Tryz.prog cfg Zy:=Qp (G9 aW)
theorem Rz:ak Tryz.prog cfg SEU:=Mb Mp
theorem Sr:ak Tryz.prog cfg SED:=Rr Mp
theorem CT{α:Type}{l:List α}(h:l.isEmpty=false):1<=l.length:=by cases l with|nil=>cases h|cons x l=>simp
theorem Ow(h:wh mo da):1<=(cA mo).length:=by
 rcases qG h with⟨rfl,rfl⟩|⟨k1,k2,rfl⟩|⟨m0,m1,rfl,k1,k2,k3,k4,k5⟩
 . show 1<=1;decide
 . unfold cA;rw[k1,cond_false,k2];show 1<=1;decide
 . unfold cA;rw[show ae [m0,m1] []=false from rfl,cond_false,k1,cond_true];show 1<=(ay m0 m1 12).length;exact CT k4
theorem KH{a:Int}(hE:bW ng lg s e 0 mo da a b c=0):1<=(dF da).length/\(ae da [] || !(gU (dF da)))=true:=by
 cases hd:ae da []with
 | true=>
   have:=ba.1 hd;subst this;exact⟨Nat.le_refl 1,rfl⟩
 | false=>
   obtain⟨m0,m1,d0,d1,rfl,rfl,_,_,_,_,_,k1,_⟩:=kq (gq hE) hd;have nd:gU (dF [d0,d1])=false:=s7 k1;exact⟨CT nd,by rw[nd];rfl⟩
theorem Sc{a:Int}(h1:Nat.ble s.length 1000)(h2:Nat.ble mo.length 1000)(h3:Nat.ble da.length 1000)(h4:af .i64 e)(h5:af .u8 a)(h6:af .u8 b)(h7:af .u8 c)(hE:bW ng lg s e 0 mo da a b c=0) :
 bu Tryz.prog cfg 88 [.h [.b ng,.b lg,.d s,.a .i64 e,.a .i64 0,.d mo,.d da,.a .u8 a,.a .u8 b,.a .u8 c]] [] (.e [.h [.a .i64 (p1 (fG ng s e mo da)),.a .i64 (p2 (fG ng s e mo da)),.a .i64 (p3 (fG ng s e mo da))],.a .i64 0]) []:=by
 have h8:=ao.mpr hE;obtain⟨ho,hx,_⟩:=dC (gq hE) dE;have md:=wD hE;have am:=D9 hE;have lM:=@Ej mo;have lD:=@DV da;have nd:=(KH hE).2;have li:∀l:List Int,kZ l=l.length:=λ_=>rfl;have l1:Nat.ble (cA mo).length 1000=true:=al.mpr (by omega);have l2:Nat.ble (dF da).length 1000=true:=al.mpr (by omega);have l3:=Nat.beq_refl (cA mo).length;have l4:=Nat.beq_refl (dF da).length;have l5:Nat.ble (0+(cA mo).length*1) (cA mo).length=true:=al.mpr (by omega);have l6:Nat.ble (0+(dF da).length*1) (dF da).length=true:=al.mpr (by omega);refine nF Rz ai (bE 1005702277000270227056370275666) (R:=λQ=>(λ(C G H:Bool)(I:List AV)(E:List Int)=>(λ(A B:List AV)=>(λ(F:Option (Int×Int×Int))=>(λ(N:Prop->Prop)=>N (not (aa (bW ng lg s e 0 mo da a b c) 0)=false/\wh mo da/\N (or (ae da []) (not (gU E))/\and (and true (and (Nat.ble (HAdd.hAdd 0 (HMul.hMul (kZ (cA mo)) 1)) I.length) (bc 14 A))) (and (Nat.ble (HAdd.hAdd 0 (HMul.hMul (kZ E) 1)) (List.length (aI E))) (bc 14 B))/\List.all A (bC .i64)/\List.all B (bC .i64)/\Nat.beq A.length (kZ (cA mo))/\Nat.beq B.length (kZ E)/\Nat.ble (kZ (cA mo)) 1000/\Nat.ble (kZ E) 1000/\jY da (d7 A)/\aV ng lg s e 0/\C/\lP s/\Q (.e [.h [.a .i64 (p1 F),.a .i64 (p2 F),.a .i64 (p3 F)],.a .i64 0])))) (λu0=>C/\G/\H/\af .i64 e/\af .u8 a/\af .u8 b/\af .u8 c/\u0)) (cJ ng s e (Neg.neg 9223372036854775808) 0 0 mo da (d7 A) (d7 B) (yV ng s e (Neg.neg 9223372036854775808) true) (yB ng s e (Neg.neg 9223372036854775808) true))) (b_ I 0 (HMul.hMul (kZ (cA mo)) 1)) (b_ (aI E) 0 (HMul.hMul (kZ E) 1))) (Nat.ble s.length 1000) (Nat.ble mo.length 1000) (Nat.ble da.length 1000) (aI (cA mo)) (dF da)) (λ_=>by kernel_rfl) λQ' hQ=>?_;try dsimp only
 simp only[li,qz,cY,oL,mf,cz,h1,h2,h3,h4,h5,h6,h7,h8,md,ho,hx,am,l1,l2,l3,l4,l5,l6,nd,Bool.not_true,Bool.and_true,Bool.true_and,reduceCtorEq,zAh];exact hQ
theorem Xl{a:Int}(h1:Nat.ble s.length 1000)(h2:Nat.ble mo.length 1000)(h3:Nat.ble da.length 1000)(h4:af .i64 e)(h5:af .u8 a)(h6:af .u8 b)(h7:af .u8 c)(hE:bW ng lg s e 0 mo da a b c=0) :
 bu Tryz.prog cfg 89 [.h [.b ng,.b lg,.d s,.a .i64 e,.a .i64 0,.d mo,.d da,.a .u8 a,.a .u8 b,.a .u8 c]] [] (.e [.h [.a .i64 (p1 (fF ng s e mo da)),.a .i64 (p2 (fF ng s e mo da)),.a .i64 (p3 (fF ng s e mo da))],.a .i64 0]) []:=by
 have h8:=ao.mpr hE;obtain⟨ho,hx,_⟩:=dC (gq hE) dE;have md:=wD hE;have am:=D9 hE;have lM:=@Ej mo;have lD:=@DV da;obtain⟨dp,nd⟩:=KH hE;have mp:=Ow md;have li:∀l:List Int,kZ l=l.length:=λ_=>rfl;have l1:Nat.ble (cA mo).length 900=true:=al.mpr (by omega);have l2:Nat.ble (dF da).length 900=true:=al.mpr (by omega);have l7:Nat.ble 1 (cA mo).length=true:=al.mpr mp;have l8:Nat.ble 1 (dF da).length=true:=al.mpr dp;have l3:=Nat.beq_refl (cA mo).length;have l4:=Nat.beq_refl (dF da).length;have l5:Nat.ble (0+(cA mo).length*1) (cA mo).length=true:=al.mpr (by omega);have l6:Nat.ble (0+(dF da).length*1) (dF da).length=true:=al.mpr (by omega);refine nF Sr ai (bE 1627777000270227056370275666) (R:=λQ=>(λ(C G H:Bool)(I:List AV)(E:List Int)=>(λ(A B:List AV)=>(λ(F:Option (Int×Int×Int))=>(λ(N:Prop->Prop)=>N (not (aa (bW ng lg s e 0 mo da a b c) 0)=false/\wh mo da/\N (or (ae da []) (not (gU E))/\and (and true (and (Nat.ble (HAdd.hAdd 0 (HMul.hMul (kZ (cA mo)) 1)) I.length) (bc 14 A))) (and (Nat.ble (HAdd.hAdd 0 (HMul.hMul (kZ E) 1)) (List.length (aI E))) (bc 14 B))/\List.all A (bC .i64)/\List.all B (bC .i64)/\Nat.beq A.length (kZ (cA mo))/\Nat.beq B.length (kZ E)/\Nat.ble (kZ (cA mo)) 900/\Nat.ble (kZ E) 900/\Nat.ble 1 (kZ (cA mo))/\Nat.ble 1 (kZ E)/\jY da (d7 A)/\aV ng lg s e 0/\C/\lP s/\Q (.e [.h [.a .i64 (p1 F),.a .i64 (p2 F),.a .i64 (p3 F)],.a .i64 0])))) (λu0=>C/\G/\H/\af .i64 e/\af .u8 a/\af .u8 b/\af .u8 c/\u0)) (eX ng s e da (fk (d7 A)) (fk (d7 B)) (yV ng s e 9223372036854775807 false) (yB ng s e 9223372036854775807 false))) (b_ I 0 (HMul.hMul (kZ (cA mo)) 1)) (b_ (aI E) 0 (HMul.hMul (kZ E) 1))) (Nat.ble s.length 1000) (Nat.ble mo.length 1000) (Nat.ble da.length 1000) (aI (cA mo)) (dF da)) (λ_=>by kernel_rfl) λQ' hQ=>?_;try dsimp only
 simp only[li,qz,cY,oL,mf,cz,h1,h2,h3,h4,h5,h6,h7,h8,md,ho,hx,am,l1,l2,l3,l4,l5,l6,l7,l8,nd,Bool.not_true,Bool.and_true,Bool.true_and,reduceCtorEq,zAh];exact hQ
theorem SR(hS:ak Tryz.prog cfg S):ak Tryz.prog cfg (bb S 88 SO):=au hS λargs t v he hv=>by
 unfold SO at he;split at he
 . rename_i ng lg s e g mo da a b c;cases he;replace hv:=aF hv;obtain⟨⟨h1,h2,h3,h4,h5,h6,h7,h8,h9,-⟩,hv⟩:=hv;rw[ao]at h5 h9;subst h5;cases hv;exact Sc h1 h2 h3 h4 h6 h7 h8 h9
 . cases he
theorem SP(hS:ak Tryz.prog cfg S):ak Tryz.prog cfg (bb S 89 So):=au hS λargs t v he hv=>by
 unfold So at he;split at he
 . rename_i ng lg s e g mo da a b c;cases he;replace hv:=aF hv;obtain⟨⟨h1,h2,h3,h4,h5,h6,h7,h8,h9,-⟩,hv⟩:=hv;rw[ao]at h5 h9;subst h5;cases hv;exact Xl h1 h2 h3 h4 h6 h7 h8 h9
 . cases he
def ie(p q:Rn):Rn:=⟨bif ab 0 (cq q.a q.b p.a p.b)then p.a else q.a,bif ab 0 (cq q.a q.b p.a p.b)then p.b else q.b,bif ab (cq q.c q.d p.c p.d) 0 then p.c else q.c,bif ab (cq q.c q.d p.c p.d) 0 then p.d else q.d⟩
def rA(r:Rn):Int:=r.a
def rB(r:Rn):Int:=r.b
def rC(r:Rn):Int:=r.c
def rD(r:Rn):Int:=r.d
def RI:dP:=λargs=>match args with
 | [.h [.a .i8 a,.a .i64 b,.a .i8 c,.a .i64 d],.h [.a .i8 a2,.a .i64 b2,.a .i8 c2,.a .i64 d2]]=>some (.a0 (.h [.a .i8 (rA (ie ⟨a,b,c,d⟩ ⟨a2,b2,c2,d2⟩)),.a .i64 (rB (ie ⟨a,b,c,d⟩ ⟨a2,b2,c2,d2⟩)),.a .i8 (rC (ie ⟨a,b,c,d⟩ ⟨a2,b2,c2,d2⟩)),.a .i64 (rD (ie ⟨a,b,c,d⟩ ⟨a2,b2,c2,d2⟩))]))
 | _=>none
def SBo:aQ:=eQ gZ 52 (BI FB)
def dJ(acc:Rn)(R:List Rn):Rn:=R.foldl ie acc
def YI:dW:=λvs o=>match vs,o with
 | [.g 15 0,.c 16 0 n (.a 0),.g 17 0,.a .i64 i],⟨4,[.a [.a .i8 a,.a .i64 b,.a .i8 c,.a .i64 d] true none,.a w true (some 4),X,F],[]⟩=>
   some (aH [aa i 0,eJ w,Nat.beq (g8 w).length n,Nat.ble n 1000000] (.a0 (.b 0,[.g 15 0,.c 16 0 n (.a 0),.g 17 0,.a .i64 (Int.ofNat n)],⟨4,[.a [.a .i8 (rA (dJ ⟨a,b,c,d⟩ (g8 w))),.a .i64 (rB (dJ ⟨a,b,c,d⟩ (g8 w))),.a .i8 (rC (dJ ⟨a,b,c,d⟩ (g8 w))),.a .i64 (rD (dJ ⟨a,b,c,d⟩ (g8 w)))] true none,.a w true (some 4),X,F],[]⟩)))
 | _,_=>none
noncomputable def L27:cx:=iz jE 0 (d9 29 [2,3,4,5] YI)
noncomputable def YP:aQ:=eQ (bb gZ 22 RI) 21 (fl 14 [] NV)
def Z_(w:List AV)(X F:aD)(a b c d:Int)(n i:Nat)(J:Nat->Value){Q:VQ->Prop}:gG Q (rT YP jE [] 7 0 29 [2,3,4,5] [.g 15 0,.c 16 0 n (.a 0),.g 17 0,.a .i64 (Int.ofNat i)] J ⟨4,[.a [.a .i8 a,.a .i64 b,.a .i8 c,.a .i64 d] true none,.a w true (some 4),X,F],[]⟩) (bE 111400227054)=((λ(N:aD)(A C E G:AV)(B:Int)(I:Nat)=>(λ(P:AV)(O:Bool)(H:Int)(T:Nat)=>(λ(U:AV)(W:Bool)(V:Nat)=>(λ(Y Z:AV)=>(O->aS i n/\bC .i8 P/\bC .i64 U/\bC .i8 Y/\bC .i64 Z/\(W->Q (.a,[C,E,G,.a .i64 H],⟨4,[.a [.a .i8 (rA (ie ⟨a,b,c,d⟩ ⟨aK P,aK U,aK Y,aK Z⟩)),.a .i64 (rB (ie ⟨a,b,c,d⟩ ⟨aK P,aK U,aK Y,aK Z⟩)),.a .i8 (rC (ie ⟨a,b,c,d⟩ ⟨aK P,aK U,aK Y,aK Z⟩)),.a .i64 (rD (ie ⟨a,b,c,d⟩ ⟨aK P,aK U,aK Y,aK Z⟩))] true none,N,X,F],[]⟩))/\(W=false->Q (.a,[C,E,G,.a .i64 (IntKind.wrap .i64 H)],⟨4,[.a [.a .i8 (rA (ie ⟨a,b,c,d⟩ ⟨aK P,aK U,aK Y,aK Z⟩)),.a .i64 (rB (ie ⟨a,b,c,d⟩ ⟨aK P,aK U,aK Y,aK Z⟩)),.a .i8 (rC (ie ⟨a,b,c,d⟩ ⟨aK P,aK U,aK Y,aK Z⟩)),.a .i64 (rD (ie ⟨a,b,c,d⟩ ⟨aK P,aK U,aK Y,aK Z⟩))] true none,N,X,F],[]⟩)))/\(O=false->Q (.b 0,[C,E,G,.a .i64 B],⟨4,[.a [.a .i8 a,.a .i64 b,.a .i8 c,.a .i64 d] true none,N,X,F],[]⟩))) (List.getD w V A) (List.getD w (HAdd.hAdd V 1) A)) (List.getD w T A) (af .i64 H) (HAdd.hAdd T 1)) (List.getD w I A) (not (ab (Int.ofNat n) B)) (Int.add B 1) (HAdd.hAdd I 1)) (.a w true (some 4)) (.e []) (.g 15 0) (.c 16 0 n (fg.a 0)) (.g 17 0) (Int.ofNat i) (HAdd.hAdd 0 (HMul.hMul i 4))):=by kernel_rfl
def R_:bj tab 7=some (dH 7,aL 7):=by kernel_rfl
def Of:(bz (aL 7)).map (·.1)=[0]:=by kernel_rfl
theorem n4:ak Tryz.prog cfg SBo:=bm aW (Gi 52 _ rfl)
theorem Rf(hS:ak Tryz.prog cfg S):ak Tryz.prog cfg (bb S 22 RI):=au hS λargs t v he hv=>by
 unfold RI at he;split at he
 . rename_i a b c d a2 b2 c2 d2;cases he;cases hv;refine nF n4 ai (bE 105155451051554000545) (R:=λQ=>(λ(C E F G H I N O:AV)(A B:Bool)=>(λ(P:Prop)=>(B->(A->Q (.h [C,E,F,G]))/\(P->Q (.h [C,E,H,I])))/\(B=false->(A->Q (.h [N,O,F,G]))/\(P->Q (.h [N,O,H,I])))) (A=false)) (.a .i8 a2) (.a .i64 b2) (.a .i8 c2) (.a .i64 d2) (.a .i8 c) (.a .i64 d) (.a .i8 a) (.a .i64 b) (not (ab (cq c2 d2 c d) 0)) (not (ab 0 (cq a2 b2 a b)))) (λ_=>by kernel_rfl) λQ' hQ=>?_;try dsimp only
   unfold ie rA rB rC rD at hQ;cases k1:ab 0 (cq a2 b2 a b)<;>cases k2:ab (cq c2 d2 c d) 0<;>simp only[k1,k2,zAj]at hQ<;>simp only[Bool.not_true,Bool.not_false,reduceCtorEq,zAh]<;>exact hQ
 . cases he
theorem Er:ak Tryz.prog cfg YP:=MG (Rf aW)
theorem Jy{R:List Rn}{acc:Rn}{i:Nat}(h:i<R.length):dJ acc (R.take (i+1))=ie (dJ acc (R.take i)) (R.getD i fo):=by
 rw[A1 h];unfold dJ;rw[List.foldl_append];rfl
theorem YR:cu Tryz.prog (cH cfg YP) (Cw cfg []) (lb 7 0) 29 [2,3,4,5] YI:=by
 intro vs o t Q hv hq J;unfold YI at hv;split at hv
 . rename_i n i a b c d w X F;cases hv;replace hq:=cO hq;obtain⟨⟨k1,k3,k4,k5,-⟩,hq⟩:=hq;rw[ao]at k1;rw[aJ]at k4;rw[al]at k5;subst k1;have ew:=hZ k3;generalize g8 w=R at *;subst k4 ew;have hq:Q (.b 0,_,_):=hq;have e0:(⟨a,b,c,d⟩:Rn)=dJ ⟨a,b,c,d⟩ (R.take 0):=rfl;refine ia Er rfl rfl ai (ι:={i:Nat // i<=R.length}) (λz=>[.g 15 0,.c 16 0 R.length (.a 0),.g 17 0,.a .i64 (Int.ofNat z.1)]) (λz=>⟨4,[.a [.a .i8 (rA (dJ ⟨a,b,c,d⟩ (R.take z.1))),.a .i64 (rB (dJ ⟨a,b,c,d⟩ (R.take z.1))),.a .i8 (rC (dJ ⟨a,b,c,d⟩ (R.take z.1))),.a .i64 (rD (dJ ⟨a,b,c,d⟩ (R.take z.1)))] true none,.a (bh R) true (some 4),X,F],[]⟩) (λz=>R.length-z.1) 4 (λz=>Nat.le_refl _) (λz J=>?_) (Nat.le_refl _) (λJ=>Wk.a0 ⟨⟨0,Nat.zero_le _⟩,J,rfl⟩) J;obtain⟨i,hi⟩:=z;dsimp only;have fa:=@wH R i;have one:=@Jy R ⟨a,b,c,d⟩ i;clear e0;by_cases h0:i<R.length
   . obtain⟨g0,g1,g2,g3⟩:=fa h0;have nx:∃z:{i:Nat // i<=R.length},R.length-z.1<R.length-i/\VW cfg (Cw cfg []) 4 29 [2,3,4,5] [.g 15 0,.c 16 0 R.length (.a 0),.g 17 0,.a .i64 (Int.ofNat (i+1))] ⟨4,[.a [.a .i8 (rA (dJ ⟨a,b,c,d⟩ (R.take (i+1)))),.a .i64 (rB (dJ ⟨a,b,c,d⟩ (R.take (i+1)))),.a .i8 (rC (dJ ⟨a,b,c,d⟩ (R.take (i+1)))),.a .i64 (rD (dJ ⟨a,b,c,d⟩ (R.take (i+1))))] true none,.a (bh R) true (some 4),X,F],[]⟩ [.g 15 0,.c 16 0 R.length (.a 0),.g 17 0,.a .i64 (Int.ofNat z.1)] ⟨4,[.a [.a .i8 (rA (dJ ⟨a,b,c,d⟩ (R.take z.1))),.a .i64 (rB (dJ ⟨a,b,c,d⟩ (R.take z.1))),.a .i8 (rC (dJ ⟨a,b,c,d⟩ (R.take z.1))),.a .i64 (rD (dJ ⟨a,b,c,d⟩ (R.take z.1)))] true none,.a (bh R) true (some 4),X,F],[]⟩:=⟨⟨i+1,h0⟩,by dsimp only;omega,VW.b0⟩;rw[one h0]at nx;clear hq one fa;generalize dJ ⟨a,b,c,d⟩ (R.take i)=acc at *;refine e8 λQ' hQ=>cg ((Z_ (bh R) X F (rA acc) (rB acc) (rC acc) (rD acc) R.length i J).mpr ?_);dsimp only;have go3:=hQ (.a,_,_) nx;have hl:aS i R.length=true:=aU.2 h0;have b3:af .i64 (Int.add (Int.ofNat i) 1)=true:=by rw[aE];simp only[eH,eE];show _<=(i:Int)+1/\(i:Int)+1<=_;omega
     try dsimp only
     rw[oz,decide_eq_false (by omega),show 0+i*4=i*4 by omega,show i*4+1+1+1=i*4+3 by omega,show i*4+1+1=i*4+2 by omega,g0,g1,g2,g3];generalize R.getD i fo=r at *;simp only[bC,aK,gP,lm,show Nat.beq 3 3=true from rfl,show Nat.beq 0 0=true from rfl,hl,b3,Bool.not_false,reduceCtorEq,zAh];exact go3
   . obtain rfl:i=R.length:=by omega
     have fin2:∃vs2 o2,VW cfg (Cw cfg []) 4 29 [2,3,4,5] [.g 15 0,.c 16 0 R.length (.a 0),.g 17 0,.a .i64 (Int.ofNat R.length)] ⟨4,[.a [.a .i8 (rA (dJ ⟨a,b,c,d⟩ (R.take R.length))),.a .i64 (rB (dJ ⟨a,b,c,d⟩ (R.take R.length))),.a .i8 (rC (dJ ⟨a,b,c,d⟩ (R.take R.length))),.a .i64 (rD (dJ ⟨a,b,c,d⟩ (R.take R.length)))] true none,.a (bh R) true (some 4),X,F],[]⟩ vs2 o2/\Q (.b 0,vs2,o2):=by
      rw[List.take_length];exact⟨_,_,VW.b0,hq⟩
     clear hq;generalize dJ ⟨a,b,c,d⟩ (R.take R.length)=acc at *;refine e8 λQ' hQ=>cg ((Z_ (bh R) X F (rA acc) (rB acc) (rC acc) (rD acc) R.length R.length J).mpr ?_);dsimp only;have fin3:=hQ (.b 0,_,_) fin2;try dsimp only
     rw[oz,decide_eq_true (by omega)];simp only[Bool.not_true,reduceCtorEq,zAh];exact fin3
 . cases hv
theorem OB{n:Int}(hn : -9223372036854775807<=n):yB ng s e n false->mK ng s e (yV ng s e n false)/\yV ng s e n false<=n/\∀k,mK ng s e k->k<=n->k<=yV ng s e n false:=by
 intro h;unfold yB at h;unfold yV mK;cases hx:Nat.beq (aY s 88 88) 0 with
 | true=>
   rw[hx]at h;simp only[zAj]at h ⊢;rw[aq]at h;exact⟨trivial,h,λk hk _=>by omega⟩
 | false=>
   rw[hx,cond_false]at h;simp only[cond_false];split at h
   . rename_i c0 c1 c2 c3;simp only;unfold I2 at h;unfold KM;cases ng with
     | true=>
       simp only[zAj]at h ⊢;cases hp:c_ c0 c1 c2 c3 (kh (Ao n) 1)with
       | none=>rw[hp]at h;cases h
       | some u=>
         simp only[cp,Option.getD_some];obtain⟨p1,p2,p3⟩:=gF.1 hp;unfold Ao at p2 p3;simp only[kP]at p2 p3;refine⟨⟨by omega,by rw[show -(0-u)=u by omega];exact p1⟩,by omega,λk hk hn=>?_⟩;have:=p3 (-k) hk.2 (by have:=hk.1;omega);omega
     | false=>
       simp only[cond_false,zAa,aq]at h ⊢;obtain⟨h1,h2⟩:=h;cases hp:cV c0 c1 c2 c3 n with
       | none=>rw[hp]at h1;cases h1
       | some u=>
         simp only[cp,Option.getD_some];obtain⟨p1,p2,p3⟩:=fb.1 hp;exact⟨p1,p2,λk hk hn=>p3 k hk hn⟩
   . cases h
theorem QK{n:Int}(hn : -9223372036854775807<=n)(hs:lP s)(h:yB ng s e n false=false){k:Int}(hk:mK ng s e k):n<k:=by
 unfold yB at h;unfold mK at hk;cases hx:Nat.beq (aY s 88 88) 0 with
 | true=>
   rw[hx]at h hk;simp only[zAj]at h hk;rw[bF]at h;omega
 | false=>
   rw[hx]at h hk;simp only[cond_false]at h hk;obtain⟨c0,c1,c2,c3,rfl,_⟩:=sV hs hx;simp only at h hk;unfold I2 at h;cases ng with
   | true=>
     simp only[zAj]at h hk;cases hp:c_ c0 c1 c2 c3 (kh (Ao n) 1)with
     | none=>
       have:=nJ.1 hp _ hk.2;have:=hk.1;unfold Ao at *;simp only[kP]at *;omega
     | some u=>rw[hp]at h;cases h
   | false=>
     simp only[cond_false]at h hk;cases hp:cV c0 c1 c2 c3 n with
     | none=>exact nu.1 hp _ hk
     | some u=>
       rw[hp]at h;simp only[fY,cp,Option.isSome_some,Option.getD_some,Bool.true_and]at h;rw[bF]at h;obtain⟨p1,p2,p3⟩:=fb.1 hp;have:=p1.1;omega
theorem tz{p:Int->Bool}:∀{l:List Int} {x y:Int},zS l->(fk l).find? p=some x->y∈l->p y->y<=x
 | [],_,_,_,h,_,_=>by cases h
 | a::l,x,y,hs,h,hy,hp=>by
   unfold zS at hs;rw[List.pairwise_cons]at hs;unfold fk at h;rw[List.reverse_cons,List.find?_append]at h;cases hr:l.reverse.find? p with
   | some z=>
     rw[hr]at h;cases h;have hx:x∈l:=List.mem_reverse.1 (List.mem_of_find?_eq_some hr);rcases List.mem_cons.1 hy with rfl|hy
     . exact Int.le_of_lt (hs.1 _ hx)
     . exact tz hs.2 hr hy hp
   | none=>
     rw[hr]at h;rcases List.mem_cons.1 hy with rfl|hy
     . rw[Option.none_or,List.find?_cons,hp]at h;cases h;exact Int.le_refl _
     . rw[List.find?_eq_none]at hr;exact absurd hp (hr y (List.mem_reverse.2 hy))
theorem wP{p:Int->Bool}{l:List Int}{x:Int}(h:l.find? p=some x):x∈l/\p x=true:=⟨List.mem_of_find?_eq_some h,List.find?_some h⟩
theorem oB{l:List Int}{x:Int}:x∈fk l↔x∈l:=List.mem_reverse
def Pn(y m d y' m' d':Int):Prop:=y<y'\/(y=y'/\(m<m'\/(m=m'/\d<=d')))
theorem wA{cy cm cd:Int}{D:List Int}(h:y≠cy):k_ y cy cm cd mo da D m=D.find? λd=>ab d (kN y m da):=by
 unfold k_ Ps gk;rw[aw.mpr h];simp only[Bool.false_and,cond_false];congr 1
 funext d
 unfold gR;simp
theorem wY{D:List Int}:tO y da D m=D.find? λd=>ab d (kN y m da):=by
 unfold tO yK gk;congr 1
 funext d
 unfold gR;simp
theorem D5{x:Option Int}(h:fY x):x=some (cp x):=by cases x with|none=>cases h|some u=>rfl
theorem F0{ng lg:Bool}{s:List UInt8}{e:Int}{mo da:List UInt8}(ho:aV ng lg s e 0)(hx:lP s):∀(t:Nat) (n:Int),MZ (yV ng s e n true) (yB ng s e n true)<=t->∀r,r=cJ ng s e (-9223372036854775808) 0 0 mo da (cA mo) (dF da) (yV ng s e n true) (yB ng s e n true)->
 (mJ r->f_ ng s e mo da (p1 r) (p2 r) (p3 r)/\∀y m d,f_ ng s e mo da y m d->n<=y->Pn (p1 r) (p2 r) (p3 r) y m d)/\(mJ r=false->∀y m d,f_ ng s e mo da y m d->y<n)
 | t,n,ht,r,hr=>by
   have bd:=iP (n:=n) (up:=true) ho;cases hb:yB ng s e n true with
   | false=>
     rw[hb,ii]at hr;subst hr;exact⟨λh=>(by cases h),λ_ y m d hm=>Jj hx hb hm.1⟩
   | true=>
     obtain⟨i1,i2,i3⟩:=yE hb;rw[hb]at hr ht;have hmu:=mC (ng:=ng) (s:=s) (e:=e) bd.2;have hcy:yV ng s e n true≠-9223372036854775808:=by omega
     generalize yV ng s e n true=y0 at *;cases hf:ff y0 (-9223372036854775808) 0 0 mo da (cA mo) (dF da)with
     | some m0=>
       rw[kK hf]at hr;subst hr;obtain⟨k1,k2⟩:=wP hf;have k2:fY (k_ y0 (-9223372036854775808) 0 0 mo da (dF da) m0)=true:=k2;have e0:=D5 k2;rw[wA hcy]at e0 k2;have ge:cp (k_ y0 (-9223372036854775808) 0 0 mo da (dF da) m0)=cp ((dF da).find? λd=>ab d (kN y0 m0 da)):=by rw[wA hcy]
       refine⟨λ_=>?_,λh=>(by cases h)⟩;show f_ ng s e mo da y0 m0 (cp (k_ y0 (-9223372036854775808) 0 0 mo da (dF da) m0))/\∀y m d,f_ ng s e mo da y m d->n<=y->Pn y0 m0 (cp (k_ y0 (-9223372036854775808) 0 0 mo da (dF da) m0)) y m d;rw[ge];obtain⟨d1,d2⟩:=wP e0;refine⟨⟨i1,k1,d1,aq.mp d2⟩,λy m d hm hn=>?_⟩;have hy:=i3 y hm.1 hn;by_cases ey:y0<y
       . exact .inl ey
       . obtain rfl:y0=y:=by omega
         refine .inr ⟨rfl,?_⟩;have pm:fY (k_ y0 (-9223372036854775808) 0 0 mo da (dF da) m)=true:=by
          rw[wA hcy];exact kJ.2 ⟨d,hm.2.2.1,aq.mpr hm.2.2.2⟩
         have hm0:m0<=m:=kD wR hf hm.2.1 pm;by_cases em:m0<m
         . exact .inl em
         . obtain rfl:m0=m:=by omega
           exact .inr ⟨rfl,kD B_ e0 hm.2.2.1 (aq.mpr hm.2.2.2)⟩
     | none=>
       rw[kx ho bd.2 hf]at hr
       match t,ht with
       | 0,ht=>omega
       | t+1,ht=>
         obtain⟨a1,a2⟩:=F0 ho hx t (y0+1) (by omega) r hr;have no:∀y m d,f_ ng s e mo da y m d->n<=y->y0+1<=y:=λy m d hm hn=>by
          have hy:=i3 y hm.1 hn;by_cases ey:y=y0
          . subst ey;exfalso;have:=List.find?_eq_none.1 hf m hm.2.1;refine this ?_;show fY (k_ y (-9223372036854775808) 0 0 mo da (dF da) m)=true;rw[wA hcy];exact kJ.2 ⟨d,hm.2.2.1,aq.mpr hm.2.2.2⟩
          . omega
         refine⟨λh=>⟨(a1 h).1,λy m d hm hn=>(a1 h).2 y m d hm (no y m d hm hn)⟩,λh y m d hm=>?_⟩;have h2:=a2 h y m d hm;by_cases hn:n<=y
         . have:=no y m d hm hn;omega
         . omega
theorem Gf{ng lg:Bool}{s:List UInt8}{e:Int}{mo da:List UInt8}(ho:aV ng lg s e 0)(hx:lP s):∀(t:Nat) (n:Int),-9223372036854775807<=n->Pf (yV ng s e n false) (yB ng s e n false)<=t->∀r,r=eX ng s e da (fk (cA mo)) (fk (dF da)) (yV ng s e n false) (yB ng s e n false)->
 (mJ r->f_ ng s e mo da (p1 r) (p2 r) (p3 r)/\∀y m d,f_ ng s e mo da y m d->y<=n->Pn y m d (p1 r) (p2 r) (p3 r))/\(mJ r=false->∀y m d,f_ ng s e mo da y m d->n<y)
 | t,n,hn0,ht,r,hr=>by
   have bd:=iP (n:=n) (up:=false) ho;cases hb:yB ng s e n false with
   | false=>
     rw[hb]at hr;have hr:r=none:=hr;subst hr;exact⟨λh=>(by cases h),λ_ y m d hm=>QK hn0 hx hb hm.1⟩
   | true=>
     obtain⟨i1,i2,i3⟩:=OB hn0 hb;rw[hb]at hr ht;have hmu:=sJ (ng:=ng) (s:=s) (e:=e) ho bd.1;generalize yV ng s e n false=y0 at *;cases hf:nR y0 da (fk (cA mo)) (fk (dF da))with
     | some m0=>
       rw[xY hf]at hr;subst hr;obtain⟨k1,k2⟩:=wP hf;have k2:fY (tO y0 da (fk (dF da)) m0)=true:=k2;have e0:=D5 k2;rw[wY]at e0 k2;refine⟨λ_=>?_,λh=>(by cases h)⟩;show f_ ng s e mo da y0 m0 (cp (tO y0 da (fk (dF da)) m0))/\∀y m d,f_ ng s e mo da y m d->y<=n->Pn y m d y0 m0 (cp (tO y0 da (fk (dF da)) m0));rw[wY];obtain⟨d1,d2⟩:=wP e0;refine⟨⟨i1,oB.1 k1,oB.1 d1,aq.mp d2⟩,λy m d hm hn=>?_⟩;have hy:=i3 y hm.1 hn;by_cases ey:y<y0
       . exact .inl ey
       . obtain rfl:y=y0:=by omega
         refine .inr ⟨rfl,?_⟩;have pm:fY (tO y da (fk (dF da)) m)=true:=by
          rw[wY];exact kJ.2 ⟨d,oB.2 hm.2.2.1,aq.mpr hm.2.2.2⟩
         have hm0:m<=m0:=tz wR hf hm.2.1 pm;by_cases em:m<m0
         . exact .inl em
         . obtain rfl:m=m0:=by omega
           exact .inr ⟨rfl,tz B_ e0 hm.2.2.1 (aq.mpr hm.2.2.2)⟩
     | none=>
       rw[xl ho bd.1 hf]at hr
       match t,ht with
       | 0,ht=>omega
       | t+1,ht=>
         obtain⟨a1,a2⟩:=Gf ho hx t (y0 + -1) (by omega) (by omega) r hr;have no:∀y m d,f_ ng s e mo da y m d->y<=n->y<=y0 + -1:=λy m d hm hn=>by
          have hy:=i3 y hm.1 hn;by_cases ey:y=y0
          . subst ey;exfalso;have:=List.find?_eq_none.1 hf m (oB.2 hm.2.1);refine this ?_;show fY (tO y da (fk (dF da)) m)=true;rw[wY];exact kJ.2 ⟨d,oB.2 hm.2.2.1,aq.mpr hm.2.2.2⟩
          . omega
         refine⟨λh=>⟨(a1 h).1,λy m d hm hn=>(a1 h).2 y m d hm (no y m d hm hn)⟩,λh y m d hm=>?_⟩;have h2:=a2 h y m d hm;by_cases hn:y<=n
         . have:=no y m d hm hn;omega
         . omega
theorem wX{a d y' m' d':Int}(hE:bW ng lg s e 0 mo da a b c=0)(h:f_ ng s e mo da y m d)(h':f_ ng s e mo da y' m' d')(hl:Pn y m d y' m' d'):iO y m d<=iO y' m' d'/\iD y m d<=iD y' m' d':=by
 unfold Pn at hl;have s1:=gH hE h;have s2:=gH hE h';rcases s1 with⟨rfl,rfl,rfl,rfl⟩|⟨k1,rfl,rfl,k3,k4,k5,k6⟩|⟨k1,k2,k3,⟨k4,rfl⟩|⟨k4,k5,k6⟩⟩
 . rcases s2 with⟨_,_,rfl,rfl⟩|⟨j1,_⟩|⟨j1,_⟩
   . have a1:=@qp y 0 (.inl rfl);have a2:=@qp y' 0 (.inl rfl);have i1:∀z,wi z 0=12*z:=λz=>rfl;have i2:∀z,sU z 0=12*z+12:=λz=>rfl;rw[a1.1,a1.2,a2.1,a2.2,i1,i1,i2,i2];have q1:=@kB (12*y) (12*y') (by omega);have q2:=@kB (12*y+12) (12*y'+12) (by omega);omega
   . exact absurd rfl j1
   . exact absurd rfl j1
 . rcases s2 with⟨j1,_⟩|⟨_,_,rfl,_,j4,j5,j6⟩|⟨_,j2,_⟩
   . exact absurd j1 k1
   . have a1:=@qp y m (.inr (.inr ⟨k5,k6⟩));have a2:=@qp y' m' (.inr (.inr ⟨j5,j6⟩));have em:m'=m:=by rw[k4,j4]
     subst em;have i1:∀z,wi z m'=12*z+(fR m' - 1):=λz=>by unfold wi;rw[aw.mpr (show m'≠0 by omega),aq.mpr (show 13<=m' by omega)];rfl
     have i2:∀z,sU z m'=12*z+(fR m' - 1)+mR m':=λz=>by unfold sU;rw[aw.mpr (show m'≠0 by omega),aq.mpr (show 13<=m' by omega)];rfl
     rw[a1.1,a1.2,a2.1,a2.2,i1,i1,i2,i2];have q1:=@kB (12*y+(fR m' - 1)) (12*y'+(fR m' - 1)) (by omega);have q2:=@kB (12*y+(fR m' - 1)+mR m') (12*y'+(fR m' - 1)+mR m') (by omega);omega
   . exact absurd j2 k3
 . rcases s2 with⟨j1,_⟩|⟨_,_,_,j3,_⟩|⟨_,_,j3,⟨_,rfl⟩|⟨j4,_⟩⟩
   . exact absurd j1 k1
   . exact absurd k2 j3
   . have a1:=@qp y m (.inr (.inl k3));have a2:=@qp y' m' (.inr (.inl j3));have i1:∀z n,1<=n/\n<=12->wi z n=12*z+(n-1):=λz n hn=>by unfold wi;rw[aw.mpr (show n≠0 by omega),bF.mpr (show n<13 by omega)];rfl
     have i2:∀z n,1<=n/\n<=12->sU z n=12*z+n:=λz n hn=>by unfold sU;rw[aw.mpr (show n≠0 by omega),bF.mpr (show n<13 by omega)];rfl
     rw[a1.1,a1.2,a2.1,a2.2,i1 _ _ k3,i1 _ _ j3,i2 _ _ k3,i2 _ _ j3];have q1:=@kB (12*y+(m-1)) (12*y'+(m' - 1)) (by omega);have q2:=@kB (12*y+m) (12*y'+m') (by omega);omega
   . exact absurd k4 j4
 . rcases s2 with⟨j1,_⟩|⟨_,_,_,j3,_⟩|⟨_,_,j3,⟨j4,_⟩|⟨_,j5,j6⟩⟩
   . exact absurd j1 k1
   . exact absurd k2 j3
   . exact absurd j4 k4
   . have el:∀z n k,1<=n/\n<=12->1<=k->iO z n k=aG z n+k-1/\iD z n k=aG z n+k-1:=λz n k hn hk=>by
      unfold iO iD;rw[aw.mpr (show n≠0 by omega),bF.mpr (show n<13 by omega),aw.mpr (show k≠0 by omega)];exact⟨rfl,rfl⟩
     rw[(el y m d k3 k5).1,(el y m d k3 k5).2,(el y' m' d' j3 j5).1,(el y' m' d' j3 j5).2];have s1:=@p9 y m k3.1 k3.2;have hl1:bP y m=d6 y m:=rfl;by_cases hlt:12*y+(m-1)<12*y'+(m' - 1)
     . have e1:iD y m 0=aG y (m+1)-1:=by unfold iD;rw[aw.mpr (show m≠0 by omega),bF.mpr (show m<13 by omega)];rfl
       have a1:=(@qp y m (.inr (.inl k3))).2;rw[show sU y m=12*y+m by unfold sU;rw[aw.mpr (show m≠0 by omega),bF.mpr (show m<13 by omega)];rfl,e1]at a1;have a2:=@yh y' m' j3;have q:=@kB (12*y+m) (12*y'+(m' - 1)) (by omega);omega
     . have:y=y'/\m=m'/\d<=d':=by omega
       obtain⟨rfl,rfl,hd⟩:=this;omega
theorem Ye{p q:Rn}(hp:p.a=0/\p.c=0)(hq:q.a=0/\q.c=0):ie p q=⟨0,min p.b q.b,0,max p.d q.d⟩:=by
 obtain⟨a,b,c,d⟩:=p;obtain⟨a',b',c',d'⟩:=q;obtain⟨rfl,rfl⟩:=hp;obtain⟨rfl,rfl⟩:=hq;unfold ie;have k1:ab 0 (cq 0 b' 0 b)=ab b b':=by
  rw[Bool.eq_iff_iff,aq,aq];unfold cq iI;(repeat' split)<;>omega
 have k2:ab (cq 0 d' 0 d) 0=ab d' d:=by
  rw[Bool.eq_iff_iff,aq,aq];unfold cq iI;(repeat' split)<;>omega
 simp only[k1,k2];cases h1:ab b b'<;>cases h2:ab d' d<;>simp only[aq,bF]at h1 h2<;>simp only[zAj,Rn.mk.injEq,true_and]<;>omega
theorem Xf:∀{R:List Rn} {acc:Rn},(acc.a=0/\acc.c=0)->(∀r∈R,r.a=0/\r.c=0)->((dJ acc R).a=0/\(dJ acc R).c=0)/\((dJ acc R).b<=acc.b/\(∀r∈R,(dJ acc R).b<=r.b)/\((dJ acc R).b=acc.b\/∃r∈R,(dJ acc R).b=r.b))/\(acc.d<=(dJ acc R).d/\(∀r∈R,r.d<=(dJ acc R).d)/\((dJ acc R).d=acc.d\/∃r∈R,(dJ acc R).d=r.d))
 | [],acc,h,_=>⟨h,⟨Int.le_refl _,λr hr=>(by cases hr),.inl rfl⟩,⟨Int.le_refl _,λr hr=>(by cases hr),.inl rfl⟩⟩
 | q::R,acc,h,hR=>by
   have e:=Ye h (hR q List.mem_cons_self);have ih:=@Xf R (ie acc q) (by rw[e];exact⟨rfl,rfl⟩) (λr hr=>hR r (List.mem_cons_of_mem _ hr));have eb:(ie acc q).b=min acc.b q.b:=by rw[e]
   have ed:(ie acc q).d=max acc.d q.d:=by rw[e]
   show((dJ (ie acc q) R).a=0/\(dJ (ie acc q) R).c=0)/\((dJ (ie acc q) R).b<=acc.b/\(∀r∈q::R,(dJ (ie acc q) R).b<=r.b)/\((dJ (ie acc q) R).b=acc.b\/∃r∈q::R,(dJ (ie acc q) R).b=r.b))/\(acc.d<=(dJ (ie acc q) R).d/\(∀r∈q::R,r.d<=(dJ (ie acc q) R).d)/\((dJ (ie acc q) R).d=acc.d\/∃r∈q::R,(dJ (ie acc q) R).d=r.d));generalize dJ (ie acc q) R=z at *;obtain⟨i1,⟨i2,i3,i4⟩,i5,i6,i7⟩:=ih;rw[eb]at i2 i4;rw[ed]at i5 i7;refine⟨i1,⟨Int.le_trans i2 (Int.min_le_left _ _),λr hr=>?_,?_⟩,Int.le_trans (Int.le_max_left _ _) i5,λr hr=>?_,?_⟩
   . rcases List.mem_cons.1 hr with rfl|hr
     . exact Int.le_trans i2 (Int.min_le_right _ _)
     . exact i3 r hr
   . rcases i4 with i4|⟨r,hr,i4⟩
     . by_cases hc:acc.b<=q.b
       . exact .inl (by rw[i4];exact Int.min_eq_left hc)
       . exact .inr ⟨q,List.mem_cons_self,by rw[i4];exact Int.min_eq_right (Int.le_of_lt (Int.not_le.1 hc))⟩
     . exact .inr ⟨r,List.mem_cons_of_mem _ hr,i4⟩
   . rcases List.mem_cons.1 hr with rfl|hr
     . exact Int.le_trans (Int.le_max_right _ _) i5
     . exact i6 r hr
   . rcases i7 with i7|⟨r,hr,i7⟩
     . by_cases hc:q.d<=acc.d
       . exact .inl (by rw[i7];exact Int.max_eq_left hc)
       . exact .inr ⟨q,List.mem_cons_self,by rw[i7];exact Int.max_eq_right (Int.le_of_lt (Int.not_le.1 hc))⟩
     . exact .inr ⟨r,List.mem_cons_of_mem _ hr,i7⟩
def fU(C:List Ci):List Rn:=C.map λc=>⟨0,iO c.1 c.2.1 c.2.2,0,iD c.1 c.2.1 c.2.2⟩
theorem Ct:∀{C:List Ci},cK C=bh (fU C)
 | []=>rfl
 | c::C=>by
   show AV.a .i8 0::AV.a .i64 _::AV.a .i8 0::AV.a .i64 _::cK C=AV.a .i8 0::AV.a .i64 _::AV.a .i8 0::AV.a .i64 _::bh (fU C);rw[Ct]
theorem FO{a:Int}(hE:bW ng lg s e 0 mo da a b c=0)(hX:bo (s++mo++da))(hy:∃k,mK ng s e k):(f_ ng s e mo da (p1 (fG ng s e mo da)) (p2 (fG ng s e mo da)) (p3 (fG ng s e mo da))/\∀y m d,f_ ng s e mo da y m d->Pn (p1 (fG ng s e mo da)) (p2 (fG ng s e mo da)) (p3 (fG ng s e mo da)) y m d)/\
 f_ ng s e mo da (p1 (fF ng s e mo da)) (p2 (fF ng s e mo da)) (p3 (fF ng s e mo da))/\∀y m d,f_ ng s e mo da y m d->Pn y m d (p1 (fF ng s e mo da)) (p2 (fF ng s e mo da)) (p3 (fF ng s e mo da)):=by
 obtain⟨ho,hx,_⟩:=dC (gq hE) dE;have yb:∀y m d,f_ ng s e mo da y m d->-10000000000000000<=y/\y<=10000000000000000:=λy m d h=>by
  have:=rW hE hX h;unfold kY eO at this;simp only[zAa,aq]at this;exact this.1
 have k1:=F0 (mo:=mo) (da:=da) ho hx _ (-9223372036854775808) (Nat.le_refl _) _ rfl;have k2:=Gf (mo:=mo) (da:=da) ho hx _ 9223372036854775807 (by omega) (Nat.le_refl _) _ rfl;have hc:=xt hE hy;obtain⟨x,hxm⟩:=List.exists_mem_of_length_pos hc;have hm:=(fy hx).1 hxm;have hb:=yb _ _ _ hm;constructor
 . change (mJ (fG ng s e mo da)->_)/\(mJ (fG ng s e mo da)=false->_)at k1;cases hp:mJ (fG ng s e mo da)with
   | true=>
     have k:=k1.1 hp;exact⟨k.1,λy m d h=>k.2 y m d h (by have:=yb y m d h;omega)⟩
   | false=>have:=k1.2 hp _ _ _ hm;omega
 . change (mJ (fF ng s e mo da)->_)/\(mJ (fF ng s e mo da)=false->_)at k2;cases hp:mJ (fF ng s e mo da)with
   | true=>
     have k:=k2.1 hp;exact⟨k.1,λy m d h=>k.2 y m d h (by have:=yb y m d h;omega)⟩
   | false=>have:=k2.2 hp _ _ _ hm;omega
theorem NP{a:Int}(hE:bW ng lg s e 0 mo da a b c=0)(hX:bo (s++mo++da))(hy:∃k,mK ng s e k) :
 dJ ((fU (aP ng s e mo da)).getD 0 fo) (fU (aP ng s e mo da))=⟨0,iO (p1 (fG ng s e mo da)) (p2 (fG ng s e mo da)) (p3 (fG ng s e mo da)),0,iD (p1 (fF ng s e mo da)) (p2 (fF ng s e mo da)) (p3 (fF ng s e mo da))⟩:=by
 obtain⟨⟨f1,f2⟩,l1,l2⟩:=FO hE hX hy;obtain⟨ho,hx,_⟩:=dC (gq hE) dE;have hc:=xt hE hy;have mem:∀r∈fU (aP ng s e mo da),∃y m d,f_ ng s e mo da y m d/\r=⟨0,iO y m d,0,iD y m d⟩:=λr hr=>by
  obtain⟨x,hx1,rfl⟩:=List.mem_map.1 hr;exact⟨_,_,_,(fy hx).1 hx1,rfl⟩
 have back:∀y m d,f_ ng s e mo da y m d->(⟨0,iO y m d,0,iD y m d⟩:Rn)∈fU (aP ng s e mo da):=λy m d h=>List.mem_map.2 ⟨(y,m,d),(fy hx).2 h,rfl⟩;have h0:(fU (aP ng s e mo da)).getD 0 fo∈fU (aP ng s e mo da):=by
  have hl:0<(fU (aP ng s e mo da)).length:=by unfold fU;rw[List.length_map];exact hc
  rw[zAd,List.getElem?_eq_getElem hl];exact List.getElem_mem hl
 have z0:∀r∈fU (aP ng s e mo da),r.a=0/\r.c=0:=λr hr=>by
  obtain⟨y,m,d,_,rfl⟩:=mem r hr;exact⟨rfl,rfl⟩
 obtain⟨⟨q1,q2⟩,⟨_,q4,q5⟩,_,q7,q8⟩:=Xf (z0 _ h0) z0;have b1:=q4 _ (back _ _ _ f1);have b2:=q7 _ (back _ _ _ l1);have e1:∃r∈fU (aP ng s e mo da),(dJ ((fU (aP ng s e mo da)).getD 0 fo) (fU (aP ng s e mo da))).b=r.b:=q5.elim (λh=>⟨_,h0,h⟩) id;have e2:∃r∈fU (aP ng s e mo da),(dJ ((fU (aP ng s e mo da)).getD 0 fo) (fU (aP ng s e mo da))).d=r.d:=q8.elim (λh=>⟨_,h0,h⟩) id;obtain⟨r1,hr1,e1⟩:=e1;obtain⟨r2,hr2,e2⟩:=e2;obtain⟨y1,m1,d1,g1,rfl⟩:=mem r1 hr1;obtain⟨y2,m2,d2,g2,rfl⟩:=mem r2 hr2;have u1:=wX hE f1 g1 (f2 _ _ _ g1);have u2:=wX hE g2 l1 (l2 _ _ _ g2);generalize dJ ((fU (aP ng s e mo da)).getD 0 fo) (fU (aP ng s e mo da))=z at *;obtain⟨za,zb,zc,zd⟩:=z;simp only at q1 q2 b1 b2 e1 e2;rw[Rn.mk.injEq];exact⟨q1,by omega,q2,by omega⟩
end Go.Ev
