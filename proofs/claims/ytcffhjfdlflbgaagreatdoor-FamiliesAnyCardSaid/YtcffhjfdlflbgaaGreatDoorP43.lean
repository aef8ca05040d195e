import Derived.Test.YtcffhjfdlflbgaaGreatDoorP42
set_option linter.all false
open Nat renaming beq->ν,le_refl->ξ,zero_le->ς
open Bool renaming not_eq_true'->ο
open Int renaming ofNat_eq_natCast->π,ofNat->σ
set_option linter.all false
set_option maxRecDepth 100000
set_option maxHeartbeats 4000000
namespace Go.Ev
open Go Go.Proofs
variable{S:aQ}{E:List AV}{F:Prop}{z ea la:Bool}{L:List It}{K:fg}{B:cD}{φ:Fk}{k:Int}{x y:Da}
def YF:aQ:=d5 (d5 gZ 46 Yo) 21 sPg
theorem T0:ak Tryz.prog cfg YF:=aad (Wi aW)
def L8g(L:List It)(k:Int)(ea la:Bool):cx:=iz jE 0 (d9 156 [1,2,3,7] (v8g L k ea la))
def vNo:dW:=λ_ _=>some .c0
def LX8:cx:=iz jE 0 (d9 156 [1,2,3,7] vNo)
theorem ae1{C:bg}{c:Code}{tn:Nat}{rel:List Nat}:cu Tryz.prog (cH cfg S) C c tn rel vNo:=λvs o t Q hv hq J=>by
 cases hv;exact hq.elim
theorem aeQ{ws:List cD}:qI Tryz.prog (cH cfg YF) (Cw cfg ws) LX8 (aL 59):=dv aiK λi hi e he st Q hw=>by
 have hi:i=0:=by grind
 subst hi;cases he;exact bR (cC.a0 T0) (by decide) rfl ae1 hw
def tR3(A X Y:Bool)(E:Prop)(F:Prop):Prop:=vZ 3 4 (not (not A)) (fk (not (not X)) (rp 3 (not (not X)) true (not X=false/\not (not A)/\not A=false/\vZ 3 3 (not (not Y)) (not Y=false/\F) (not Y/\E))) (rp 3 (not (not X)) false (not X/\not (not A)/\not A=false/\E))) (not A/\E)
theorem ZE{A X Y:Bool}{E:Prop}(hE:(A&&(X&&Y))=false->E)(hF:(A&&(X&&Y))->F):tR3 A X Y E F:=by
 cases A<;>cases X<;>cases Y<;>simp_all [tR3,vZ,fk,rp]
def tR1(X Y:Bool)(E F:Prop):Prop:=vZ 3 3 (not (not X)) (not X=false/\vZ 3 3 (not (not Y)) (not Y=false/\F) (not Y/\E)) (not X/\E)
theorem Zy{X Y:Bool}{E:Prop}(hE:(X&&Y)=false->E)(hF:(X&&Y)->F):tR1 X Y E F:=by
 cases X<;>cases Y<;>simp_all [tR1,vZ,fk,rp]
def tR2(A:Bool)(E F:Prop):Prop:=vZ 4 4 (not (not A)) (not A=false/\F) (not A/\E)
theorem ZD{A:Bool}{E:Prop}(hE:A=false->E)(hF:A->F):tR2 A E F:=by
 cases A<;>simp_all [tR2,vZ,fk,rp]
section
variable(d x y:Da)(k1 k2:Int)(c:Nat){Q:AV->Prop}
theorem bR1:∀(z:Bool) (L:List It) (ea la:Bool),(z=false->L=[])->∃D,gG Q (pW YF jE (i7 z L) 59 [.h (aaa 1 d k1 x k2 y (iT z L c) ea la)]) D=tR1 (UD k1 x) (UD k2 y) (Q (x8 0 5)) (bif ν L.length 0&&!ea&&!la then rk d=true/\Q (x8 0 (xC d))else Q (x8 0 5))
 | false,[],false,false,_=>⟨bE 1000662081023000633120563025562240003020062006245566666,by kernel_rfl⟩
 | true,[],false,false,_=>⟨bE 1000662081023000633120563025562240003020062006245566666,by kernel_rfl⟩
 | false,[],false,true,_=>⟨bE 1000662081023000633103025562240003020062006245566666,by kernel_rfl⟩
 | true,[],false,true,_=>⟨bE 1000662081023000633103025562240003020062006245566666,by kernel_rfl⟩
 | false,[],true,_,_=>⟨bE 100066208102300063310302000562240003020062006245566666,by kernel_rfl⟩
 | true,[],true,_,_=>⟨bE 100066208102300063310302000562240003020062006245566666,by kernel_rfl⟩
 | true,_::_,_,_,_=>⟨bE 10006620810230006331030200562240003020062006245566666,by kernel_rfl⟩
 | false,_::_,_,_,h=>nomatch h rfl
theorem bR2:∀(z:Bool) (L:List It) (ea la:Bool),(z=false->L=[])->∃D,gG Q (pW YF jE (i7 z L) 59 [.h (aaa 2 d k1 x k2 y (iT z L c) ea la)]) D=tR2 (Ul d) (Q (x8 0 5)) (bif ν L.length 0&&!ea&&!la then rk x=true/\rk y/\Q (x8 0 (Xz k1 x k2 y))else Q (x8 0 5))
 | false,[],false,false,_=>⟨bE 166230681220056666630206220240056666,by kernel_rfl⟩
 | true,[],false,false,_=>⟨bE 166230681220056666630206220240056666,by kernel_rfl⟩
 | false,[],false,true,_=>⟨bE 1662306810056630206220240056666,by kernel_rfl⟩
 | true,[],false,true,_=>⟨bE 1662306810056630206220240056666,by kernel_rfl⟩
 | false,[],true,_,_=>⟨bE 166230681056630206220240056666,by kernel_rfl⟩
 | true,[],true,_,_=>⟨bE 166230681056630206220240056666,by kernel_rfl⟩
 | true,_::_,_,_,_=>⟨bE 16623068156630206220240056666,by kernel_rfl⟩
 | false,_::_,_,_,h=>nomatch h rfl
theorem bR3(L:List It)(ea la:Bool):∀z all:Bool,∃D,gG Q (pW YF LX8 (i7 z L) 59 [.h (aaa (bif all then 4 else 3) d k1 x k2 y (iT z L c) ea la)]) D=tR3 (Ul d) (UD k1 x) (UD k2 y) (Q (x8 0 5)) (bif z then fk (aa (σ L.length) 0) (Q (x8 0 17)) (not (ab (σ L.length) 256)/\Q (x8 0 3))else Q (x8 0 17))
 | false,false=>⟨bE 16623068166302208102300063310005302000622430230200620062466622024056666,by kernel_rfl⟩
 | false,true=>⟨bE 166230681663022081023000633100053020006224302302006200624666220240056666,by kernel_rfl⟩
 | true,false=>⟨bE 16623068166302208102300063312014005302000622430230200620062466622024056666,by kernel_rfl⟩
 | true,true=>⟨bE 166230681663022081023000633120140053020006224302302006200624666220240056666,by kernel_rfl⟩
theorem bRk(k:Int)(L:List It)(ea la:Bool):∀z:Bool,∃D,gG Q (pW YF jE (i7 z L) 59 [.h (aaa k d k1 x k2 y (iT z L c) ea la)]) D=rp 3 (not (aa k 3)) true (aa k 3=false/\rp 4 (not (aa k 1)) true (rp 3 (not (aa k 2)) true (not (aa k 4)/\Q (x8 0 18))))
 | false=>⟨bE 1770220320220,by kernel_rfl⟩
 | true=>⟨bE 1770220320220,by kernel_rfl⟩
theorem bRs(w:List AV)(L:List It)(n:Nat)(ea la:Bool):∀all:Bool,∃D,gG Q (pW YF (L8g L (bif all then 4 else 3) ea la) [.a w false none] 59 [.h (fS (bif all then 4 else 3) (.c 14 0 n (.b c)) ea la)]) D=fk (aa (σ n) 0) (Q (x8 0 17)) (fk (not (ab (σ n) 256)) (Q (x8 0 3)) (ν L.length n/\bQ ea ea/\bQ la la/\fk (WU (td (bif all then 4 else 3) ea la L) L.length) (∀J1:Nat->Value,Q (x8 0 0)) (∀J1:Nat->Value,Q (x8 (σ (fJ (td (bif all then 4 else 3) ea la L) L.length 0)) (td (bif all then 4 else 3) ea la L (fJ (td (bif all then 4 else 3) ea la L) L.length 0))))))
 | false=>⟨bE 114220052140140066666666666666,by kernel_rfl⟩
 | true=>⟨bE 1142200521401400066666666666666,by kernel_rfl⟩
end
section
variable{k:Int}{d x y:Da}{k1 k2:Int}{ea la z:Bool}{L:List It}{c:Nat}(hz:z=false->L=[])(hd:rk d)(hx:rk x)(hy:rk y)(hn:L.length<=200)(hg:ZT L)
include hz hd hx hy hn hg
theorem f8s{all:Bool}:bu Tryz.prog cfg 59 [.h (aaa (bif all then 4 else 3) d k1 x k2 y (iT z L c) ea la)] (i7 z L) (x8 (Tt (bif all then 4 else 3) d k1 x k2 y ea la L) (kE (bif all then 4 else 3) d k1 x k2 y ea la L)) []:=by
 have e1:(not (ab 1 (bif all then(4:Int)else 3)&&ab (bif all then 4 else 3) 4))=false:=by cases all<;>rfl
 have h1:aa (bif all then(4:Int)else 3) 1=false:=by cases all<;>rfl
 have h2:aa (bif all then(4:Int)else 3) 2=false:=by cases all<;>rfl
 have eu:Vd (bif all then 4 else 3) d k1 x k2 y ea la L.length=not (Ul d&&(UD k1 x&&UD k2 y)):=by
  unfold Vd;cases all<;>cases Ul d<;>cases UD k1 x<;>cases UD k2 y<;>rfl
 by_cases hr:Ul d&&(UD k1 x&&UD k2 y)&&z
 . simp only[zAa]at hr;obtain⟨⟨ha,hb,hc⟩,rfl⟩:=hr;unfold UD at hb hc;simp only[zAa,ao,and_true]at hb hc;obtain⟨rfl,hb⟩:=hb;obtain⟨rfl,hc⟩:=hc;obtain rfl:=tf ha;obtain rfl:=tf hb;obtain rfl:=tf hc;refine P0 T0 (L:=L8g L (bif all then 4 else 3) ea la) dT akf (by simp) (dv aiK λi hi e he st Q hw=>?_) (eD λQ' hQ=>?_) (by rfl)
   . have hi:i=0:=by grind
     subst hi;cases he;exact adh (bR (cC.a0 We) (by decide) rfl (aeR hn hg) hw)
   . have hQ:=hQ _ rfl;obtain⟨D,hD⟩:=@bRs c Q' (dp L) L L.length ea la all;refine cg (hD.mpr ?_);unfold Tt kE at hQ;rw[e1,eu,h1,h2]at hQ;refine⟨λh0=>?_,λh0=>⟨λh3=>?_,λ_=>⟨aJ.mpr rfl,bEq,bEq,λh _=>?_,λh _=>?_⟩⟩⟩
     . rw[X4]at h0;rw[h0]at hQ;exact hQ
     . rw[ο,bF]at h3;simp only[π]at h3;omega
     . rw[X4]at h0;unfold Zp Us at hQ;rw[h0,h]at hQ;exact hQ
     . rw[X4]at h0;unfold Zp Us at hQ;rw[h0,h]at hQ;exact hQ
 . refine P0 T0 (L:=LX8) iL akf (by simp) aeQ (eD λQ' hQ=>?_) (by rfl);have hQ:=hQ _ rfl;obtain⟨D,hD⟩:=@bR3 d x y k1 k2 c Q' L ea la z all;refine cg (hD.mpr (ZE (λh=>?_) λh=>?_))
   . unfold Tt kE at hQ;rw[e1,eu,h]at hQ;exact hQ
   . rw[h,Bool.true_and]at hr;cases z
     . obtain rfl:=hz rfl;unfold Tt kE at hQ;rw[e1,eu,h,h1,h2]at hQ;exact hQ
     . exact absurd rfl hr
theorem f8i:bu Tryz.prog cfg 59 [.h (aaa k d k1 x k2 y (iT z L c) ea la)] (i7 z L) (x8 (Tt k d k1 x k2 y ea la L) (kE k d k1 x k2 y ea la L)) []:=by
 by_cases hk:k=1\/k=2\/k=3\/k=4
 . rcases hk with rfl|rfl|rfl|rfl
   . refine P0 T0 (L:=jE) iL akf (by simp) ai (eD λQ' hQ=>?_) (by rfl);have hQ:=hQ _ rfl;obtain⟨D,hD⟩:=@bR1 d x y k1 k2 c Q' z L ea la hz;unfold Tt kE Vd at hQ;generalize (ν L.length 0&&!ea&&!la)=st at *;refine cg (hD.mpr (Zy (λh=>?_) λh=>?_))
     . rw[h]at hQ;cases st<;>exact hQ
     . rw[h]at hQ;cases st
       . exact hQ
       . exact⟨hd,hQ⟩
   . refine P0 T0 (L:=jE) iL akf (by simp) ai (eD λQ' hQ=>?_) (by rfl);have hQ:=hQ _ rfl;obtain⟨D,hD⟩:=@bR2 d x y k1 k2 c Q' z L ea la hz;unfold Tt kE Vd at hQ;generalize (ν L.length 0&&!ea&&!la)=st at *;refine cg (hD.mpr (ZD (λh=>?_) λh=>?_))
     . rw[h]at hQ;cases st<;>exact hQ
     . rw[h]at hQ;cases st
       . exact hQ
       . exact⟨hx,hy,hQ⟩
   . exact f8s (all:=false) hz hd hx hy hn hg
   . exact f8s (all:=true) hz hd hx hy hn hg
 . refine P0 T0 (L:=jE) iL akf (by simp) ai (eD λQ' hQ=>?_) (by rfl);have hQ:=hQ _ rfl;obtain⟨D,hD⟩:=@bRk d x y k1 k2 c Q' k L ea la z;have e1:aa k 1=false:=aw.mpr (by omega);have e2:aa k 2=false:=aw.mpr (by omega);have e3:aa k 3=false:=aw.mpr (by omega);have e4:aa k 4=false:=aw.mpr (by omega);have e0:(not (ab 1 k&&ab k 4))=true:=by
    rw[ο,<-Bool.not_eq_true,zAa,aq,aq];omega
   unfold Tt kE at hQ;rw[e0]at hQ;refine cg (hD.mpr ?_);rw[e1,e2,e3,e4];exact⟨rfl,rfl,rfl,rfl,rfl,rfl,rfl,rfl,rfl,rfl,rfl,rfl,hQ⟩
theorem f8k:bu Tryz.prog cfg 14 [.h (aaa k d k1 x k2 y (iT z L c) ea la)] (i7 z L) (.a .i64 (kE k d k1 x k2 y ea la L)) []:=by
 refine P0 (U9 (f:=59) (v:=x8 (Tt k d k1 x k2 y ea la L) (kE k d k1 x k2 y ea la L))) (L:=jE) iL YP (by simp) ai (eD λQ' hQ=>?_) (by rfl);obtain⟨D,hD⟩:=@bC8 (okC Tryz.prog cfg) k d x y k1 k2 ea la L c Q' (Tt k d k1 x k2 y ea la L) (kE k d k1 x k2 y ea la L) z;exact cg (hD.mpr ⟨aa3.2 (Ud TI (λ_=>rfl) (f8i hz hd hx hy hn hg)),hQ _ rfl⟩)
theorem fE8(h0:0<kE k d k1 x k2 y ea la L):bu Tryz.prog cfg 8 [.h (aaa k d k1 x k2 y (iT z L c) ea la)] (i7 z L) (.d [.f,.a .i64 (kE k d k1 x k2 y ea la L)]) []:=by
 refine P0 (U9 (f:=14) (v:=.a .i64 (kE k d k1 x k2 y ea la L))) (L:=jE) iL acM (by simp) ai (eD λQ' hQ=>?_) (by rfl);obtain⟨D,hD⟩:=@bE8 (okC Tryz.prog cfg) k d x y k1 k2 ea la L c Q' (kE k d k1 x k2 y ea la L) z;have key:∀(P R:Prop),P->R->not (ab (kE k d k1 x k2 y ea la L) 0)->P/\not (ab (kE k d k1 x k2 y ea la L) 0)/\P/\R:=λP R p r h=>⟨p,h,p,r⟩;exact cg (hD.mpr (key _ _ (aa3.2 (Ud TI (λ_=>rfl) (f8k hz hd hx hy hn hg))) (hQ _ rfl) (by rw[bF.mpr (by omega)];rfl)))
end
section
variable(ok:qp)(C:bg)(E:List AV)(n:Nat)(K:fg)(F H:Nat->Fm)(gP gR:Option Nat)(p r:Nat->cD)
def ly1:aB:=⟨8,[.a (nK F n) true gP,p 5,p 4,p 3,p 2,p 1,p 0,.a E true none],[]⟩
def ly2:aB:=⟨15,[.a (nK H n) true gR,r 5,r 4,r 3,r 2,r 1,r 0,.a (nK F n) true gP,p 5,p 4,p 3,p 2,p 1,p 0,.a E true none],[]⟩
def lyR(o:aB):Nat->List Bool
 | 0=>[]
 | m+1=>lyR o m++[ok 9 C [.h (F m).cs,.h (H m).cs] o (.a .i64 1,o)]
def Zk(z:Bool):List Bool:=ok 7 C [.h E] (oE E) (.d [.c (b0 z+7) 0 n (.b n),.a .i64 0],ly1 E n F gP p)::ok 8 C [.h E] (ly1 E n F gP p) (.d [.c (b0 z+14) 0 n K,.a .i64 0],ly2 E n F H gP gR p r)::lyR ok C F H (ly2 E n F H gP gR p r) n
end
def dQ:Nat->DT
 | 0=>eN 4 .z
 | m+1=>eN 41 (.t (dQ m))
def Zf(z:Bool)(n:Nat):DT:=bif z then .e (.f (eN 36 (.t (eN 36 (.t (eN 46 (.t (dQ (n-1)))))))))else eN 38 (.t (eN 36 (.t (eN 46 (.t (dQ (n-1)))))))
def V4(z:Bool)(L:List It)(X:Prop):Prop:=bif z then not (ab (σ L.length) 6)=false/\X else X
section
variable(ok:qp)(k:Int)(d x y:Da)(k1 k2:Int)(ea la:Bool)(K:fg)(F H:Nat->Fm)(gP gR:Option Nat)(p r:Nat->cD)(L:List It)(c:Nat){Q:AV->Prop}
theorem bA1(z:Bool):gG Q (pW (X5 ok 1 K F H gP gR p r) jE (i7 z L) 4 [.h (aaa k d k1 x k2 y (iT z L c) ea la)]) (Zf z 1)=V4 z L (nE (Zk ok (Cw cfg (i7 z L)) (aaa k d k1 x k2 y (iT z L c) ea la) 1 K F H gP gR p r z) (Q (.b true))):=by cases z<;>kernel_rfl
def bA2:gG Q (pW (X5 ok 2 K F H gP gR p r) jE (i7 true L) 4 [.h (aaa k d k1 x k2 y (iT true L c) ea la)]) (Zf true 2)=V4 true L (nE (Zk ok (Cw cfg (i7 true L)) (aaa k d k1 x k2 y (iT true L c) ea la) 2 K F H gP gR p r true) (Q (.b true))):=by kernel_rfl
def bA3:gG Q (pW (X5 ok 3 K F H gP gR p r) jE (i7 true L) 4 [.h (aaa k d k1 x k2 y (iT true L c) ea la)]) (Zf true 3)=V4 true L (nE (Zk ok (Cw cfg (i7 true L)) (aaa k d k1 x k2 y (iT true L c) ea la) 3 K F H gP gR p r true) (Q (.b true))):=by kernel_rfl
def bA4:gG Q (pW (X5 ok 4 K F H gP gR p r) jE (i7 true L) 4 [.h (aaa k d k1 x k2 y (iT true L c) ea la)]) (Zf true 4)=V4 true L (nE (Zk ok (Cw cfg (i7 true L)) (aaa k d k1 x k2 y (iT true L c) ea la) 4 K F H gP gR p r true) (Q (.b true))):=by kernel_rfl
def bA5:gG Q (pW (X5 ok 5 K F H gP gR p r) jE (i7 true L) 4 [.h (aaa k d k1 x k2 y (iT true L c) ea la)]) (Zf true 5)=V4 true L (nE (Zk ok (Cw cfg (i7 true L)) (aaa k d k1 x k2 y (iT true L c) ea la) 5 K F H gP gR p r true) (Q (.b true))):=by kernel_rfl
def bA6:gG Q (pW (X5 ok 6 K F H gP gR p r) jE (i7 true L) 4 [.h (aaa k d k1 x k2 y (iT true L c) ea la)]) (Zf true 6)=V4 true L (nE (Zk ok (Cw cfg (i7 true L)) (aaa k d k1 x k2 y (iT true L c) ea la) 6 K F H gP gR p r true) (Q (.b true))):=by kernel_rfl
theorem bAn:∀(n:Nat) (z:Bool),1<=n->n<=6->(z=false->n=1)->gG Q (pW (X5 ok n K F H gP gR p r) jE (i7 z L) 4 [.h (aaa k d k1 x k2 y (iT z L c) ea la)]) (Zf z n)=V4 z L (nE (Zk ok (Cw cfg (i7 z L)) (aaa k d k1 x k2 y (iT z L c) ea la) n K F H gP gR p r z) (Q (.b true)))
 | 1,z,_,_,_=>bA1 ok k d x y k1 k2 ea la K F H gP gR p r L c z
 | 2,true,_,_,_=>bA2 ok k d x y k1 k2 ea la K F H gP gR p r L c
 | 3,true,_,_,_=>bA3 ok k d x y k1 k2 ea la K F H gP gR p r L c
 | 4,true,_,_,_=>bA4 ok k d x y k1 k2 ea la K F H gP gR p r L c
 | 5,true,_,_,_=>bA5 ok k d x y k1 k2 ea la K F H gP gR p r L c
 | 6,true,_,_,_=>bA6 ok k d x y k1 k2 ea la K F H gP gR p r L c
 | n+2,false,_,_,h=>by have:=h rfl;omega
 | n+7,true,_,h,_=>by omega
theorem bAe(e:Int):∀z:Bool,∃D,gG Q (pW (TLe ok e) jE (i7 z L) 4 [.h (aaa k d k1 x k2 y (iT z L c) ea la)]) D=V4 z L (ok 7 (Cw cfg (i7 z L)) [.h (aaa k d k1 x k2 y (iT z L c) ea la)] (oE (aaa k d k1 x k2 y (iT z L c) ea la)) (.d [.f,.a .i64 e],oE (aaa k d k1 x k2 y (iT z L c) ea la))/\ok 8 (Cw cfg (i7 z L)) [.h (aaa k d k1 x k2 y (iT z L c) ea la)] (oE (aaa k d k1 x k2 y (iT z L c) ea la)) (.d [.f,.a .i64 e],oE (aaa k d k1 x k2 y (iT z L c) ea la))/\rp 5 (not (not (aa e e))) true (not (aa e e)=false/\Q (.b true)))
 | false=>⟨bE 100037766662006666,by kernel_rfl⟩
 | true=>⟨bE 100037766662666630,by kernel_rfl⟩
def bAy:gG Q (pW T12 jE (i7 true L) 4 [.h (aaa k d k1 x k2 y (iT true L c) ea la)]) (bE 1020)=(not (ab (σ L.length) 6)/\Q (.b true)):=by kernel_rfl
end
theorem Vz:∀{a b:List Bool},Tk a->Tk b->Tk (a++b)
 | [],_,_,h=>h
 | _::_,_,h1,h=>⟨h1.1,Vz h1.2 h⟩
theorem W_{ok:qp}{C:bg}{F H:Nat->Fm}{o:aB}:∀{n:Nat},(∀i,i<n->ok 9 C [.h (F i).cs,.h (H i).cs] o (.a .i64 1,o)=true)->Tk (lyR ok C F H o n)
 | 0,_=>trivial
 | n+1,h=>Vz (W_ λi hi=>h i (by omega)) ⟨h n (Nat.lt_succ_self n),trivial⟩
theorem WE:ec tab 4=some (dH 4,aL 4):=by rfl
theorem Wg(f12:bu Tryz.prog cfg 12 [] [] (.b true) [])(hS:ak Tryz.prog cfg S):ak Tryz.prog cfg (d5 S 12 Bn):=au hS λargs t v he hv=>by
 unfold Bn at he;split at he
 . cases he;cases hv;exact f12
 . cases he
theorem Xh{X:Prop}(hm:L.length<=6)(h:X):V4 z L X:=by
 cases z
 . exact h
 . exact⟨by rw[Bool.not_eq_false',aq];simp only[π];omega,h⟩
section
variable{k:Int}{d x y:Da}{k1 k2:Int}{ea la z:Bool}{L:List It}{c:Nat}(f12:bu Tryz.prog cfg 12 [] [] (.b true) [])
include f12
theorem ad5(hm:6<L.length):bu Tryz.prog cfg 4 [.h (aaa k d k1 x k2 y (iT true L c) ea la)] (i7 true L) (.b true) []:=by
 refine P0 (Wg f12 aW) (L:=jE) iL WE (by simp) ai (eD λQ' hQ=>cg ((bAy k d x y k1 k2 ea la L c).mpr ⟨?_,hQ _ rfl⟩)) (by rfl);rw[ο,bF];simp only[π];omega
theorem fAe{e:Int}(hm:L.length<=6)(h7:bu Tryz.prog cfg 7 [.h (aaa k d k1 x k2 y (iT z L c) ea la)] (i7 z L) (.d [.f,.a .i64 e]) [])(h8:bu Tryz.prog cfg 8 [.h (aaa k d k1 x k2 y (iT z L c) ea la)] (i7 z L) (.d [.f,.a .i64 e]) []):bu Tryz.prog cfg 4 [.h (aaa k d k1 x k2 y (iT z L c) ea la)] (i7 z L) (.b true) []:=by
 refine P0 (bm (bm (Wg f12 aW) Uo) Uo:ak Tryz.prog cfg (TLe (okC Tryz.prog cfg) e)) (L:=jE) iL WE (by simp) ai (eD λQ' hQ=>?_) (by rfl);obtain⟨D,hD⟩:=@bAe (okC Tryz.prog cfg) k d x y k1 k2 ea la L c Q' e z;refine cg (hD.mpr (Xh hm ⟨aa3.2 (Ud TI (λ_=>rfl) h7),aa3.2 (Ud TI (λ_=>rfl) h8),?_⟩));rw[aa0];exact⟨rfl,rfl,rfl,rfl,rfl,rfl,hQ _ rfl⟩
theorem fAr{n:Nat}{gP gR:Option Nat}{Φ Ψ:Nat->Fk}{p r:Nat->cD}(hm:L.length<=6)(h1:1<=n)(h6:n<=6)(hz:z=false->n=1)(u7:abf 7 [.h (aaa k d k1 x k2 y (iT z L c) ea la)] (i7 z L) n (.b n) gP Φ p)(u8:abf 8 [.h (aaa k d k1 x k2 y (iT z L c) ea la)] (i7 z L) n K gR Ψ r)(l7:adb Φ n)(l8:adb Ψ n)(hp:∀j,j<6->cR 14 (p j))(hr:∀j,j<6->cR 14 (r j))(hF:∀i,i<n->ab0 p r (Φ i) (Ψ i)):bu Tryz.prog cfg 4 [.h (aaa k d k1 x k2 y (iT z L c) ea la)] (i7 z L) (.b true) []:=by
 refine P0 (bm (bm (bm (Wg f12 aW) Uo) Uo) Uo:ak Tryz.prog cfg (X5 (okC Tryz.prog cfg) n K (λi=>(Φ i).at (b0 z+1)) (λi=>(Ψ i).at (b0 z+8)) gP gR p r)) (L:=jE) iL WE (by simp) ai (eD λQ' hQ=>?_) (by rfl);refine cg ((bAn (okC Tryz.prog cfg) k d x y k1 k2 ea la K _ _ gP gR p r L c n z h1 h6 hz).mpr (Xh hm (mz (hQ _ rfl) ?_)));have sx:∀j,j<6->j=0\/j=1\/j=2\/j=3\/j=4\/j=5:=λj h=>by omega
 refine⟨aa3.2 ?_,aa3.2 ?_,W_ λi hi=>aa3.2 ?_⟩
 . have:=ajD (WH (c:=c) (k:=k) (d:=d) (x:=x) (y:=y) (k1:=k1) (k2:=k2) (ea:=ea) (la:=la) (C:=Cw cfg (i7 z L)) (o:=oE (aaa k d k1 x k2 y (iT z L c) ea la)) TI) rfl u7 l7 hp;cases z<;>exact this
 . have:=ajD (WH (c:=c) (k:=k) (d:=d) (x:=x) (y:=y) (k1:=k1) (k2:=k2) (ea:=ea) (la:=la) (C:=Cw cfg (i7 z L)) (o:=ly1 (aaa k d k1 x k2 y (iT z L c) ea la) n (λi=>(Φ i).at (b0 z+1)) gP p) (λh=>by subst h;rfl)) rfl u8 l8 hr;cases z<;>exact this
 . exact(ae2 (hF i hi) (C:=Cw cfg (i7 z L)) (u:=b0 z+1) (v:=b0 z+8) (λj hj=>by cases z<;>rcases sx j hj with rfl|rfl|rfl|rfl|rfl|rfl<;>rfl) (λj hj=>by cases z<;>rcases sx j hj with rfl|rfl|rfl|rfl|rfl|rfl<;>rfl)).1
end
theorem abn(h:cR 14 B):∀j,j<6->cR 14 (xq B j)
 | 0,_=>h
 | _+1,_=>aa5
theorem acK(h:φ.s=none):adb (λ_=>φ) 1:=λi hi j q K hs=>by grind
theorem adK{q:Nat}(h:φ.s=some (0,q,K)):adb (λ_=>φ) 1:=λi hi j q K hs=>by grind
theorem uN{f:Nat}(hs:φ.s=none)(h:bu Tryz.prog cfg f [.h E] (S0 z) (.d [.c (b0 z) 0 1 (.b 1),.a .i64 0]) [.a (φ.at (b0 z)).cs true none]):abf f [.h E] (i7 z []) 1 (.b 1) none (λ_=>φ) λ_=>.b:=by
 cases z
 . exact u1 iL (ς _) hs h
 . exact u1 iL (ξ 1) hs h
theorem uR{f:Nat}{q:Nat}{K':fg}(hs:φ.s=some (0,q,K'))(hB:cR 14 B)(h:bu Tryz.prog cfg f [.h E] (S0 z) (.d [.c (b0 z+1) 0 1 (.b 1),.a .i64 0]) [.a (φ.at (b0 z)).cs true none,B]):abf f [.h E] (i7 z []) 1 (.b 1) none (λ_=>φ) (xq B):=by
 cases z
 . exact u2 iL (ς _) hs hB h
 . exact u2 iL (ξ 1) hs hB h
def Bd(k:Int)(x:Da):Prop:=(k=1/\dF x/\fy x=true)\/(k=2/\x=gL)\/(k=3/\x=gL)
theorem Wx(h:Bd k x):dJ k x=true:=by
 rcases h with⟨rfl,h1,h2⟩|⟨rfl,rfl⟩|⟨rfl,rfl⟩
 . exact acR.2 (.inl ⟨rfl,qd h1 h2⟩)
 . rfl
 . rfl
section
variable{z:Bool}{c:Nat}(f12:bu Tryz.prog cfg 12 [] [] (.b true) [])
include f12
theorem lN{d:Da}{k1 k2:Int}(hE:E=aaa k d k1 x k2 y (iT z [] c) ea la)(hs:φ.s=none)(h7:bu Tryz.prog cfg 7 [.h E] (S0 z) (.d [.c (b0 z) 0 1 (.b 1),.a .i64 0]) [.a (φ.at (b0 z)).cs true none])(h8:bu Tryz.prog cfg 8 [.h E] (S0 z) (.d [.c (b0 z) 0 1 (.b 1),.a .i64 0]) [.a (φ.at (b0 z)).cs true none])(hF:ab0 (λ_=>.b) (λ_=>.b) φ φ):bu Tryz.prog cfg 4 [.h E] (i7 z []) (.b true) []:=by
 subst hE;exact fAr f12 (ς _) (ξ 1) (by decide) (λ_=>rfl) (uN hs h7) (uN hs h8) (acK hs) (acK hs) (λ_ _=>aa5) (λ_ _=>aa5) λ_ _=>hF
theorem lR{d:Da}{k1 k2:Int}{u v s t:Int}(hE:E=aaa k d k1 x k2 y (iT z [] c) ea la)(ho:tm ⟨u,v,s,t⟩)(h7:bu Tryz.prog cfg 7 [.h E] (S0 z) (j7 z u v s t).1 (j7 z u v s t).2)(h8:bu Tryz.prog cfg 8 [.h E] (S0 z) (j7 z u v s t).1 (j7 z u v s t).2):bu Tryz.prog cfg 4 [.h E] (i7 z []) (.b true) []:=by
 subst hE;have key:∀{f:Nat} {E:List AV},bu Tryz.prog cfg f [.h E] (S0 z) (j7 z u v s t).1 (j7 z u v s t).2->abf f [.h E] (i7 z []) 1 (.b 1) none (λ_=>⟨1,some (0,1,.b 1),gL,0,0,0,0,0⟩) (xq (.a (aab u v s t) true none)):=λh=>uR rfl aac h;exact fAr f12 (ς _) (ξ 1) (by decide) (λ_=>rfl) (key h7) (key h8) (adK rfl) (adK rfl) (abn aac) (abn aac) λ_ _=>adY (by decide) rfl rfl ho
theorem sgL(hv:dF x):bu Tryz.prog cfg 4 [.h (aaa 1 x 0 gL 0 gL (iT z [] c) false false)] (i7 z []) (.b true) []:=by
 cases hg:ab 1 x.g with
 | true=>
   rw[aq]at hg;exact lN f12 (φ:=⟨3,none,gL,1,0,_,0,_⟩) rfl rfl ((zS hv).1 hg) ((zT hv).1 hg) (afD hv hg)
 | false=>
   cases hn:fy x with
   | true=>
     obtain⟨b1,b2,b3⟩:=abC (qd (show wa _ _ _ _ _ _ _ _ _ _=true from hv) hn);exact lR f12 rfl (u:=0) (v:=jc x) (s:=0) (t:=iQ x) ⟨gA.2 ⟨.inl rfl,.inl rfl,.inr ⟨rfl,b2⟩⟩,by grind,by grind,by grind,by grind⟩ ((zS hv).2.2 hn) ((zT hv).2.2 hn)
   | false=>
     have g0:x.g=0:=by
      rw[bF]at hg;obtain⟨_,_,_,_,_,_,h0⟩:=SA.1 (show wa _ _ _ _ _ _ _ _ _ _=true from hv);have hk:=(acz (Cc h0)).2;grind [oc,aV]
     have hx:eA (x.s++x.mo++x.da)=true:=by
      simp_all [fy,cK,aa]
     exact lN f12 (φ:=⟨2,none,⟨x.ng,x.lg,x.s,x.e,0,x.mo,x.da,0,0,0⟩,0,0,0,0,0⟩) rfl rfl ((zS hv).2.1 g0 hx) ((zT hv).2.1 g0 hx) (afX hv g0 hx)
theorem ivL{k1 k2:Int}(hx:Bd k1 x)(hy:Bd k2 y)(hp:jM k1 x k2 y=0):bu Tryz.prog cfg 4 [.h (aaa 2 gL k1 x k2 y (iT z [] c) false false)] (i7 z []) (.b true) []:=by
 have bx:=Wx hx;have by':=Wx hy;rcases hx with⟨rfl,x1,x2⟩|⟨rfl,rfl⟩|⟨rfl,rfl⟩<;>rcases hy with⟨rfl,y1,y2⟩|⟨rfl,rfl⟩|⟨rfl,rfl⟩
 . obtain⟨a1,a2,a3⟩:=abC (qd (show wa _ _ _ _ _ _ _ _ _ _=true from x1) x2);obtain⟨c1,c2,c3⟩:=abC (qd (show wa _ _ _ _ _ _ _ _ _ _=true from y1) y2);have hle:jc x<=iQ y:=by
    unfold jM at hp;cases hl:ab (aP x.ng x.s x.e x.mo x.da) (bq y.ng y.s y.e y.mo y.da)with
    | true=>exact aq.mp hl
    | false=>grind
   exact lR f12 rfl (u:=0) (v:=jc x) (s:=0) (t:=iQ y) ⟨gA.2 ⟨.inl rfl,.inl rfl,.inr ⟨rfl,hle⟩⟩,by grind,by grind,by grind,by grind⟩ (Qy x1 x2 y1 y2 hle) (Rj bx by' hp)
 . obtain⟨a1,a2,a3⟩:=abC (qd (show wa _ _ _ _ _ _ _ _ _ _=true from x1) x2);exact lR f12 rfl (u:=0) (v:=jc x) (s:=1) (t:=0) ⟨gA.2 ⟨.inl rfl,.inr ⟨rfl,rfl⟩,.inl (by simp)⟩,by grind,by grind,by simp,by simp⟩ (QC x1 x2) (Rk bx by')
 . exact lN f12 (φ:=⟨5,none,gL,0,0,_,1,0⟩) rfl rfl (QD x1 x2) (Rp bx by') (.a aom amG anh)
 . obtain⟨c1,c2,c3⟩:=abC (qd (show wa _ _ _ _ _ _ _ _ _ _=true from y1) y2);exact lR f12 rfl (u:=-1) (v:=0) (s:=0) (t:=iQ y) ⟨gA.2 ⟨.inr ⟨rfl,rfl⟩,.inl rfl,.inl (by simp)⟩,by simp,by simp,by grind,by grind⟩ (QE y1 y2) (Rq bx by')
 . cases hp
 . cases hp
 . exact lN f12 (φ:=⟨4,none,gL,0,-1,0,0,_⟩) rfl rfl (QK y1 y2) (Rr bx by') (.a apK amL amV)
 . cases hp
 . cases hp
end
theorem W7:∀{R acc:List Rn},(R.foldl q8 acc).length<=acc.length+R.length/\(1<=acc.length+R.length->1<=(R.foldl q8 acc).length)
 | [],acc=>⟨ξ _,λh=>h⟩
 | r::R,acc=>by
   have:=@W7 R (q8 acc r);have h2:(q8 acc r).length<=acc.length+1/\1<=(q8 acc r).length:=by
    unfold q8;grind
   grind
theorem acj{R:List Rn}(h:1<=R.length):1<=(rF R).length/\(rF R).length<=R.length:=by
 have e:∀{L acc:List Rn},(L.foldl (λacc x=>aaI x acc) acc).length=acc.length+L.length:=λ{L acc}=>adM;grind [aa8,aeI,W7,rF,aaO,abL]
section
variable{c:Nat}{ea la:Bool}{L:List It}(f12:bu Tryz.prog cfg 12 [] [] (.b true) [])
include f12
theorem aoL(hL:nI 4 ea la L)(h6:L.length<=6):bu Tryz.prog cfg 4 [.h (aaa 4 gL 0 gL 0 gL (iT true L c) ea la)] (i7 true L) (.b true) []:=by
 have f7:=@aqh ea la L (.b c) hL h6;have f8:=@Q2 ea la L (.b c) hL h6;obtain⟨r1,r2,r3,r4⟩:=aef hL h6;have hb:∀x∈km ea la L L.length,tm x:=λx hx=>by
  obtain⟨i,hi,rfl⟩:=List.mem_map.1 hx;have hb:=ahL (hL.it i (List.mem_range.1 hi));have hc:=r3 _ hx;refine⟨hc,?_,?_,?_,?_⟩<;>unfold W2 kW<;>dsimp only<;>(first|cases(ea&&ν i 0)|skip)<;>(first|cases(la&&ν (i+1) L.length)|skip)<;>simp only[zAj]<;>omega
 obtain⟨c1,c2,c3⟩:=amb (afK hb).1;obtain⟨l1,l2⟩:=acj r1;have lo:cR 14 (.a (bh (rF (km ea la L L.length))) true (some 4)):=hH;exact fAr (z:=true) f12 h6 (ξ 1) (by decide) nofun (Φ:=λ_=>⟨1,some (0,(rF (km ea la L L.length)).length,.b (rF (km ea la L L.length)).length),gL,0,0,0,0,0⟩) (Ψ:=λ_=>⟨1,some (0,(rF (km ea la L L.length)).length,.a 0),gL,0,0,0,0,0⟩) (u2 dT (ξ 1) rfl lo f7) (u2 dT (ξ 1) rfl lo f8) (adK rfl) (adK rfl) (abn lo) (abn lo) λ_ _=>.b (by decide) rfl rfl c1 l1 (by omega) c2 c3
theorem ooL(hL:nI 3 ea la L)(h6:L.length<=6):bu Tryz.prog cfg 4 [.h (aaa 3 gL 0 gL 0 gL (iT true L c) ea la)] (i7 true L) (.b true) []:=by
 have f7:=@Q9 ea la L (.b c) hL h6;have f8:=@wt ea la L (.b c) hL h6;unfold aia at f7 f8;rw[aev]at f7 f8;exact fAr (z:=true) f12 h6 hL.n1 h6 nofun (p:=qb ea la L L.length) (r:=qb ea la L L.length) f7 f8 (af9 h6) (af9 h6) (λ_ _=>fK) (λ_ _=>fK) λi hi=>ahU hL h6 hi
end
theorem Yc{F:Nat->Int}:∀{m s:Nat},(∃i,s<=i/\i<s+m/\F i≠0)->F (fJ F m s)≠0
 | 0,s,⟨i,h1,h2,_⟩=>by omega
 | m+1,s,⟨i,h1,h2,h3⟩=>by
   unfold fJ;cases e:aa (F s) 0 with
   | false=>exact aw.mp e
   | true=>
     have:s≠i:=λh=>by
      subst h;exact h3 (ao.mp e)
     exact Yc ⟨i,by omega,by omega,h3⟩
theorem agk(h:Us k ea la L=0):∀i,i<L.length->td k ea la L i=0:=by
 intro i hi;unfold Us at h;cases hb:WU (td k ea la L) L.length with
 | true=>exact ao.mp (List.all_eq_true.1 hb i (List.mem_range.2 hi))
 | false=>
   rw[hb]at h;by_cases e:td k ea la L i=0
   . exact e
   . exact absurd h (Yc ⟨i,ς _,by omega,e⟩)
theorem aep{i:Nat}(h:td k ea la L i=0):UO (aa k 4) (L.getD i fP)=0/\VP ea la (ν i 0) (ν (i+1) L.length) (L.getD i fP)=false:=by
 unfold td at h;cases e:aa (UO (aa k 4) (L.getD i fP)) 0<;>rw[e]at h
 . rw[aw]at e;exact absurd h e
 . refine⟨ao.mp e,?_⟩;cases hb:VP ea la (ν i 0) (ν (i+1) L.length) (L.getD i fP)with
   | false=>rfl
   | true=>rw[hb]at h;cases h
theorem abq{x:It}(g:Va x)(h:UO (aa k 4) x=0):aap k x=true:=by
 have v:=Yf g h;unfold Va at g;rw[zAa]at g;unfold UO at h;unfold aap mB;rw[v];cases hf:aa (xC x.f) 0<;>rw[hf]at h
 . rw[aw]at hf;exact absurd h hf
 cases hr:x.r<;>rw[hr]at h
 . cases hz:Ul x.t<;>rw[hz]at h
   . cases h
   . rw[show dZ x.t.ng x.t.lg x.t.s x.t.e x.t.g x.t.mo x.t.da x.t.a x.t.b x.t.c=true from hz];cases ha:aa k 4<;>rw[ha]at h
     . rfl
     . cases hn:fy x.f<;>rw[hn]at h
       . cases h
       . rfl
 . cases ht:aa (xC x.t) 0<;>rw[ht]at h
   . rw[aw]at ht;exact absurd h ht
   . rw[x9 g.2 (ao.mp ht)];cases ho:Zl x.f x.t<;>rw[ho]at h
     . cases h
     . rw[show mV x.f.s x.f.ng x.f.e x.f.g x.f.mo x.f.da x.t.s x.t.ng x.t.e x.t.g x.t.mo x.t.da=true from ho];cases ha:aa k 4<;>rw[ha]at h
       . rfl
       . cases hn:fy x.f<;>rw[hn]at h
         . cases h
         . rfl
theorem Ys(hk:(aa k 3 || aa k 4))(h1:1<=L.length)(h6:L.length<=6)(hg:ZT L)(h:Us k ea la L=0):nI k ea la L:=by
 have a:=λi hi=>aep (agk h i hi);refine⟨hk,h1,by omega,λi hi=>abq (hg i hi) (a i hi).1,λhe=>?_,λhl=>?_,λhe hl hn=>?_⟩
 . have:=(a 0 h1).2;unfold VP at this;rw[he,show ν 0 0=true from rfl]at this;cases hn:aaD (L.getD 0 fP)with
   | false=>rw[hn]at this;cases hx:(la&&ν (0+1) L.length)<;>rw[hx]at this<;>cases this
   | true=>rfl
 . have:=(a (L.length-1) (by omega)).2;unfold VP at this;rw[hl,show ν (L.length-1+1) L.length=true from aJ.mpr (by omega)]at this;cases hn:aaD (L.getD (L.length-1) fP)with
   | false=>rw[hn]at this;cases hx:(ea&&ν (L.length-1) 0)<;>rw[hx]at this<;>cases this
   | true=>rfl
 . have:=(a 0 h1).2;unfold VP at this;rw[he,hl,hn]at this;cases hx:aaD (L.getD 0 fP)<;>rw[hx]at this<;>cases this
theorem VE{x:Da}:0<=xC x:=X3
theorem n0:(0:Int)<=0:=by decide
theorem n3:(0:Int)<=5:=by decide
theorem n10:(0:Int)<=10:=by decide
theorem n11:(0:Int)<=11:=by decide
theorem n17:(0:Int)<=17:=by decide
theorem n18:(0:Int)<=18:=by decide
theorem X7{k:Int}{x:Da}:0<=Uq k x:=by
 have:=@VE x;unfold Uq;cases aa k 1<;>cases aa (xC x) 0<;>cases fy x<;>cases(aa k 2 || aa k 3)<;>cases Ul x<;>first|exact this|exact n0|exact n3|exact n10|exact n11|exact n17|exact n18
theorem aci{k:Int}{x:Da}{l:Int}{y:Da}:0<=Xz k x l y:=by
 have h1:=@X7 k x;have h2:=@X7 l y;unfold Xz jM;cases aa (Uq k x) 0<;>cases aa (Uq l y) 0<;>cases aa k 1<;>cases aa l 1<;>cases ab (aP x.ng x.s x.e x.mo x.da) (bq y.ng y.s y.e y.mo y.da)<;>first|exact h1|exact h2|exact n0|exact n3|exact n10|exact n11|exact n17|exact n18
theorem Zi{a:Bool}{x:It}:0<=UO a x:=by
 have h1:=@VE x.f;have h2:=@VE x.t;unfold UO;cases aa (xC x.f) 0<;>cases x.r<;>cases aa (xC x.t) 0<;>cases Zl x.f x.t<;>cases Ul x.t<;>cases a<;>cases fy x.f<;>first|exact h1|exact h2|exact n0|exact n3|exact n10|exact n11|exact n17|exact n18
theorem aco{k:Int}{ea la:Bool}{L:List It}:0<=Us k ea la L:=by
 unfold Us;cases WU (td k ea la L) L.length
 . show 0<=td k ea la L _;generalize fJ (td k ea la L) L.length 0=i;have h:=@Zi (aa k 4) (L.getD i fP);unfold td;cases aa (UO (aa k 4) (L.getD i fP)) 0<;>cases VP ea la (ν i 0) (ν (i+1) L.length) (L.getD i fP)<;>first|exact h|exact n0|exact n3|exact n10|exact n11|exact n17|exact n18
 . exact Int.le_refl 0
section
variable{k:Int}{d x y:Da}{k1 k2:Int}{ea la z:Bool}{L:List It}{c:Nat}
theorem Ze:0<=kE k d k1 x k2 y ea la L:=by
 have h1:=@VE d;have h2:=@aci k1 x k2 y;have h3:=@aco k ea la L;unfold kE;cases(ab 1 k&&ab k 4)<;>cases Vd k d k1 x k2 y ea la L.length<;>cases aa k 1<;>cases aa k 2<;>cases ν L.length 0<;>first|exact h1|exact h2|exact h3|exact n0|exact n3|exact n10|exact n11|exact n17|exact n18
theorem aal(g:rk x)(h:Uq k x=0):Bd k x:=by
 cases hk:aa k 1 with
 | true=>exact .inl ⟨ao.mp hk,(UR g h hk).1,(UR g h hk).2.1⟩
 | false=>
   unfold Uq at h;rw[hk,cond_false]at h;cases h23:(aa k 2 || aa k 3)<;>rw[h23]at h
   . cases h
   . cases hz:Ul x<;>rw[hz]at h
     . cases h
     . rw[Bool.or_eq_true,ao,ao]at h23;rcases h23 with h2|h3
       . exact .inr (.inl ⟨h2,tf hz⟩)
       . exact .inr (.inr ⟨h3,tf hz⟩)
theorem aaK(f12:bu Tryz.prog cfg 12 [] [] (.b true) [])(hz:z=false->L=[])(hd:rk d)(hx:rk x)(hy:rk y)(hg:ZT L):bu Tryz.prog cfg 4 [.h (aaa k d k1 x k2 y (iT z L c) ea la)] (i7 z L) (.b true) []:=by
 by_cases hm:L.length<=6
 . by_cases h0:kE k d k1 x k2 y ea la L=0
   . unfold kE at h0;cases hk:(ab 1 k&&ab k 4)<;>rw[hk]at h0
     . cases h0
     cases hu:Vd k d k1 x k2 y ea la L.length<;>rw[hu]at h0
     . rw[zAa,aq,aq]at hk;have hu':=hu;unfold Vd UD at hu';rw[Bool.not_eq_false']at hu';simp only[zAa,Bool.or_eq_true,ao,aJ,ο,and_true]at hu';obtain⟨⟨a1,a2⟩,a3⟩:=hu';cases h1:aa k 1<;>rw[h1]at h0
       . rw[aw]at h1;obtain rfl:=tf (a1.resolve_left h1);cases h2:aa k 2<;>rw[h2]at h0
         . rw[aw]at h2;obtain⟨⟨rfl,b1⟩,rfl,b2⟩:=a2.resolve_left h2;obtain rfl:=tf b1;obtain rfl:=tf b2;cases hl:ν L.length 0<;>rw[hl]at h0
           . rw[b9]at hl;have z1:z=true:=by
              cases z
              . rw[hz rfl]at hl;exact absurd rfl hl
              . rfl
             subst z1;have h34:k=3\/k=4:=by omega
             rcases h34 with rfl|rfl
             . exact ooL f12 (Ys rfl (by omega) hm hg h0) hm
             . exact aoL f12 (Ys rfl (by omega) hm hg h0) hm
           . cases h0
         . rw[ao]at h2;subst h2;obtain⟨⟨hl,rfl⟩,rfl⟩:=a3.resolve_left (by decide);obtain rfl:=List.length_eq_zero_iff.1 hl;have h0:Xz k1 x k2 y=0:=h0;unfold Xz at h0;cases e1:aa (Uq k1 x) 0<;>rw[e1]at h0
           . rw[aw]at e1;exact absurd h0 e1
           cases e2:aa (Uq k2 y) 0<;>rw[e2]at h0
           . rw[aw]at e2;exact absurd h0 e2
           exact ivL f12 (aal hx (ao.mp e1)) (aal hy (ao.mp e2)) h0
       . rw[ao]at h1;subst h1;obtain⟨⟨rfl,b1⟩,rfl,b2⟩:=a2.resolve_left (by decide);obtain rfl:=tf b1;obtain rfl:=tf b2;obtain⟨⟨hl,rfl⟩,rfl⟩:=a3.resolve_left (by decide);obtain rfl:=List.length_eq_zero_iff.1 hl;exact sgL f12 (x9 hd h0)
     . cases h0
   . have:=@Ze k d x y k1 k2 ea la L;exact fAe f12 hm (fE7 hz hd hx hy (by omega) hg h0) (fE8 hz hd hx hy (by omega) hg (by omega))
 . cases z
   . rw[hz rfl]at hm;exact absurd (ς _) hm
   . exact ad5 f12 (by omega)
end
abbrev iA(n:Int):AV:=.a .i64 n
abbrev dA(s:List UInt8)(e g:Int)(mo da:List UInt8):AV:=.h [.b false,.b false,.e s,iA e,iA g,.e mo,.e da,.a .u8 0,.a .u8 0,.a .u8 0]
abbrev MX(a b c d:Int):AV:=.h [.a .i8 a,iA b,.a .i8 c,iA d]
def LY:List AV×AV:=([dA [48,48,48,48] 0 0 [48,50] []],iA 0)
def WG:pR tab cfg 10000 94 LY.1 LY.2=true:=by kernel_rfl
def I7:List AV×AV:=([.h [.b false,.b false,.e [48,48,48,48],iA 0,iA 0]],.d [iA 0,iA 0])
def VG:pR tab cfg 10000 146 I7.1 I7.2=true:=by kernel_rfl
def Md:List AV×AV:=([iA 0,iA 2],.d [iA 31,iA 0])
def T_:pR tab cfg 10000 293 Md.1 Md.2=true:=by kernel_rfl
def KL:List AV×AV:=([dA [48,48,48,88] 0 0 [] []],iA 0)
def VX:pR tab cfg 10000 94 KL.1 KL.2=true:=by kernel_rfl
def LU:List AV×AV:=([dA [48,48,48,50] 0 3 [] []],iA 0)
def VZ:pR tab cfg 10000 94 LU.1 LU.2=true:=by kernel_rfl
def KG:List AV×AV:=([.h [.b false,.b false,.e [48,48,48,50],iA 0,iA 3]],.d [iA 0,iA 9,iA 0])
def WQ:pR tab cfg 10000 73 KG.1 KG.2=true:=by kernel_rfl
def KN:List AV×AV:=([dA [48,48,48,48] 0 0 [] []],iA 0)
def Xt:pR tab cfg 10000 94 KN.1 KN.2=true:=by kernel_rfl
def Ma:List AV×AV:=([dA [48,48,48,49] 0 0 [48,49] []],iA 0)
def U_:pR tab cfg 10000 94 Ma.1 Ma.2=true:=by kernel_rfl
def Kv:List AV×AV:=([.h [.b false,.b false,.e [48,48,48,49],iA 0,iA 0]],.d [iA 1,iA 0])
def VJ:pR tab cfg 10000 146 Kv.1 Kv.2=true:=by kernel_rfl
def JP:List AV×AV:=([iA 1,iA 1],.d [iA 396,iA 0])
def Wy:pR tab cfg 10000 294 JP.1 JP.2=true:=by kernel_rfl
def E_:List AV×AV:=([dA [48,48,48,48] 0 0 [48,49] []],iA 0)
def Su:pR tab cfg 10000 94 E_.1 E_.2=true:=by kernel_rfl
def Fx:List AV×AV:=([dA [48,48,48,48] 0 0 [48,51] []],iA 0)
def Q8:pR tab cfg 10000 94 Fx.1 Fx.2=true:=by kernel_rfl
def EO:List AV×AV:=([dA [48,48,48,48] 0 0 [48,52] []],iA 0)
def Q3:pR tab cfg 10000 94 EO.1 EO.2=true:=by kernel_rfl
def FK:List AV×AV:=([iA 0,iA 3],.d [iA 60,iA 0])
def QX:pR tab cfg 10000 293 FK.1 FK.2=true:=by kernel_rfl
def ae7:List AV×AV:=([iA 0,iA 4],.d [iA 91,iA 0])
def alF:pR tab cfg 10000 293 ae7.1 ae7.2=true:=by kernel_rfl
def afk:List AV×AV:=([iA 0,iA 1],.d [iA 30,iA 0])
def alL:pR tab cfg 10000 294 afk.1 afk.2=true:=by kernel_rfl
def aeT:List AV×AV:=([dA [48,48,48,48] 0 0 [48,50] [48,49]],iA 0)
def akI:pR tab cfg 10000 94 aeT.1 aeT.2=true:=by kernel_rfl
def afi:List AV×AV:=([dA [48,48,48,48] 0 0 [48,50] [48,57]],iA 0)
def aki:pR tab cfg 10000 94 afi.1 afi.2=true:=by kernel_rfl
def afc:List AV×AV:=([MX 0 0 0 30,MX 0 31 0 39],.b true)
def akn:pR tab cfg 10000 93 afc.1 afc.2=true:=by kernel_rfl
def afj:List AV×AV:=([MX 0 0 0 39,MX 0 60 0 90],.b false)
def alM:pR tab cfg 10000 93 afj.1 afj.2=true:=by kernel_rfl
def afn:List AV×AV:=([iA 0],.d [iA 0,iA 0])
def akl:pR tab cfg 10000 222 afn.1 afn.2=true:=by kernel_rfl
def aeZ:List AV×AV:=([iA 31],.d [iA 0,iA 0])
def alt:pR tab cfg 10000 222 aeZ.1 aeZ.2=true:=by kernel_rfl
noncomputable def Pg:EU:=(.a0 none (.a0 none .b0 (.a0 none (.a0 none .b0 (.a0 none (.a0 none (.a0 (some [KG]) .b0 .b0) .b0) .b0)) (.a0 none (.a0 none (.a0 none .b0 (.a0 none (.a0 none (.a0 (some [Md,FK,ae7]) .b0 .b0) .b0) .b0)) .b0) (.a0 none .b0 (.a0 none (.a0 (some [afc,afj]) .b0 .b0) .b0))))) (.a0 none .b0 (.a0 none (.a0 none (.a0 none .b0 (.a0 none (.a0 none (.a0 (some [I7,Kv]) .b0 .b0) .b0) .b0)) .b0) (.a0 none (.a0 none (.a0 none .b0 (.a0 none (.a0 none (.a0 (some [JP,afk]) .b0 .b0) .b0) .b0)) .b0) (.a0 none .b0 (.a0 none (.a0 (some [LY,KL,LU,KN,Ma,E_,Fx,EO,aeT,afi]) .b0 (.a0 (some [afn,aeZ]) .b0 .b0)) .b0))))))
noncomputable def nW:cL:=EN cfg Pg
theorem Lw(g:nG Tryz.prog tab cfg):nL (λf l=>∀e∈l,gM Tryz.prog cfg f e.1 e.2) (λi=>i) Pg:=⟨aZ,⟨aZ,trivial,⟨aZ,⟨aZ,trivial,⟨aZ,⟨aZ,⟨(g7 (aD (g.a0 10000 WQ) g_)),trivial,trivial⟩,trivial⟩,trivial⟩⟩,⟨aZ,⟨aZ,⟨aZ,trivial,⟨aZ,⟨aZ,⟨(g7 (aD (g.a0 10000 T_) (aD (g.a0 10000 QX) (aD (g.a0 10000 alF) g_)))),trivial,trivial⟩,trivial⟩,trivial⟩⟩,trivial⟩,⟨aZ,trivial,⟨aZ,⟨(g7 (aD (g.a0 10000 akn) (aD (g.a0 10000 alM) g_))),trivial,trivial⟩,trivial⟩⟩⟩⟩⟩,⟨aZ,trivial,⟨aZ,⟨aZ,⟨aZ,trivial,⟨aZ,⟨aZ,⟨(g7 (aD (g.a0 10000 VG) (aD (g.a0 10000 VJ) g_))),trivial,trivial⟩,trivial⟩,trivial⟩⟩,trivial⟩,⟨aZ,⟨aZ,⟨aZ,trivial,⟨aZ,⟨aZ,⟨(g7 (aD (g.a0 10000 Wy) (aD (g.a0 10000 alL) g_))),trivial,trivial⟩,trivial⟩,trivial⟩⟩,trivial⟩,⟨aZ,trivial,⟨aZ,⟨(g7 (aD (g.a0 10000 WG) (aD (g.a0 10000 VX) (aD (g.a0 10000 VZ) (aD (g.a0 10000 Xt) (aD (g.a0 10000 U_) (aD (g.a0 10000 Su) (aD (g.a0 10000 Q8) (aD (g.a0 10000 Q3) (aD (g.a0 10000 akI) (aD (g.a0 10000 aki) g_))))))))))),trivial,⟨(g7 (aD (g.a0 10000 akl) (aD (g.a0 10000 alt) g_))),trivial,trivial⟩⟩,trivial⟩⟩⟩⟩⟩⟩
theorem Uz(g:nG Tryz.prog tab cfg):nG Tryz.prog tab nW:=g.e0 λf l h=>(Lw g).a0 f l h
end Go.Ev
