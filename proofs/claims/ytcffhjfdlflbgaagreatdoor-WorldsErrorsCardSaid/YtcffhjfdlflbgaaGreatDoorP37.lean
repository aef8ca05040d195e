import Derived.Test.YtcffhjfdlflbgaaGreatDoorRows
import Derived.Test.YtcffhjfdlflbgaaGreatDoorP36
set_option linter.all false
open List renaming take->ν,getElem?_eq_getElem->τ
open Option.some renaming inj->ξ
open Array renaming getElem?_toList->ο
open Nat renaming ble->π,beq->ς
open Int renaming ofNat->σ
set_option linter.all false
set_option maxRecDepth 100000
set_option maxHeartbeats 4000000
section
namespace Go.Ev
open Go Go.Proofs
variable{E F:Prop}{B:cD}{φ:Fk}{k:Int}{ea la:Bool}
def TF8:aQ:=aK (aK gZ 46 sGc) 21 sPg
theorem Xz:ak Tryz.prog cfg TF8:=arK (aiJ aW)
def L8g(L:List It)(k:Int)(ea la:Bool):cx:=iz jE 0 (d9 156 [1,2,3,7] (v8g L k ea la))
def vNo:dW:=λ_ _=>some .c0
def LX8:cx:=iz jE 0 (d9 156 [1,2,3,7] vNo)
theorem atQ{S:aQ}{C:bg}{c:Code}{tn:Nat}{rel:List Nat}:cu Tryz.prog (cH cfg S) C c tn rel vNo:=λvs o t Q hv hq J=>by
 cases hv;exact hq.elim
theorem atL{ws:List cD}:qI Tryz.prog (cH cfg TF8) (Cw cfg ws) LX8 (aL 59):=dv aiK λi hi e he st Q hw=>by
 have hi:i=0:=η
 subst hi;cases he;exact bR (cC.a0 Xz) ζ rfl atQ hw
def tR3(A X Y:Bool)(E:Prop)(F:Prop):Prop:=vZ 3 4 (not (not A)) (fk (not (not X)) (rp 3 (not (not X)) true (not X=false/\not (not A)/\not A=false/\vZ 3 3 (not (not Y)) (not Y=false/\F) (not Y/\E))) (rp 3 (not (not X)) false (not X/\not (not A)/\not A=false/\E))) (not A/\E)
theorem arh{A X Y:Bool}(hE:(A&&(X&&Y))=false->E)(hF:(A&&(X&&Y))->F):tR3 A X Y E F:=by
 cases A<;>cases X<;>cases Y<;>simp_all [tR3,vZ,fk,rp]
def tR1(X Y:Bool)(E F:Prop):Prop:=vZ 3 3 (not (not X)) (not X=false/\vZ 3 3 (not (not Y)) (not Y=false/\F) (not Y/\E)) (not X/\E)
theorem arf{X Y:Bool}(hE:(X&&Y)=false->E)(hF:(X&&Y)->F):tR1 X Y E F:=by
 cases X<;>cases Y<;>simp_all [tR1,vZ,fk,rp]
def tR2(A:Bool)(E F:Prop):Prop:=vZ 4 4 (not (not A)) (not A=false/\F) (not A/\E)
theorem arg{A:Bool}(hE:A=false->E)(hF:A->F):tR2 A E F:=by
 cases A<;>simp_all [tR2,vZ,fk,rp]
section
variable(d x y:Da)(k1 k2:Int)(c:Nat){Q:AV->Prop}
theorem bR1:∀(z:Bool) (L:List It) (ea la:Bool),(z=false->L=[])->∃D,gG Q (pW TF8 jE (ox z L) 59 [.g (aaa 1 d k1 x k2 y (kR z L c) ea la)]) D=tR1 (YN k1 x) (YN k2 y) (Q (V4 0 5)) (bif ς L.length 0&&!ea&&!la then rM d=true/\Q (V4 0 (UI d))else Q (V4 0 5))
 | false,[],false,false,_=>⟨bE 1000662081023000633120563025562240003020062006245566666,by kernel_rfl⟩
 | true,[],false,false,_=>⟨bE 1000662081023000633120563025562240003020062006245566666,by kernel_rfl⟩
 | false,[],false,true,_=>⟨bE 1000662081023000633103025562240003020062006245566666,by kernel_rfl⟩
 | true,[],false,true,_=>⟨bE 1000662081023000633103025562240003020062006245566666,by kernel_rfl⟩
 | false,[],true,_,_=>⟨bE 100066208102300063310302000562240003020062006245566666,by kernel_rfl⟩
 | true,[],true,_,_=>⟨bE 100066208102300063310302000562240003020062006245566666,by kernel_rfl⟩
 | true,_::_,_,_,_=>⟨bE 10006620810230006331030200562240003020062006245566666,by kernel_rfl⟩
 | false,_::_,_,_,h=>nomatch h rfl
theorem bR2:∀(z:Bool) (L:List It) (ea la:Bool),(z=false->L=[])->∃D,gG Q (pW TF8 jE (ox z L) 59 [.g (aaa 2 d k1 x k2 y (kR z L c) ea la)]) D=tR2 (XY d) (Q (V4 0 5)) (bif ς L.length 0&&!ea&&!la then rM x=true/\rM y/\Q (V4 0 (prE k1 x k2 y))else Q (V4 0 5))
 | false,[],false,false,_=>⟨bE 166230681220056666630206220240056666,by kernel_rfl⟩
 | true,[],false,false,_=>⟨bE 166230681220056666630206220240056666,by kernel_rfl⟩
 | false,[],false,true,_=>⟨bE 1662306810056630206220240056666,by kernel_rfl⟩
 | true,[],false,true,_=>⟨bE 1662306810056630206220240056666,by kernel_rfl⟩
 | false,[],true,_,_=>⟨bE 166230681056630206220240056666,by kernel_rfl⟩
 | true,[],true,_,_=>⟨bE 166230681056630206220240056666,by kernel_rfl⟩
 | true,_::_,_,_,_=>⟨bE 16623068156630206220240056666,by kernel_rfl⟩
 | false,_::_,_,_,h=>nomatch h rfl
theorem bR3(L:List It)(ea la:Bool):∀z all:Bool,∃D,gG Q (pW TF8 LX8 (ox z L) 59 [.g (aaa (bif all then 4 else 3) d k1 x k2 y (kR z L c) ea la)]) D=tR3 (XY d) (YN k1 x) (YN k2 y) (Q (V4 0 5)) (bif z then fk (aa (σ L.length) 0) (Q (V4 0 17)) (not (ab (σ L.length) 256)/\Q (V4 0 3))else Q (V4 0 17))
 | false,false=>⟨bE 16623068166302208102300063310005302000622430230200620062466622024056666,by kernel_rfl⟩
 | false,true=>⟨bE 166230681663022081023000633100053020006224302302006200624666220240056666,by kernel_rfl⟩
 | true,false=>⟨bE 16623068166302208102300063312014005302000622430230200620062466622024056666,by kernel_rfl⟩
 | true,true=>⟨bE 166230681663022081023000633120140053020006224302302006200624666220240056666,by kernel_rfl⟩
theorem bRk(k:Int)(L:List It)(ea la:Bool):∀z:Bool,∃D,gG Q (pW TF8 jE (ox z L) 59 [.g (aaa k d k1 x k2 y (kR z L c) ea la)]) D=rp 3 (not (aa k 3)) true (aa k 3=false/\rp 4 (not (aa k 1)) true (rp 3 (not (aa k 2)) true (not (aa k 4)/\Q (V4 0 18))))
 | false=>⟨bE 1770220320220,by kernel_rfl⟩
 | true=>⟨bE 1770220320220,by kernel_rfl⟩
theorem bRs(w:List AV)(L:List It)(n:Nat)(ea la:Bool):∀all:Bool,∃D,gG Q (pW TF8 (L8g L (bif all then 4 else 3) ea la) [.a w false none] 59 [.g (fS (bif all then 4 else 3) (.c 14 0 n (.a c)) ea la)]) D=fk (aa (σ n) 0) (Q (V4 0 17)) (fk (not (ab (σ n) 256)) (Q (V4 0 3)) (ς L.length n/\bQ ea ea/\bQ la la/\fk (fBz (Un (bif all then 4 else 3) ea la L) L.length) (∀J1:Nat->Value,Q (V4 0 0)) (∀J1:Nat->Value,Q (V4 (σ (fJ (Un (bif all then 4 else 3) ea la L) L.length 0)) (Un (bif all then 4 else 3) ea la L (fJ (Un (bif all then 4 else 3) ea la L) L.length 0))))))
 | false=>⟨bE 114220052140140066666666666666,by kernel_rfl⟩
 | true=>⟨bE 1142200521401400066666666666666,by kernel_rfl⟩
end
section
variable{k:Int}{d x y:Da}{k1 k2:Int}{ea la z:Bool}{L:List It}{c:Nat}(hz:z=false->L=[])(hd:rM d)(hx:rM x)(hy:rM y)(hn:L.length<=200)(hg:GdL L)
include hz hd hx hy hn hg
theorem f8s{all:Bool}:bu Tryz.prog cfg 59 [.g (aaa (bif all then 4 else 3) d k1 x k2 y (kR z L c) ea la)] (ox z L) (V4 (W6 (bif all then 4 else 3) d k1 x k2 y ea la L) (Tt (bif all then 4 else 3) d k1 x k2 y ea la L)) []:=by
 have e1:(not (ab 1 (bif all then(4:Int)else 3)&&ab (bif all then 4 else 3) 4))=false:=by cases all<;>rfl
 have h1:aa (bif all then(4:Int)else 3) 1=false:=by cases all<;>rfl
 have h2:aa (bif all then(4:Int)else 3) 2=false:=by cases all<;>rfl
 have eu:usE (bif all then 4 else 3) d k1 x k2 y ea la L.length=not (XY d&&(YN k1 x&&YN k2 y)):=by
  unfold usE;cases all<;>cases XY d<;>cases YN k1 x<;>cases YN k2 y<;>rfl
 by_cases hr:XY d&&(YN k1 x&&YN k2 y)&&z
 . simp only[zAa]at hr;obtain⟨⟨ha,hb,hc⟩,rfl⟩:=hr;unfold YN at hb hc;simp only[zAa,ao,and_true]at hb hc;obtain⟨rfl,hb⟩:=hb;obtain⟨rfl,hc⟩:=hc;obtain rfl:=Uq ha;obtain rfl:=Uq hb;obtain rfl:=Uq hc;refine P0 Xz (L:=L8g L (bif all then 4 else 3) ea la) i7 akf θ (dv aiK λi hi e he st Q hw=>?_) (bb λQ' hQ=>?_) κ
   . have hi:i=0:=η
     subst hi;cases he;exact adh (bR (cC.a0 ain) ζ rfl (atO hn hg) hw)
   . have hQ:=hQ _ rfl;obtain⟨D,hD⟩:=@bRs c Q' (dp L) L L.length ea la all;refine cg (hD.mpr ?_);unfold W6 Tt at hQ;rw[e1,eu,h1,h2]at hQ;refine⟨λh0=>?_,λh0=>⟨λh3=>?_,λ_=>⟨aJ.mpr rfl,bEq,bEq,λh _=>?_,λh _=>?_⟩⟩⟩
     . rw[aoe]at h0;rw[h0]at hQ;exact hQ
     . rw[Bool.not_eq_true',bF]at h3;simp only[Int.ofNat_eq_natCast]at h3;omega
     . rw[aoe]at h0;unfold stJ Ym at hQ;rw[h0,h]at hQ;exact hQ
     . rw[aoe]at h0;unfold stJ Ym at hQ;rw[h0,h]at hQ;exact hQ
 . refine P0 Xz (L:=LX8) j0 akf θ atL (bb λQ' hQ=>?_) κ;have hQ:=hQ _ rfl;obtain⟨D,hD⟩:=@bR3 d x y k1 k2 c Q' L ea la z all;refine cg (hD.mpr (arh (λh=>?_) λh=>?_))
   . unfold W6 Tt at hQ;rw[e1,eu,h]at hQ;exact hQ
   . rw[h,Bool.true_and]at hr;cases z
     . obtain rfl:=hz rfl;unfold W6 Tt at hQ;rw[e1,eu,h,h1,h2]at hQ;exact hQ
     . exact absurd rfl hr
theorem f8i:bu Tryz.prog cfg 59 [.g (aaa k d k1 x k2 y (kR z L c) ea la)] (ox z L) (V4 (W6 k d k1 x k2 y ea la L) (Tt k d k1 x k2 y ea la L)) []:=by
 by_cases hk:k=1\/k=2\/k=3\/k=4
 . rcases hk with rfl|rfl|rfl|rfl
   . refine P0 Xz (L:=jE) j0 akf θ ai (bb λQ' hQ=>?_) κ;have hQ:=hQ _ rfl;obtain⟨D,hD⟩:=@bR1 d x y k1 k2 c Q' z L ea la hz;unfold W6 Tt usE at hQ;generalize (ς L.length 0&&!ea&&!la)=st at *;refine cg (hD.mpr (arf (λh=>?_) λh=>?_))
     . rw[h]at hQ;cases st<;>exact hQ
     . rw[h]at hQ;cases st
       . exact hQ
       . exact⟨hd,hQ⟩
   . refine P0 Xz (L:=jE) j0 akf θ ai (bb λQ' hQ=>?_) κ;have hQ:=hQ _ rfl;obtain⟨D,hD⟩:=@bR2 d x y k1 k2 c Q' z L ea la hz;unfold W6 Tt usE at hQ;generalize (ς L.length 0&&!ea&&!la)=st at *;refine cg (hD.mpr (arg (λh=>?_) λh=>?_))
     . rw[h]at hQ;cases st<;>exact hQ
     . rw[h]at hQ;cases st
       . exact hQ
       . exact⟨hx,hy,hQ⟩
   . exact f8s (all:=false) hz hd hx hy hn hg
   . exact f8s (all:=true) hz hd hx hy hn hg
 . refine P0 Xz (L:=jE) j0 akf θ ai (bb λQ' hQ=>?_) κ;have hQ:=hQ _ rfl;obtain⟨D,hD⟩:=@bRk d x y k1 k2 c Q' k L ea la z;have e1:aa k 1=false:=aw.mpr δ;have e2:aa k 2=false:=aw.mpr δ;have e3:aa k 3=false:=aw.mpr δ;have e4:aa k 4=false:=aw.mpr δ;have e0:(not (ab 1 k&&ab k 4))=true:=by
    rw[Bool.not_eq_true',<-Bool.not_eq_true,zAa,aq,aq];omega
   unfold W6 Tt at hQ;rw[e0]at hQ;refine cg (hD.mpr ?_);rw[e1,e2,e3,e4];exact⟨rfl,rfl,rfl,rfl,rfl,rfl,rfl,rfl,rfl,rfl,rfl,rfl,hQ⟩
theorem f8k:bu Tryz.prog cfg 14 [.g (aaa k d k1 x k2 y (kR z L c) ea la)] (ox z L) (.a .i64 (Tt k d k1 x k2 y ea la L)) []:=by
 refine P0 (abN (f:=59) (v:=V4 (W6 k d k1 x k2 y ea la L) (Tt k d k1 x k2 y ea la L))) (L:=jE) j0 ap7 θ ai (bb λQ' hQ=>?_) κ;obtain⟨D,hD⟩:=@bC8 (okC Tryz.prog cfg) k d x y k1 k2 ea la L c Q' (W6 k d k1 x k2 y ea la L) (Tt k d k1 x k2 y ea la L) z;exact cg (hD.mpr ⟨aa3.2 (YO X7 (λ_=>rfl) (f8i hz hd hx hy hn hg)),hQ _ rfl⟩)
end
theorem abn(h:cR 14 B):∀j,j<6->cR 14 (xq B j)
 | 0,_=>h
 | _+1,_=>aa5
theorem acK(h:φ.s=none):adb (λ_=>φ) 1:=λi hi j q K hs=>by grind
theorem adK{q:Nat}{K:fg}(h:φ.s=some (0,q,K)):adb (λ_=>φ) 1:=λi hi j q K hs=>by grind
theorem uN{f:Nat}{z:Bool}{E:List AV}(hs:φ.s=none)(h:bu Tryz.prog cfg f [.g E] (ZT z) (.d [.c (b0 z) 0 1 (.a 1),.a .i64 0]) [.a (φ.at (b0 z)).cs true none]):abf f [.g E] (ox z []) 1 (.a 1) none (λ_=>φ) λ_=>.b:=by
 cases z
 . exact u1 j0 (Nat.zero_le _) hs h
 . exact u1 j0 (Nat.le_refl 1) hs h
theorem uR{f:Nat}{z:Bool}{E:List AV}{q:Nat}{K':fg}(hs:φ.s=some (0,q,K'))(hB:cR 14 B)(h:bu Tryz.prog cfg f [.g E] (ZT z) (.d [.c (b0 z+1) 0 1 (.a 1),.a .i64 0]) [.a (φ.at (b0 z)).cs true none,B]):abf f [.g E] (ox z []) 1 (.a 1) none (λ_=>φ) (xq B):=by
 cases z
 . exact u2 j0 (Nat.zero_le _) hs hB h
 . exact u2 j0 (Nat.le_refl 1) hs hB h
def Bd(k:Int)(x:Da):Prop:=(k=1/\dF x/\fy x=true)\/(k=2/\x=rb)\/(k=3/\x=rb)
section
variable{z:Bool}{c:Nat}(f12:bu Tryz.prog cfg 12 [] [] (.b true) [])
include f12
end
theorem alX:∀{R acc:List Rn},(R.foldl q8 acc).length<=acc.length+R.length/\(1<=acc.length+R.length->1<=(R.foldl q8 acc).length)
 | [],acc=>⟨Nat.le_refl _,λh=>h⟩
 | r::R,acc=>by
   have:=@alX R (q8 acc r);have h2:(q8 acc r).length<=acc.length+1/\1<=(q8 acc r).length:=by
    unfold q8;grind
   grind
theorem asX{R:List Rn}(h:1<=R.length):1<=(rF R).length/\(rF R).length<=R.length:=by
 have e:∀{L acc:List Rn},(L.foldl (λacc x=>aaI x acc) acc).length=acc.length+L.length:=λ{L acc}=>adM;grind [aa8,aeI,alX,rF,aaO,abL]
section
variable{c:Nat}{ea la:Bool}{L:List It}(f12:bu Tryz.prog cfg 12 [] [] (.b true) [])
include f12
end
theorem aoP{F:Nat->Int}:∀{m s:Nat},(∃i,s<=i/\i<s+m/\F i≠0)->F (fJ F m s)≠0
 | 0,s,⟨i,h1,h2,_⟩=>by omega
 | m+1,s,⟨i,h1,h2,h3⟩=>by
   unfold fJ;cases e:aa (F s) 0 with
   | false=>exact aw.mp e
   | true=>
     have:s≠i:=λh=>by
      subst h;exact h3 (ao.mp e)
     exact aoP ⟨i,by omega,by omega,h3⟩
theorem at6{L:List It}(h:Ym k ea la L=0):∀i,i<L.length->Un k ea la L i=0:=by
 intro i hi;unfold Ym at h;cases hb:fBz (Un k ea la L) L.length with
 | true=>exact ao.mp (List.all_eq_true.1 hb i (List.mem_range.2 hi))
 | false=>
   rw[hb]at h;by_cases e:Un k ea la L i=0
   . exact e
   . exact absurd h (aoP ⟨i,Nat.zero_le _,by omega,e⟩)
theorem atJ{L:List It}{i:Nat}(h:Un k ea la L i=0):Zl (aa k 4) (L.getD i fP)=0/\bdE ea la (ς i 0) (ς (i+1) L.length) (L.getD i fP)=false:=by
 unfold Un at h;cases e:aa (Zl (aa k 4) (L.getD i fP)) 0<;>rw[e]at h
 . rw[aw]at e;exact absurd h e
 . refine⟨ao.mp e,?_⟩;cases hb:bdE ea la (ς i 0) (ς (i+1) L.length) (L.getD i fP)with
   | false=>rfl
   | true=>rw[hb]at h;cases h
theorem asj{x:It}(g:Z_ x)(h:Zl (aa k 4) x=0):aap k x=true:=by
 have v:=aoX g h;unfold Z_ at g;rw[zAa]at g;unfold Zl at h;unfold aap mB;rw[v];cases hf:aa (UI x.f) 0<;>rw[hf]at h
 . rw[aw]at hf;exact absurd h hf
 cases hr:x.r<;>rw[hr]at h
 . cases hz:XY x.t<;>rw[hz]at h
   . cases h
   . rw[show dZ x.t.ng x.t.lg x.t.s x.t.e x.t.g x.t.mo x.t.da x.t.a x.t.b x.t.c=true from hz];cases ha:aa k 4<;>rw[ha]at h
     . rfl
     . cases hn:fy x.f<;>rw[hn]at h
       . cases h
       . rfl
 . cases ht:aa (UI x.t) 0<;>rw[ht]at h
   . rw[aw]at ht;exact absurd h ht
   . rw[Vd g.2 (ao.mp ht)];cases ho:orD x.f x.t<;>rw[ho]at h
     . cases h
     . rw[show mV x.f.s x.f.ng x.f.e x.f.g x.f.mo x.f.da x.t.s x.t.ng x.t.e x.t.g x.t.mo x.t.da=true from ho];cases ha:aa k 4<;>rw[ha]at h
       . rfl
       . cases hn:fy x.f<;>rw[hn]at h
         . cases h
         . rfl
theorem apc{L:List It}(hk:(aa k 3 || aa k 4))(h1:1<=L.length)(h6:L.length<=6)(hg:GdL L)(h:Ym k ea la L=0):nI k ea la L:=by
 have a:=λi hi=>atJ (at6 h i hi);refine⟨hk,h1,by omega,λi hi=>asj (hg i hi) (a i hi).1,λhe=>?_,λhl=>?_,λhe hl hn=>?_⟩
 . have:=(a 0 h1).2;unfold bdE at this;rw[he,show ς 0 0=true from rfl]at this;cases hn:aaD (L.getD 0 fP)with
   | false=>rw[hn]at this;cases hx:(la&&ς (0+1) L.length)<;>rw[hx]at this<;>cases this
   | true=>rfl
 . have:=(a (L.length-1) δ).2;unfold bdE at this;rw[hl,show ς (L.length-1+1) L.length=true from aJ.mpr δ]at this;cases hn:aaD (L.getD (L.length-1) fP)with
   | false=>rw[hn]at this;cases hx:(ea&&ς (L.length-1) 0)<;>rw[hx]at this<;>cases this
   | true=>rfl
 . have:=(a 0 h1).2;unfold bdE at this;rw[he,hl,hn]at this;cases hx:aaD (L.getD 0 fP)<;>rw[hx]at this<;>cases this
theorem aa_{x:Da}:0<=UI x:=wk
theorem n0:(0:Int)<=0:=ζ
theorem n3:(0:Int)<=5:=ζ
theorem n10:(0:Int)<=10:=ζ
theorem n11:(0:Int)<=11:=ζ
theorem n17:(0:Int)<=17:=ζ
theorem n18:(0:Int)<=18:=ζ
theorem aou{k:Int}{x:Da}:0<=Yf k x:=by
 have:=@aa_ x;unfold Yf;cases aa k 1<;>cases aa (UI x) 0<;>cases fy x<;>cases(aa k 2 || aa k 3)<;>cases XY x<;>first|exact this|exact n0|exact n3|exact n10|exact n11|exact n17|exact n18
theorem asW{k:Int}{x:Da}{l:Int}{y:Da}:0<=prE k x l y:=by
 have h1:=@aou k x;have h2:=@aou l y;unfold prE jM;cases aa (Yf k x) 0<;>cases aa (Yf l y) 0<;>cases aa k 1<;>cases aa l 1<;>cases ab (aP x.ng x.s x.e x.mo x.da) (bq y.ng y.s y.e y.mo y.da)<;>first|exact h1|exact h2|exact n0|exact n3|exact n10|exact n11|exact n17|exact n18
theorem aqF{a:Bool}{x:It}:0<=Zl a x:=by
 have h1:=@aa_ x.f;have h2:=@aa_ x.t;unfold Zl;cases aa (UI x.f) 0<;>cases x.r<;>cases aa (UI x.t) 0<;>cases orD x.f x.t<;>cases XY x.t<;>cases a<;>cases fy x.f<;>first|exact h1|exact h2|exact n0|exact n3|exact n10|exact n11|exact n17|exact n18
theorem as2{k:Int}{ea la:Bool}{L:List It}:0<=Ym k ea la L:=by
 unfold Ym;cases fBz (Un k ea la L) L.length
 . show 0<=Un k ea la L _;generalize fJ (Un k ea la L) L.length 0=i;have h:=@aqF (aa k 4) (L.getD i fP);unfold Un;cases aa (Zl (aa k 4) (L.getD i fP)) 0<;>cases bdE ea la (ς i 0) (ς (i+1) L.length) (L.getD i fP)<;>first|exact h|exact n0|exact n3|exact n10|exact n11|exact n17|exact n18
 . exact Int.le_refl 0
section
variable{k:Int}{d x y:Da}{k1 k2:Int}{ea la z:Bool}{L:List It}{c:Nat}
theorem aqp:0<=Tt k d k1 x k2 y ea la L:=by
 have h1:=@aa_ d;have h2:=@asW k1 x k2 y;have h3:=@as2 k ea la L;unfold Tt;cases(ab 1 k&&ab k 4)<;>cases usE k d k1 x k2 y ea la L.length<;>cases aa k 1<;>cases aa k 2<;>cases ς L.length 0<;>first|exact h1|exact h2|exact h3|exact n0|exact n3|exact n10|exact n11|exact n17|exact n18
theorem arT(g:rM x)(h:Yf k x=0):Bd k x:=by
 cases hk:aa k 1 with
 | true=>exact .inl ⟨ao.mp hk,(Zo g h hk).1,(Zo g h hk).2.1⟩
 | false=>
   unfold Yf at h;rw[hk,cond_false]at h;cases h23:(aa k 2 || aa k 3)<;>rw[h23]at h
   . cases h
   . cases hz:XY x<;>rw[hz]at h
     . cases h
     . rw[Bool.or_eq_true,ao,ao]at h23;rcases h23 with h2|h3
       . exact .inr (.inl ⟨h2,Uq hz⟩)
       . exact .inr (.inr ⟨h3,Uq hz⟩)
end
abbrev iA(n:Int):AV:=.a .i64 n
abbrev dA(s:List UInt8)(e g:Int)(mo da:List UInt8):AV:=.g [.b false,.b false,.e s,iA e,iA g,.e mo,.e da,.a .u8 0,.a .u8 0,.a .u8 0]
abbrev MX(a b c d:Int):AV:=.g [.a .i8 a,iA b,.a .i8 c,iA d]
end Go.Ev
end
section
namespace Go.Ev
open Go Go.Proofs Go.Proofs.YtcffhjfdlflbgaaGreatDoor
variable{w:World}
theorem iN{P:Program}{w:World}:∀{l:List (String×DataW Unit)} {ps:List MemPlace},DataW.LaidVars P w l ps->∀(i:Nat) (n:String) (d:DataW Unit),l[i]? = some (n,d)->
 ∃g t cs fuel p,P.globalNamed n=some g/\(P.globals[g]?).map (·.type)=some t/\w.var? P n=some cs/\DataW.trod (λ_=>()) P w 0 (λ_=>true) false fuel t cs.toList=some (d,p)/\∀x∈MemPlace.row ⟨g,0,none⟩ cs.size,x∈ps
 | [],ps,_,i,n,d,hd=>by simp at hd
 | (n0,d0)::r,ps,h,i,n,d,hd=>by
   obtain⟨g,t,cs,fuel,p,q,h1,h2,h3,h4,h5,rfl⟩:=h;cases i with
   | zero=>
     simp only[List.getElem?_cons_zero,zAb,Prod.mk.injEq]at hd;obtain⟨rfl,rfl⟩:=hd;exact⟨g,t,cs,fuel,p,h1,h2,h3,h4,λx hx=>by simp[hx]⟩
   | succ i=>
     obtain⟨g',t',cs',fuel',p',k1,k2,k3,k4,k5⟩:=iN h5 i n d (by simpa using hd);exact⟨g',t',cs',fuel',p',k1,k2,k3,k4,λx hx=>by simp[k5 x hx]⟩
def GU(x y:Int):DataW Unit:=.agg [.lit (.int .i64 x),.lit (.int .i64 y)]
def ab9:List Int->List (DataW Unit)
 | x::y::r=>GU x y::ab9 r
 | _=>[]
theorem AJ{x y a b:Int}(h:GU x y=.agg [.lit (.int .i64 a),.lit (.int .i64 b)]):x=a/\y=b:=by
 simpa [GU]using h
theorem oq:∀{l:List Int},l.length%2=0->∀(i:Nat) (v:Int),l[i]? = some v->∃x y,(ab9 l)[i/2]? = some (GU x y)/\(i%2=0->v=x)/\(i%2=1->v=y)
 | [],_,i,v,h=>by simp at h
 | [x],h,i,v,_=>by simp at h
 | x::y::r,h,0,v,hv=>⟨x,y,rfl,λ_=>by simpa using hv.symm,λh=>by simp at h⟩
 | x::y::r,h,1,v,hv=>⟨x,y,rfl,λh=>by simp at h,λ_=>by simpa using hv.symm⟩
 | x::y::r,h,i+2,v,hv=>by
   obtain⟨a,b,h1,h2,h3⟩:=oq (l:=r) (by simp at h;omega) i v (by simpa using hv);refine⟨a,b,?_,λe=>h2 δ,λe=>h3 δ⟩;rw[show(i+2)/2=i/2+1 by omega,ab9,List.getElem?_cons_succ];exact h1
noncomputable def abA:List (String×DataW Unit):=Rows.familiesOfRow.laid
theorem laid_met(h:laidMetH Tryz.prog abA w):laidMet Tryz.prog abA w:=by
 unfold laidMetH at h;have e:(abA.filter λx=>x.2.handleName?.isSome)=[]:=ε
 rw[e]at h;exact h
theorem N0(h:laidMet Tryz.prog abA w):∀i v,XQ[i]? = some v->w.cell? ⟨1,i,none⟩=some (.int .i64 v):=by
 obtain⟨ps,hv,_,_⟩:=h;obtain⟨g,t,cs,fuel,p,h1,h2,h3,h4,_⟩:=iN hv 7 "circa/months.lengths" Rows.laid_circa_months_lengths rfl;obtain rfl:1=g:=ξ ((show Tryz.prog.globalNamed "circa/months.lengths" = some 1 by kernel_rfl).symm.trans h1);obtain rfl:349=t:=ξ ((show(Tryz.prog.globals[1]?).map (·.type)=some 349 by kernel_rfl).symm.trans h2);have hc:=Lib.cells_of_tab (zs:=XQ) (k:=.i64) Tryz.underlying349 Tryz.underlying3 ε ε h4;intro i v hi;rw[World.var?_cell (by kernel_rfl:Tryz.prog.globalNamed "circa/months.lengths" = some 1) h3 i,<-ο,hc,List.getElem?_map,hi];rfl
theorem KT(h:laidMet Tryz.prog abA w):∀i v,XU[i]? = some v->w.cell? ⟨2,i,none⟩=some (.int .i64 v):=by
 obtain⟨ps,hv,_,_⟩:=h;obtain⟨g,t,cs,fuel,p,h1,h2,h3,h4,_⟩:=iN hv 8 "circa/seasons.spans" Rows.laid_circa_seasons_spans rfl;obtain rfl:2=g:=ξ ((show Tryz.prog.globalNamed "circa/seasons.spans" = some 2 by kernel_rfl).symm.trans h1);obtain rfl:352=t:=ξ ((show(Tryz.prog.globals[2]?).map (·.type)=some 352 by kernel_rfl).symm.trans h2);have h4:DataW.trod (λ_=>()) Tryz.prog w 0 (λ_=>true) false fuel 352 cs.toList=some (.agg (ab9 XU),p):=h4;have hc:=D8 Tryz.underlying352 Tryz.underlying351 rfl rfl Tryz.underlying3 Tryz.underlying3 rfl rfl ε ε ε h4;intro i v hi;rw[World.var?_cell (by kernel_rfl:Tryz.prog.globalNamed "circa/seasons.spans" = some 2) h3 i,<-ο];obtain⟨x,y,hd,hx,hy⟩:=oq rfl i v hi;obtain⟨a,b,he,ha,hb⟩:=hc _ _ hd;obtain⟨rfl,rfl⟩:=AJ he;rcases Nat.mod_two_eq_zero_or_one i with h2|h2
 . rw[hx h2,<-ha,show 2*(i/2)=i by omega]
 . rw[hy h2,<-hb,show 2*(i/2)+1=i by omega]
theorem My(h:laidMet Tryz.prog abA w):∃b o,w.cell? ⟨5,0,none⟩=some (.slice (some ⟨b,o,none⟩) 3 3)/\∀i v,XP[i]? = some v->w.cell? ⟨b,o+i,none⟩=some (.int .i64 v):=by
 obtain⟨ps,hv,_,_⟩:=h;obtain⟨g,t,cs,fuel,p,h1,h2,h3,h4,_⟩:=iN hv 6 "circa/years.steps" Rows.laid_circa_years_steps rfl;obtain rfl:5=g:=ξ ((show Tryz.prog.globalNamed "circa/years.steps" = some 5 by kernel_rfl).symm.trans h1);obtain rfl:367=t:=ξ ((show(Tryz.prog.globals[5]?).map (·.type)=some 367 by kernel_rfl).symm.trans h2);have h4:DataW.trod (λ_=>()) Tryz.prog w 0 (λ_=>true) false fuel 367 cs.toList=some (.slice (ab9 XP) [],p):=h4;obtain⟨b,o,hcs,hc⟩:=zK Tryz.underlying367 Tryz.underlying368 rfl rfl Tryz.underlying2 Tryz.underlying2 rfl rfl ε ε ε ζ h4;refine⟨b,o,?_,λi v hi=>?_⟩
 . rw[World.var?_cell (by kernel_rfl:Tryz.prog.globalNamed "circa/years.steps" = some 5) h3 0,<-ο,hcs];rfl
 . obtain⟨x,y,hd,hx,hy⟩:=oq rfl i v hi;obtain⟨a,b',he,ha,hb⟩:=hc _ _ hd;obtain⟨rfl,rfl⟩:=AJ he;rcases Nat.mod_two_eq_zero_or_one i with h2|h2
   . rw[hx h2,<-ha,show 2*(i/2)=i by omega]
   . rw[hy h2,<-hb,show 2*(i/2)+1=i by omega]
theorem Mh(h:laidMet Tryz.prog abA w){i g:Nat}{n:String}{text:List UInt8}(hi:abA[i]? = some (n,.iface "*errors.errorString" (.ptr (.agg [.lit (.string text)]))))(hg:Tryz.prog.globalNamed n=some g)(ht:(Tryz.prog.globals[g]?).map (·.type)=some 259) :
 (∃b o,w.cell? ⟨g,0,none⟩=some (.iface 376 (.pointer (some ⟨b,o,none⟩))))/\∀c e fz,w.heap[g]? = some (.cells c e fz)->c.size=1:=by
 obtain⟨ps,hv,_,hps⟩:=h;obtain⟨g',t,cs,fuel,p,h1,h2,h3,h4,h5⟩:=iN hv i n _ hi;obtain rfl:g=g':=ξ (hg.symm.trans h1);obtain rfl:259=t:=ξ (ht.symm.trans h2);obtain⟨a,s,hcs,hcell,_⟩:=errorString_of_trod Tryz.underlying259 (λu hu=>typeName_ptr_named (nm := "errors.errorString") ε ε ζ u hu) Tryz.underlying376 Tryz.underlying378 rfl rfl Tryz.underlying9 ε ε h4 (λu v e=>by
  have hc0:w.cell? ⟨g,0,none⟩=some (.iface u v):=by
   rw[World.var?_cell hg h3 0,<-ο,e];rfl
  have hsz:cs.size=1:=by
   have:=congrArg List.length e;simpa using this
  exact(hps g 0 (h5 _ (by rw[hsz];simp[MemPlace.row]))).2 u v hc0)
 obtain⟨b,o,sp⟩:=a;have hsp:sp=none:=by
  unfold World.cell? at hcell;cases sp with
  | none=>rfl
  | some v=>split at hcell<;>simp at hcell
 subst hsp;refine⟨⟨b,o,by rw[World.var?_cell hg h3 0,<-ο,hcs];rfl⟩,λc e fz hb=>?_⟩;have h3':=h3;unfold World.var? at h3';rw[hg]at h3';simp only[Option.bind_some,hb,zAb]at h3';have:=congrArg List.length hcs;rw[h3'];simpa using this
theorem JA(h:laidMetH Tryz.prog abA w):Pr w:=by
 have h:=laid_met h;have hS:=Mh h (i:=5) (g:=3) (n := "strconv.ErrSyntax") rfl ε ε;have hR:=Mh h (i:=4) (g:=4) (n := "strconv.ErrRange") rfl ε ε;exact⟨My h,N0 h,KT h,hS.1,hR.1,hS.2,hR.2⟩
end Go.Ev
end
section
namespace Go.Ev
open Go Go.Proofs Go.ChangeShapes
variable{b i:Nat}{ws:List cD}{w:World}
theorem GT{α:Type}{d:α}{Q:Nat->α->Prop}:∀{n:Nat},(∀i,i<n->∃a,Q i a)->∃l:List α,l.length=n/\∀i,i<n->Q i (l.getD i d)
 | 0,_=>⟨[],rfl,λi hi=>absurd hi (Nat.not_lt_zero _)⟩
 | n+1,h=>by
   obtain⟨l,hl,hq⟩:=GT (n:=n) (d:=d) λi hi=>h i δ;obtain⟨a,ha⟩:=h n δ;refine⟨l++[a],by grind,λi hi=>?_⟩;grind
theorem K3{o:Nat}:(⟨b,o,none⟩:Addr).add i=⟨b,o+i,none⟩:=by
 grind [Addr.add]
theorem Ka{k:IntKind}{n:Int}(h:(Lit.int k n).wf):k.min<=n/\n<=k.max:=by
 grind [Lit.wf]
theorem KR(h:i<14+ws.length):(dQ (Cw cfg ws) ⟨0,[],[]⟩ i).isSome->False:=by
 intro hs;unfold dQ at hs;have:(Cw cfg ws).lo=14+ws.length:=rfl;rw[jT δ,cond_false]at hs;cases hs
theorem Dk{f:FuncId}{fn:Func}{av:List AV}{m:Nat->bv}(hfn:Tryz.prog.funcs[f]? = some fn)(h4:(fn.name == "runtime.NumGoroutine")=false)(h5:fn.body.isNone=false)(hf:bu Tryz.prog cfg f av ws (.b true) [])(hi:dX cfg (λid=>id<14+ws.length) m (Cw cfg ws) ⟨0,[],[]⟩ w)(ho:fM (λid=>id<14+ws.length) m av) :
 Calls Tryz.prog f (aD m av).toArray w λe w'=>e=.returned (.bool true)/\RowKit.Below w.heap.size w w':=by
 rcases hf _ m w hi ho with⟨_,h⟩|⟨v,w',hv,_⟩
 . refine h.mono ?_;rintro e w' ⟨v,rfl,D',m',rfl,_,he⟩;exact⟨rfl,he.os,he.j0,he.c0,he.i0,λk hk=>he.f0 k hk λi hi ho=>(KR hi ho).elim⟩
 . exfalso;have h6:¬fn.name = "runtime.NumGoroutine" := by grind
   have h7:¬fn.body=none:=λe=>by grind
   simp_all [callFunc]
theorem JZ{m:Nat->bv}(hi:dX cfg (λid=>id<14) m C0 ⟨0,[],[]⟩ w){L:List bv}(hL:M0 cfg.a0.n (λid=>id<14) m w L ws):dX cfg (λid=>id<14+ws.length) (mL cfg.a0.n m L) (Cw cfg ws) ⟨0,[],[]⟩ w:=by
 have h:=Lk gR.lv Az hi hL;have e:DL cfg.a0.n (λid=>id<14) L=λid=>id<14+ws.length:=by
  funext id
  unfold DL;have:=hL.1;have h14:cfg.a0.n=14:=rfl;grind
 grind
theorem vY:Tryz.prog.cellsOf 5=1:=κ
theorem P8:Tryz.prog.cellsOf 4=1:=κ
theorem ap1:Tryz.prog.cellsOf 28=3:=κ
theorem aax{α:Type}{l:List α}{n:Nat}{y:Option α}(h:y=l[i]?)(hl:l.length=n)(hi:i<n):∃a,y=some a:=⟨_,h.trans (τ δ)⟩
theorem M9{cfg':cL}{f:FuncId}{args:List AV}{v:AV}(hG:cfg.G=cfg'.G)(hr:cfg.a0=cfg'.a0)(h:gM Tryz.prog cfg' f args v):gM Tryz.prog cfg f args v:=λC D m o w hi hok=>
 (h C D m o w (dX.to (cfg:=cfg) (cfg':=cfg') hG.symm hr.symm hi) hok).a0 λV w' ⟨h1,h2,h3,h4⟩=>⟨h1,h2,dw.to (cfg:=cfg') (cfg':=cfg) hG hr h3,h4⟩
section
variable{P:Program}{w:World}{r:Reach}{b0:Nat}{t:TypeId}{v:Value}
theorem EP{e:TypeId}(ht:P.underlying t=some (.slice e))(h:Cell.okWide P w r b0 t v):v=.slice none 0 0\/∃b o len cap c el fz,v=.slice (some ⟨b,o,none⟩) len cap/\w.heap[b]? = some (.cells c el fz):=by
 unfold Cell.okWide Cell.ok at h;rw[ht]at h;cases v<;>first|exact h.elim|skip
 rename_i a len cap;cases a with
 | none=>
   grind
 | some a=>
   right
   obtain⟨_,_,_,h4,row,cells,h5,_⟩:=h;obtain⟨b,o,sp⟩:=a;simp only at h4 h5;subst h4;grind [World.shape?]
end
def BW{H:Type}(t:TypeId)(d:DataW H):Prop:=∀n∈d.weights Tryz.prog t,n<=reachBytes
theorem anz{H:Type}{t:TypeId}{d:DataW H}{n:Nat}:∀{l:List (DataW H)},d∈l->n∈d.weights Tryz.prog t->n∈DataW.weightsAll Tryz.prog t l
 | x::r,h,hn=>by
   simp only[DataW.weightsAll,List.mem_append];cases List.mem_cons.1 h with
   | inl e=>subst e;exact Or.inl hn
   | inr e=>exact Or.inr (anz e hn)
section
variable{P:Program}{w:World}{r:Reach}{b0:Nat}
theorem aas:∀{ts:List TypeId} {l:List Value} {i:Nat} {t:TypeId} {v:Value},akj P w r b0 ts l->ts[i]? = some t->l[i]? = some v->Cell.okWide P w r b0 t v
 | t::ts,v::vs,0,_,_,h,ht,hv=>by cases ht;cases hv;exact h.1
 | t::ts,v::vs,i+1,_,_,h,ht,hv=>aas h.2 ht hv
end
theorem akW:Tryz.prog.cellsOf 30=10:=κ
theorem atz:Tryz.prog.cellsOf 27=5:=κ
theorem co3:Tryz.prog.cellsOf 3=1:=κ
theorem co9:Tryz.prog.cellsOf 9=1:=κ
theorem arW:Tryz.prog.cellsOf 32=11:=κ
theorem atA:Tryz.prog.cellsOf 33=1:=κ
theorem ar0:Tryz.prog.cellsOf 80=21:=κ
theorem arX:Tryz.prog.cellsOf 35=36:=κ
def It.a0(x:It):List AV:=x.f.cs++.b x.r::x.t.cs
section
variable{H:Type}{enc:TypeId×Value->H}{w:World}{sp:Nat->Bool}{held:Bool}{fuel:Nat}{cs:List Value}{x:DataW H×List MemPlace}{t:TypeId}
theorem fld{fs:Array Field}(ht:Tryz.prog.underlying t=some (.struct fs))(h:DataW.trod enc Tryz.prog w 0 sp held fuel t cs=some x)(hb:BW t x.1):cs.length=Tryz.prog.cellsOf t/\∃n,∀(i:Nat) (f:Field),fs[i]? = some f->∃y,DataW.trod enc Tryz.prog w 0 sp held n f.type ((cs.drop f.offset).take (Tryz.prog.cellsOf f.type))=some y/\BW f.type y.1:=by
 obtain⟨xs,n,_,rfl,hl,hxl,hf⟩:=DataW.trod_struct ht h;refine⟨hl,n,λi f hi=>?_⟩;have hi':i<xs.length:=by rw[hxl];exact(Array.getElem?_eq_some_iff.1 hi).1
 refine⟨xs[i],(hf i f hi).trans (τ hi'),λk hk=>hb k ?_⟩;simp only[DataW.weights,ht];exact DataW.weights_mem_each (j:=i) (by simp[hi]) (by simp[hi']) k hk
theorem qm(h:DataW.trod enc Tryz.prog w 0 sp held fuel 5 cs=some x):∃n,cs=[.int .u8 n]/\0<=n/\n<=255:=by
 obtain⟨n,hn,_,hw⟩:=DataW.trod_int Tryz.underlying5 h;exact⟨n,hn,Ka hw⟩
theorem rd8(h:DataW.trod enc Tryz.prog w 0 sp held fuel 5 cs=some x):∃n,cs=[.int .u8 n]/\af .u8 n=true:=by
 obtain⟨n,e,h1⟩:=qm h;exact⟨n,e,aai h1⟩
theorem rd6(h:DataW.trod enc Tryz.prog w 0 sp held fuel 3 cs=some x):∃n,cs=[.int .i64 n]/\af .i64 n=true:=by
 obtain⟨n,hn,_,hw⟩:=DataW.trod_int Tryz.underlying3 h;exact⟨n,hn,by rw[aE];exact Ka hw⟩
theorem rdS(h:DataW.trod enc Tryz.prog w 0 sp held fuel 9 cs=some x)(hb:BW 9 x.1):∃s:List UInt8,cs=[.string ⟨⟨s⟩⟩]/\π s.length 140737488351232=true:=by
 obtain⟨s,rfl,rfl,_⟩:=DataW.trod_string Tryz.underlying9 h;refine⟨s.data.toList,rfl,al.mpr (hb _ ?_)⟩;simp only[DataW.weights];exact List.mem_singleton.2 rfl
theorem AS(h:DataW.trod enc Tryz.prog w 0 sp held fuel 30 cs=some x)(hb:BW 30 x.1):∃D:Da,rM D/\∀m,cs=D.cs.map (aj m):=by
 obtain⟨hl,n,hf⟩:=fld Tryz.underlying30 h hb;rw[akW]at hl
 match cs,hl with
 | [c0,c1,c2,c3,c4,c5,c6,c7,c8,c9],_=>
   obtain⟨_,hY,bY⟩:=hf 0 _ rfl;obtain⟨_,hM,bM⟩:=hf 1 _ rfl;obtain⟨_,hD,bD⟩:=hf 2 _ rfl;obtain⟨_,hK,-⟩:=hf 3 _ rfl;change DataW.trod enc Tryz.prog w 0 sp held n 27 (ν (Tryz.prog.cellsOf 27) _)=_ at hY;change DataW.trod enc Tryz.prog w 0 sp held n 9 (ν (Tryz.prog.cellsOf 9) _)=_ at hM hD;change DataW.trod enc Tryz.prog w 0 sp held n 28 (ν (Tryz.prog.cellsOf 28) _)=_ at hK;rw[atz]at hY;rw[co9]at hM hD;rw[ap1]at hK;obtain⟨mo,e5,r5⟩:=rdS hM bM;obtain⟨da,e6,r6⟩:=rdS hD bD;obtain⟨ks,k,_,_,_,hkl,hk⟩:=DataW.trod_array Tryz.underlying28 hK;rw[vY]at hk;obtain⟨_,h7⟩:=aax (hk 0 ζ) hkl ζ;obtain⟨_,h8⟩:=aax (hk 1 ζ) hkl ζ;obtain⟨_,h9⟩:=aax (hk 2 ζ) hkl ζ;obtain⟨m7,e7,r7⟩:=rd8 h7;obtain⟨m8,e8,r8⟩:=rd8 h8;obtain⟨m9,e9,r9⟩:=rd8 h9;obtain⟨-,j,hy⟩:=fld Tryz.underlying27 hY bY;obtain⟨_,h0,-⟩:=hy 0 _ rfl;obtain⟨_,h1,-⟩:=hy 1 _ rfl;obtain⟨_,h2,b2⟩:=hy 2 _ rfl;obtain⟨_,h3,-⟩:=hy 3 _ rfl;obtain⟨_,h4,-⟩:=hy 4 _ rfl;change DataW.trod enc Tryz.prog w 0 sp held j 4 (ν (Tryz.prog.cellsOf 4) _)=_ at h0 h1;change DataW.trod enc Tryz.prog w 0 sp held j 9 (ν (Tryz.prog.cellsOf 9) _)=_ at h2;change DataW.trod enc Tryz.prog w 0 sp held j 3 (ν (Tryz.prog.cellsOf 3) _)=_ at h3 h4;rw[P8]at h0 h1;rw[co9]at h2;rw[co3]at h3 h4;obtain⟨m0,e0,_⟩:=DataW.trod_bool Tryz.underlying4 h0;obtain⟨m1,e1,_⟩:=DataW.trod_bool Tryz.underlying4 h1;obtain⟨s,e2,r2⟩:=rdS h2 b2;obtain⟨m3,e3,r3⟩:=rd6 h3;obtain⟨m4,e4,r4⟩:=rd6 h4;cases e0;cases e1;cases e2;cases e3;cases e4;cases e5;cases e6;cases e7;cases e8;cases e9;refine⟨⟨m0,m1,s,m3,m4,mo,da,m7,m8,m9⟩,?_,λm=>rfl⟩;unfold rM;rw[r2,r5,r6,r3,r4,r7,r8,r9];rfl
theorem rdB(h:DataW.trod enc Tryz.prog w 0 sp held fuel 32 cs=some x)(hb:BW 32 x.1):∃(k:Int) (D:Da),rM D/\∀m,cs=.int .u8 k::D.cs.map (aj m):=by
 obtain⟨hl,n,hf⟩:=fld Tryz.underlying32 h hb;rw[arW]at hl
 match cs,hl with
 | [c0,c1,c2,c3,c4,c5,c6,c7,c8,c9,c10],_=>
   obtain⟨_,h1,-⟩:=hf 0 _ rfl;obtain⟨_,h2,b2⟩:=hf 1 _ rfl;change DataW.trod enc Tryz.prog w 0 sp held n 5 (ν (Tryz.prog.cellsOf 5) _)=_ at h1;change DataW.trod enc Tryz.prog w 0 sp held n 30 (ν (Tryz.prog.cellsOf 30) _)=_ at h2;rw[vY]at h1;rw[akW]at h2;obtain⟨k,e1,_⟩:=rd8 h1;obtain⟨D,g,e2⟩:=AS h2 b2;cases e1;exact⟨k,D,g,λm=>congrArg _ (e2 m)⟩
theorem jU(h:DataW.trod enc Tryz.prog w 0 sp held fuel 80 cs=some x)(hb:BW 80 x.1):∃X:It,Z_ X/\∀m,cs=X.a0.map (aj m):=by
 obtain⟨hl,n,hf⟩:=fld Tryz.underlying80 h hb;rw[ar0]at hl
 match cs,hl with
 | [c0,c1,c2,c3,c4,c5,c6,c7,c8,c9,c10,c11,c12,c13,c14,c15,c16,c17,c18,c19,c20],_=>
   obtain⟨_,h1,b1⟩:=hf 0 _ rfl;obtain⟨_,h2,-⟩:=hf 1 _ rfl;obtain⟨_,h3,b3⟩:=hf 2 _ rfl;change DataW.trod enc Tryz.prog w 0 sp held n 30 (ν (Tryz.prog.cellsOf 30) _)=_ at h1 h3;change DataW.trod enc Tryz.prog w 0 sp held n 4 (ν (Tryz.prog.cellsOf 4) _)=_ at h2;rw[akW]at h1 h3;rw[P8]at h2;obtain⟨D,g1,e1⟩:=AS h1 b1;obtain⟨r,e2,_⟩:=DataW.trod_bool Tryz.underlying4 h2;obtain⟨T,g3,e3⟩:=AS h3 b3;cases e2;refine⟨⟨D,r,T⟩,by unfold Z_;rw[g1,g3];rfl,λm=>?_⟩;have e1:[c0,c1,c2,c3,c4,c5,c6,c7,c8,c9]=_:=e1 m;have e3:[c11,c12,c13,c14,c15,c16,c17,c18,c19,c20]=_:=e3 m;show[c0,c1,c2,c3,c4,c5,c6,c7,c8,c9]++.bool r::[c11,c12,c13,c14,c15,c16,c17,c18,c19,c20]=_;rw[e1,e3];rfl
theorem rdX(h:DataW.trod enc Tryz.prog w 0 sp held fuel 35 cs=some x)(hb:BW 35 x.1):∃(k:Int) (d:Da) (k1:Int) (p:Da) (k2:Int) (q:Da) (sv:Value) (ea la:Bool),rM d/\rM p/\rM q/\(∃n y,DataW.trod enc Tryz.prog w 0 sp held n 33 [sv]=some y/\BW 33 y.1)/\cs[33]? = some sv/\∀m A,aj m A=sv->aD m (aaa k d k1 p k2 q A ea la)=cs:=by
 obtain⟨hl,n,hf⟩:=fld Tryz.underlying35 h hb;rw[arX]at hl
 match cs,hl with
 | c0::c1::c2::c3::c4::c5::c6::c7::c8::c9::c10::c11::c12::c13::c14::c15::c16::c17::c18::c19::c20::c21::c22::c23::c24::c25::c26::c27::c28::c29::c30::c31::c32::c33::c34::c35::[],_=>
   obtain⟨_,h0,-⟩:=hf 0 _ rfl;obtain⟨_,h1,b1⟩:=hf 1 _ rfl;obtain⟨_,h2,b2⟩:=hf 2 _ rfl;obtain⟨_,h3,b3⟩:=hf 3 _ rfl;obtain⟨y4,h4,b4⟩:=hf 4 _ rfl;obtain⟨_,h5,-⟩:=hf 5 _ rfl;obtain⟨_,h6,-⟩:=hf 6 _ rfl;change DataW.trod enc Tryz.prog w 0 sp held n 5 (ν (Tryz.prog.cellsOf 5) _)=_ at h0;change DataW.trod enc Tryz.prog w 0 sp held n 30 (ν (Tryz.prog.cellsOf 30) _)=_ at h1;change DataW.trod enc Tryz.prog w 0 sp held n 32 (ν (Tryz.prog.cellsOf 32) _)=_ at h2 h3;change DataW.trod enc Tryz.prog w 0 sp held n 33 (ν (Tryz.prog.cellsOf 33) _)=_ at h4;change DataW.trod enc Tryz.prog w 0 sp held n 4 (ν (Tryz.prog.cellsOf 4) _)=_ at h5 h6;rw[vY]at h0;rw[akW]at h1;rw[arW]at h2 h3;rw[atA]at h4;rw[P8]at h5 h6;obtain⟨k,e0,_⟩:=rd8 h0;obtain⟨d,g1,e1⟩:=AS h1 b1;obtain⟨k1,p,g2,e2⟩:=rdB h2 b2;obtain⟨k2,q,g3,e3⟩:=rdB h3 b3;obtain⟨ea,e5,_⟩:=DataW.trod_bool Tryz.underlying4 h5;obtain⟨la,e6,_⟩:=DataW.trod_bool Tryz.underlying4 h6;cases e0;cases e5;cases e6;refine⟨k,d,k1,p,k2,q,c33,ea,la,g1,g2,g3,⟨n,y4,h4,b4⟩,rfl,λm A hA=>?_⟩;subst hA;have e1:[c1,c2,c3,c4,c5,c6,c7,c8,c9,c10]=_:=e1 m;have e2:[c11,c12,c13,c14,c15,c16,c17,c18,c19,c20,c21]=_:=e2 m;have e3:[c22,c23,c24,c25,c26,c27,c28,c29,c30,c31,c32]=_:=e3 m;show _=.int .u8 k::([c1,c2,c3,c4,c5,c6,c7,c8,c9,c10]++([c11,c12,c13,c14,c15,c16,c17,c18,c19,c20,c21]++([c22,c23,c24,c25,c26,c27,c28,c29,c30,c31,c32]++[aj m A,.bool ea,.bool la])));rw[e1,e2,e3];rfl
end
theorem aep{m:Nat->bv}:∀{G:List It} {f:Nat->Option Value},(∀q,q<G.length->∀j,j<21->f (q*21+j)=((G.getD q fP).a0.map (aj m))[j]?)->∀i v,(dp G)[i]? = some v->f i=some (aj m v)
 | [],f,_,i,v,hv=>by simp[dp]at hv
 | x::xs,f,h,i,v,hv=>by
   have hl:x.a0.length=21:=rfl;have hv:(x.a0++dp xs)[i]? = some v:=hv;by_cases hi:i<21
   . have h1:=h 0 θ i hi;grind
   . rw[List.getElem?_append_right δ,hl]at hv;have:=aep (m:=m) (f:=λn=>f (n+21)) (λq hq j hj=>by
      have:=h (q+1) η j hj;grind) (i-21) v hv
     grind
section
variable{H:Type}{enc:TypeId×Value->H}{w:World}{sp:Nat->Bool}{held:Bool}
theorem rdL{fuel o len cap:Nat}{x:DataW H×List MemPlace}(h:DataW.trod enc Tryz.prog w 0 sp held fuel 33 [.slice (some ⟨b,o,none⟩) len cap]=some x)(hb:BW 33 x.1) :
 ∃G:List It,G.length=len/\len<=cap/\GdL G/\∀m i v,(dp G)[i]? = some v->w.cell? ⟨b,o+i,none⟩=some (aj m v):=by
 rcases DataW.trod_slice Tryz.underlying33 h with⟨h1,_⟩|⟨a,len',cap',elems,rest,n,_,h1,rfl,_,hcap,_,hel,hat,_⟩
 . grind
 . cases h1;rw[ar0]at hat;have main:∀i,i<len->∃X:It,Z_ X/\∀j,j<21->∀m,w.cell? ⟨b,o+(i*21+j),none⟩=(X.a0.map (aj m))[j]? := by
    intro i hi;have h3:=hat i hi;rw[τ δ]at h3;obtain⟨cs',hcs,htr⟩:=Option.bind_eq_some_iff.1 h3;obtain⟨X,hX,he⟩:=jU htr λk hk=>hb k (by
     simp only[DataW.weights,Tryz.underlying33];exact List.mem_cons_of_mem _ (List.mem_append_left _ (anz (List.mem_map_of_mem (List.getElem_mem _)) hk)))
    refine⟨X,hX,λj hj m=>?_⟩;obtain⟨_,_,hcell⟩:=World.cells?_some hcs;rw[<-he m];grind [K3]
   obtain⟨G,hR,hq⟩:=GT (d:=fP) main;exact⟨G,hR,hcap,λi hi=>(hq i δ).1,λm=>aep (f:=λi=>w.cell? ⟨b,o+i,none⟩) λq h j hj=>(hq q δ).2 j hj m⟩
end
theorem as6{m:Nat->bv}{o:Nat}{G:List It}(hb:∃c e fz,w.heap[b]? = some (.cells c e fz))(hc:∀m i v,(dp G)[i]? = some v->w.cell? ⟨b,o+i,none⟩=some (aj m v)):JU cfg.a0.n (λid=>id<14) m w (.a (dp G) false none) ⟨b,o,0⟩:=by
 obtain⟨c,el,fz,hh⟩:=hb;refine⟨_,rfl,lU,?_,c,el,fz,hh,λi v hv=>?_⟩
 . intro i hi;rw[acs]at hi;cases hi
 . have:=hc m i v hv;grind [World.cell?]
theorem atE:Tryz.prog.cellTypes Tryz.prog.depth 35=some [5,4,4,9,3,3,9,9,5,5,5,5,4,4,9,3,3,9,9,5,5,5,5,4,4,9,3,3,9,9,5,5,5,33,4,4]:=κ
end Go.Ev
end
set_option linter.all false
set_option maxRecDepth 100000
set_option maxHeartbeats 4000000
namespace Go.Ev
open Go Go.Proofs
variable{kd:Int}
def aq6:dP:=λ
 | [.g [.b ng,.b lg,.e s,.a .i64 e,.a .i64 g,.e mo,.e da,.a .u8 a,.a .u8 b,.a .u8 c]]=>some (aH [π s.length 140737488351232,π mo.length 140737488351232,π da.length 140737488351232,af .i64 e,af .i64 g,af .u8 a,af .u8 b,af .u8 c] (.a0 (.a .i64 (bW ng lg s e g mo da a b c))))
 | _=>none
theorem apS{S:aQ}(hS:ak Tryz.prog cfg S):ak Tryz.prog cfg (aK S 42 aq6):=au hS λargs t v he hv=>by
 unfold aq6 at he;split at he
 . cases he;obtain⟨⟨h1,h2,h3,h4,h5,h6,h7,h8,-⟩,hv⟩:=aF hv;rw[al]at h1 h2 h3;rw[aE]at h4 h5 h6 h7 h8;cases hv;exact zQ h1 h2 h3 h4 h5 h6 h7 h8
 . cases he
theorem W_{ng lg:Bool}{s:List UInt8}{e g:Int}{mo da:List UInt8}{a b c:Int}(h:bW ng lg s e g mo da a b c=0):s.length<=1000/\mo.length<=1000/\da.length<=1000:=by
 have h1:=Wi (dC (Cc h) dE).1;have h2:=aaX h;omega
def atm:aQ:=eQ (aK (aK (aK (pX gZ 40 Pm) 42 aq6) 43 XZ) 44 YH) 41 (fl 14 [4] YK)
theorem sX:ak Tryz.prog cfg atm:=UQ (Vn (TX (apS (eG aW Es))))
theorem ar7{ng lg:Bool}{s:List UInt8}{e g:Int}{mo da:List UInt8}{x y z p a b c d:Int}{R:List Rn}{K:fg}(hR:Nx R)(hn:R.length<=1000)(hs:s.length<=140737488351232)(hm:mo.length<=140737488351232)(hda:da.length<=140737488351232)(he : -9223372036854775808<=e/\e<=9223372036854775807)(hg : -9223372036854775808<=g/\g<=9223372036854775807)(hb : -9223372036854775808<=b/\b<=9223372036854775807)(hd : -9223372036854775808<=d/\d<=9223372036854775807)(ha : -128<=a/\a<=127)(hc : -128<=c/\c<=127)(hx:0<=x/\x<=255)(hy:0<=y/\y<=255)(hz:0<=z/\z<=255)(hp:0<=p/\p<=255):bu Tryz.prog cfg 10 [.g [.a .u8 kd,.c 14 0 R.length K,.b ng,.b lg,.e s,.a .i64 e,.a .i64 g,.e mo,.e da,.a .u8 x,.a .u8 y,.a .u8 z,.a .u8 p,.a .i8 a,.a .i64 b,.a .i8 c,.a .i64 d]] [.a (bh R) false none] (.a .i64 (iT kd R.length (jo R) (dZ ng lg s e g mo da x y z) p (sZ a b c d) (bW ng lg s e g mo da x y z) g (eA (s++mo++da)) (mZ x y z) (i6 a b c d p) (bA a b c d) a c)) []:=by
 have hk:¬(1<=kd/\kd<=5)\/kd=1\/kd=2\/kd=3\/kd=4\/kd=5:=δ
 rcases hk with hk|rfl|rfl|rfl|rfl|rfl
 . refine lF sX jz ai (bE 1023312320240) (R:=λQ=>(λ(B:Bool)(E:Prop)=>(λ(A:Bool)=>(λ(C:Prop)=>(A->A/\A/\B=false/\not (ab kd 5)/\E)/\(C->C/\C/\B/\E)) (A=false)) (not B)) (not (ab 1 kd)) (Q (.a .i64 18))) (λ_=>by rfl) λQ' hQ=>?_;try dsimp only
   have fin:∀v,iT kd R.length (jo R) (dZ ng lg s e g mo da x y z) p (sZ a b c d) (bW ng lg s e g mo da x y z) g (eA (s++mo++da)) (mZ x y z) (i6 a b c d p) (bA a b c d) a c=v->Q' (.a .i64 v):=λv h=>hQ _ (by rw[h]);clear hQ;have fin:=fin 18 (by unfold iT;grind);simp_all [az]
 . refine lF sX jz ai (bE 100031031111244401400051424240056666) (R:=λQ=>(λ(A B F G:Bool)(H:Nat)(C:Prop)=>(λ(E:List AV)(I N:Prop)=>(λ(O P:Bool)=>(A->A/\(B->B/\(F->C)/\(F=false->(G->Q (.a .i64 17))/\(G=false->(O->(eJ E->(P->π R.length 1000/\Q (.a .i64 (jo (Xw E))))/\(P=false->False))/\(eJ E=false->False))/\(O=false->False))))/\(I->I/\C))/\(N->N/\C)) (and true (and (π (HAdd.hAdd 0 H) (bh R).length) (bc 14 E))) (ς (List.length (Xw E)) R.length)) (b_ (bh R) 0 H) (B=false) (A=false)) (and (and (bQ ng false) (and (bQ lg false) (and (ae s []) (and (aa e 0) (and (aa g 0) true))))) (and (ae mo []) (and (ae da []) (and (and (aa x 0) (and (aa y 0) (and (aa z 0) true))) true)))) (aa p 0) (not (and (and (aa a 0) (and (aa b 0) true)) (and (and (aa c 0) (and (aa d 0) true)) true))) (aa (σ R.length) 0) (HMul.hMul R.length 4) (Q (.a .i64 5))) (λ_=>by rfl) λQ' hQ=>?_;try dsimp only
   have fin:∀v,iT 1 R.length (jo R) (dZ ng lg s e g mo da x y z) p (sZ a b c d) (bW ng lg s e g mo da x y z) g (eA (s++mo++da)) (mZ x y z) (i6 a b c d p) (bA a b c d) a c=v->Q' (.a .i64 v):=λv h=>hQ _ (by rw[h]);clear hQ;try simp only[tf]
   try simp only[tR]
   try simp only[tI]
   have bl:π (R.length*4) (R.length*4)=true:=al.mpr (Nat.le_refl _);have ir:=pD hR;simp only[l_,iJ,Vo,kz,Nat.zero_add,bl,ir,Bool.and_true,Bool.true_and];generalize jo R=ch at *;unfold iT at fin;generalize dZ ng lg s e g mo da x y z=dz at *;generalize sZ a b c d=sz at *;generalize mZ x y z=mz at *;generalize eA (s++mo++da)=xb at *;generalize bW ng lg s e g mo da x y z=ef at *;generalize i6 a b c d p=ft at *;generalize bA a b c d=rk at *;simp only[az,reduceCtorEq];grind
 . refine lF sX jz ai (bE 100031031000581033811470002242702062401422776614242400056666) (R:=λQ=>(λ(A C F G N O P T V:Bool)(U:Int)(H I:Prop)=>(λ(W:Bool)(B E Y Z:Prop)=>(F->F/\(G->G/\(N->H)/\(N=false->π s.length 140737488351232/\π mo.length 140737488351232/\π da.length 140737488351232/\af .i64 e/\af .i64 g/\af .u8 x/\af .u8 y/\af .u8 z/\(W->Q (.a .i64 U))/\(W=false->(C->C/\C/\O/\P/\T/\C/\(A->A/\A/\A/\A/\A/\(V->I)/\(V=false->Q (.a .i64 0)))/\(B->B/\B/\B/\B/\B/\I))/\(E->E/\E/\E/\I))))/\(Y->Y/\H))/\(Z->Z/\H)) (not (aa U 0)) (A=false) (C=false) (G=false) (F=false)) (eA ((s++mo)++da)) (aa g 0) (aa (σ R.length) 0) (aa p 0) (not (and (and (aa a 0) (and (aa b 0) true)) (and (and (aa c 0) (and (aa d 0) true)) true))) (π s.length 1000) (π mo.length 1000) (π da.length 1000) (not (and (aa x 0) (and (aa y 0) (and (aa z 0) true)))) (bW ng lg s e g mo da x y z) (Q (.a .i64 5)) (Q (.a .i64 1))) (λ_=>by rfl) λQ' hQ=>?_;try dsimp only
   have fin:∀v,iT 2 R.length (jo R) (dZ ng lg s e g mo da x y z) p (sZ a b c d) (bW ng lg s e g mo da x y z) g (eA (s++mo++da)) (mZ x y z) (i6 a b c d p) (bA a b c d) a c=v->Q' (.a .i64 v):=λv h=>hQ _ (by rw[h]);clear hQ;have ln:=@W_ ng lg s e g mo da x y z;try simp only[tf]
   try simp only[tR]
   try simp only[tI]
   unfold iT at fin;generalize dZ ng lg s e g mo da x y z=dz at *;generalize sZ a b c d=sz at *;generalize mZ x y z=mz at *;generalize eA (s++mo++da)=xb at *;generalize bW ng lg s e g mo da x y z=ef at *;generalize i6 a b c d p=ft at *;generalize bA a b c d=rk at *;simp only[az,reduceCtorEq]
   (repeat' first|exact trivial|refine⟨?_,?_⟩|intro)<;>first|contradiction|omega|assumption|(apply fin;grind)|(exfalso;grind)|grind
 . refine lF sX jz ai (bE 1031023311477005143202461424556666) (R:=λQ=>(λ(B C F H N:Bool)(G I:Prop)=>(λ(A:Bool)(O:Prop)=>(λ(E:Prop)=>(B->B/\(F->G)/\(F=false->(A->A/\A/\C=false/\(H->I)/\(H=false->af .i8 a/\af .i64 b/\af .i8 c/\af .i64 d/\ab 1 p/\ab p 3/\(N->Q (.a .i64 1))/\(N=false->Q (.a .i64 0))))/\(E->E/\E/\C/\I)))/\(O->O/\G)) (A=false)) (not C) (B=false)) (aa (σ R.length) 0) (not (ab 1 p)) (not (and (and (bQ ng false) (and (bQ lg false) (and (ae s []) (and (aa e 0) (and (aa g 0) true))))) (and (ae mo []) (and (ae da []) (and (and (aa x 0) (and (aa y 0) (and (aa z 0) true))) true))))) (not (ab p 3)) (not (i6 a b c d p)) (Q (.a .i64 5)) (Q (.a .i64 18))) (λ_=>by kernel_rfl) λQ' hQ=>?_;try dsimp only
   have fin:∀v,iT 3 R.length (jo R) (dZ ng lg s e g mo da x y z) p (sZ a b c d) (bW ng lg s e g mo da x y z) g (eA (s++mo++da)) (mZ x y z) (i6 a b c d p) (bA a b c d) a c=v->Q' (.a .i64 v):=λv h=>hQ _ (by rw[h]);clear hQ;try simp only[tf]
   try simp only[tR]
   try simp only[tI]
   unfold iT at fin;generalize dZ ng lg s e g mo da x y z=dz at *;generalize sZ a b c d=sz at *;generalize mZ x y z=mz at *;generalize eA (s++mo++da)=xb at *;generalize bW ng lg s e g mo da x y z=ef at *;generalize i6 a b c d p=ft at *;generalize bA a b c d=rk at *;simp only[az,reduceCtorEq]
   (repeat' first|exact trivial|refine⟨?_,?_⟩|intro)<;>first|contradiction|omega|assumption|(apply fin;grind)|(exfalso;grind)|grind
 . refine lF sX jz ai (bE 10003103100053381033811422074220746142424556666) (R:=λQ=>(λ(A B F G N O:Bool)(H I:Prop)=>(λ(C E P T:Prop)=>(F->F/\(G->G/\(N->H)/\(N=false->(A->A/\A/\A/\A/\A/\(B->B/\B/\B/\B/\B/\(O->I)/\(O=false->Q (.a .i64 0)))/\(C->C/\C/\C/\C/\C/\I))/\(E->E/\E/\E/\E/\E/\I)))/\(P->P/\H))/\(T->T/\H)) (B=false) (A=false) (G=false) (F=false)) (aa (bA a b c d) 0) (aa a (Neg.neg 1)) (aa (σ R.length) 0) (and (and (bQ ng false) (and (bQ lg false) (and (ae s []) (and (aa e 0) (and (aa g 0) true))))) (and (ae mo []) (and (ae da []) (and (and (aa x 0) (and (aa y 0) (and (aa z 0) true))) true)))) (not (aa p 0)) (not (aa c 0)) (Q (.a .i64 5)) (Q (.a .i64 1))) (λ_=>by kernel_rfl) λQ' hQ=>?_;try dsimp only
   have fin:∀v,iT 4 R.length (jo R) (dZ ng lg s e g mo da x y z) p (sZ a b c d) (bW ng lg s e g mo da x y z) g (eA (s++mo++da)) (mZ x y z) (i6 a b c d p) (bA a b c d) a c=v->Q' (.a .i64 v):=λv h=>hQ _ (by rw[h]);clear hQ;try simp only[tf]
   try simp only[tR]
   try simp only[tI]
   unfold iT at fin;generalize dZ ng lg s e g mo da x y z=dz at *;generalize sZ a b c d=sz at *;generalize mZ x y z=mz at *;generalize eA (s++mo++da)=xb at *;generalize bW ng lg s e g mo da x y z=ef at *;generalize i6 a b c d p=ft at *;generalize bA a b c d=rk at *;simp only[az,reduceCtorEq]
   (repeat' first|exact trivial|refine⟨?_,?_⟩|intro)<;>first|contradiction|omega|assumption|(apply fin;grind)|(exfalso;grind)|grind
 . refine lF sX jz ai (bE 100031031000533810338114220742207406142424556666) (R:=λQ=>(λ(A B F G N O:Bool)(H I:Prop)=>(λ(C E P T:Prop)=>(F->F/\(G->G/\(N->H)/\(N=false->(A->A/\A/\A/\A/\A/\(B->B/\B/\B/\B/\B/\(O->I)/\(O=false->Q (.a .i64 0)))/\(C->C/\C/\C/\C/\C/\I))/\(E->E/\E/\E/\E/\E/\I)))/\(P->P/\H))/\(T->T/\H)) (B=false) (A=false) (G=false) (F=false)) (aa (bA a b c d) 0) (aa a 0) (aa (σ R.length) 0) (and (and (bQ ng false) (and (bQ lg false) (and (ae s []) (and (aa e 0) (and (aa g 0) true))))) (and (ae mo []) (and (ae da []) (and (and (aa x 0) (and (aa y 0) (and (aa z 0) true))) true)))) (not (aa p 0)) (not (aa c 1)) (Q (.a .i64 5)) (Q (.a .i64 1))) (λ_=>by kernel_rfl) λQ' hQ=>?_;try dsimp only
   have fin:∀v,iT 5 R.length (jo R) (dZ ng lg s e g mo da x y z) p (sZ a b c d) (bW ng lg s e g mo da x y z) g (eA (s++mo++da)) (mZ x y z) (i6 a b c d p) (bA a b c d) a c=v->Q' (.a .i64 v):=λv h=>hQ _ (by rw[h]);clear hQ;try simp only[tf]
   try simp only[tR]
   try simp only[tI]
   unfold iT at fin;generalize dZ ng lg s e g mo da x y z=dz at *;generalize sZ a b c d=sz at *;generalize mZ x y z=mz at *;generalize eA (s++mo++da)=xb at *;generalize bW ng lg s e g mo da x y z=ef at *;generalize i6 a b c d p=ft at *;generalize bA a b c d=rk at *;simp only[az,reduceCtorEq]
   (repeat' first|exact trivial|refine⟨?_,?_⟩|intro)<;>first|contradiction|omega|assumption|(apply fin;grind)|(exfalso;grind)|grind
theorem ar6{ng lg:Bool}{s:List UInt8}{e g:Int}{mo da:List UInt8}{x y z p a b c d:Int}(hs:s.length<=140737488351232)(hm:mo.length<=140737488351232)(hda:da.length<=140737488351232)(he : -9223372036854775808<=e/\e<=9223372036854775807)(hg : -9223372036854775808<=g/\g<=9223372036854775807)(hb : -9223372036854775808<=b/\b<=9223372036854775807)(hd : -9223372036854775808<=d/\d<=9223372036854775807)(ha : -128<=a/\a<=127)(hc : -128<=c/\c<=127)(hx:0<=x/\x<=255)(hy:0<=y/\y<=255)(hz:0<=z/\z<=255)(hp:0<=p/\p<=255):bu Tryz.prog cfg 10 [.g [.a .u8 kd,.f,.b ng,.b lg,.e s,.a .i64 e,.a .i64 g,.e mo,.e da,.a .u8 x,.a .u8 y,.a .u8 z,.a .u8 p,.a .i8 a,.a .i64 b,.a .i8 c,.a .i64 d]] [] (.a .i64 (iT kd 0 0 (dZ ng lg s e g mo da x y z) p (sZ a b c d) (bW ng lg s e g mo da x y z) g (eA (s++mo++da)) (mZ x y z) (i6 a b c d p) (bA a b c d) a c)) []:=by
 have hk:¬(1<=kd/\kd<=5)\/kd=1\/kd=2\/kd=3\/kd=4\/kd=5:=δ
 rcases hk with hk|rfl|rfl|rfl|rfl|rfl
 . refine lF sX (λx hx=>by grind) ai (bE 1023312320240) (R:=λQ=>(λ(B:Bool)(E:Prop)=>(λ(A:Bool)=>(λ(C:Prop)=>(A->A/\A/\B=false/\not (ab kd 5)/\E)/\(C->C/\C/\B/\E)) (A=false)) (not B)) (not (ab 1 kd)) (Q (.a .i64 18))) (λ_=>by rfl) λQ' hQ=>?_;try dsimp only
   have fin:∀v,iT kd 0 0 (dZ ng lg s e g mo da x y z) p (sZ a b c d) (bW ng lg s e g mo da x y z) g (eA (s++mo++da)) (mZ x y z) (i6 a b c d p) (bA a b c d) a c=v->Q' (.a .i64 v):=λv h=>hQ _ (by rw[h]);clear hQ;have fin:=fin 18 (by unfold iT;grind);simp_all [az]
 . refine lF sX (λx hx=>by grind) ai (bE 100031031551424240056666) (R:=λQ=>(λ(A B E:Bool)(C:Prop)=>(λ(F G:Prop)=>(A->A/\(B->B/\(E->C)/\(E=false->Q (.a .i64 17)))/\(F->F/\C))/\(G->G/\C)) (B=false) (A=false)) (and (and (bQ ng false) (and (bQ lg false) (and (ae s []) (and (aa e 0) (and (aa g 0) true))))) (and (ae mo []) (and (ae da []) (and (and (aa x 0) (and (aa y 0) (and (aa z 0) true))) true)))) (aa p 0) (not (and (and (aa a 0) (and (aa b 0) true)) (and (and (aa c 0) (and (aa d 0) true)) true))) (Q (.a .i64 5))) (λ_=>by rfl) λQ' hQ=>?_;try dsimp only
   have fin:∀v,iT 1 0 0 (dZ ng lg s e g mo da x y z) p (sZ a b c d) (bW ng lg s e g mo da x y z) g (eA (s++mo++da)) (mZ x y z) (i6 a b c d p) (bA a b c d) a c=v->Q' (.a .i64 v):=λv h=>hQ _ (by rw[h]);clear hQ;try simp only[tf]
   try simp only[tR]
   try simp only[tI]
   unfold iT at fin;generalize dZ ng lg s e g mo da x y z=dz at *;generalize sZ a b c d=sz at *;generalize mZ x y z=mz at *;generalize eA (s++mo++da)=xb at *;generalize bW ng lg s e g mo da x y z=ef at *;generalize i6 a b c d p=ft at *;generalize bA a b c d=rk at *;simp only[az,reduceCtorEq]
   (repeat' first|exact trivial|refine⟨?_,?_⟩|intro)<;>first|contradiction|omega|assumption|(apply fin;grind)|(exfalso;grind)|grind
 . refine lF sX (λx hx=>by cases hx) ai (bE 10310005810338114700022427020624014227766142466666) (R:=λQ=>(λ(A C F H N O P U:Bool)(T:Int)(G I:Prop)=>(λ(V:Bool)(B E W:Prop)=>(F->F/\(H->I)/\(H=false->π s.length 140737488351232/\π mo.length 140737488351232/\π da.length 140737488351232/\af .i64 e/\af .i64 g/\af .u8 x/\af .u8 y/\af .u8 z/\(V->Q (.a .i64 T))/\(V=false->(C->C/\C/\N/\O/\P/\C/\(A->A/\A/\A/\A/\A/\(U->G)/\(U=false->Q (.a .i64 0)))/\(B->B/\B/\B/\B/\B/\G))/\(E->E/\E/\E/\G))))/\(W->W/\I)) (not (aa T 0)) (A=false) (C=false) (F=false)) (eA ((s++mo)++da)) (aa g 0) (aa p 0) (not (and (and (aa a 0) (and (aa b 0) true)) (and (and (aa c 0) (and (aa d 0) true)) true))) (π s.length 1000) (π mo.length 1000) (π da.length 1000) (not (and (aa x 0) (and (aa y 0) (and (aa z 0) true)))) (bW ng lg s e g mo da x y z) (Q (.a .i64 1)) (Q (.a .i64 5))) (λ_=>by kernel_rfl) λQ' hQ=>?_;try dsimp only
   have fin:∀v,iT 2 0 0 (dZ ng lg s e g mo da x y z) p (sZ a b c d) (bW ng lg s e g mo da x y z) g (eA (s++mo++da)) (mZ x y z) (i6 a b c d p) (bA a b c d) a c=v->Q' (.a .i64 v):=λv h=>hQ _ (by rw[h]);clear hQ;have ln:=@W_ ng lg s e g mo da x y z;try simp only[tf]
   try simp only[tR]
   try simp only[tI]
   unfold iT at fin;generalize dZ ng lg s e g mo da x y z=dz at *;generalize sZ a b c d=sz at *;generalize mZ x y z=mz at *;generalize eA (s++mo++da)=xb at *;generalize bW ng lg s e g mo da x y z=ef at *;generalize i6 a b c d p=ft at *;generalize bA a b c d=rk at *;simp only[az,reduceCtorEq]
   (repeat' first|exact trivial|refine⟨?_,?_⟩|intro)<;>first|contradiction|omega|assumption|(apply fin;grind)|(exfalso;grind)|grind
 . refine lF sX (λx hx=>by cases hx) ai (bE 10233114770051432024614066666) (R:=λQ=>(λ(B E F H:Bool)(G:Prop)=>(λ(A:Bool)=>(λ(C:Prop)=>(E->Q (.a .i64 5))/\(E=false->(A->A/\A/\B=false/\(F->G)/\(F=false->af .i8 a/\af .i64 b/\af .i8 c/\af .i64 d/\ab 1 p/\ab p 3/\(H->Q (.a .i64 1))/\(H=false->Q (.a .i64 0))))/\(C->C/\C/\B/\G))) (A=false)) (not B)) (not (ab 1 p)) (not (and (and (bQ ng false) (and (bQ lg false) (and (ae s []) (and (aa e 0) (and (aa g 0) true))))) (and (ae mo []) (and (ae da []) (and (and (aa x 0) (and (aa y 0) (and (aa z 0) true))) true))))) (not (ab p 3)) (not (i6 a b c d p)) (Q (.a .i64 18))) (λ_=>by kernel_rfl) λQ' hQ=>?_;try dsimp only
   have fin:∀v,iT 3 0 0 (dZ ng lg s e g mo da x y z) p (sZ a b c d) (bW ng lg s e g mo da x y z) g (eA (s++mo++da)) (mZ x y z) (i6 a b c d p) (bA a b c d) a c=v->Q' (.a .i64 v):=λv h=>hQ _ (by rw[h]);clear hQ;try simp only[tf]
   try simp only[tR]
   try simp only[tI]
   unfold iT at fin;generalize dZ ng lg s e g mo da x y z=dz at *;generalize sZ a b c d=sz at *;generalize mZ x y z=mz at *;generalize eA (s++mo++da)=xb at *;generalize bW ng lg s e g mo da x y z=ef at *;generalize i6 a b c d p=ft at *;generalize bA a b c d=rk at *;simp only[az,reduceCtorEq]
   (repeat' first|exact trivial|refine⟨?_,?_⟩|intro)<;>first|contradiction|omega|assumption|(apply fin;grind)|(exfalso;grind)|grind
 . refine lF sX (λx hx=>by cases hx) ai (bE 1031000533810338114220742207461424066666) (R:=λQ=>(λ(A B F H N:Bool)(G I:Prop)=>(λ(C E O:Prop)=>(F->F/\(H->I)/\(H=false->(A->A/\A/\A/\A/\A/\(B->B/\B/\B/\B/\B/\(N->G)/\(N=false->Q (.a .i64 0)))/\(C->C/\C/\C/\C/\C/\G))/\(E->E/\E/\E/\E/\E/\G)))/\(O->O/\I)) (B=false) (A=false) (F=false)) (aa (bA a b c d) 0) (aa a (Neg.neg 1)) (and (and (bQ ng false) (and (bQ lg false) (and (ae s []) (and (aa e 0) (and (aa g 0) true))))) (and (ae mo []) (and (ae da []) (and (and (aa x 0) (and (aa y 0) (and (aa z 0) true))) true)))) (not (aa p 0)) (not (aa c 0)) (Q (.a .i64 1)) (Q (.a .i64 5))) (λ_=>by kernel_rfl) λQ' hQ=>?_;try dsimp only
   have fin:∀v,iT 4 0 0 (dZ ng lg s e g mo da x y z) p (sZ a b c d) (bW ng lg s e g mo da x y z) g (eA (s++mo++da)) (mZ x y z) (i6 a b c d p) (bA a b c d) a c=v->Q' (.a .i64 v):=λv h=>hQ _ (by rw[h]);clear hQ;try simp only[tf]
   try simp only[tR]
   try simp only[tI]
   unfold iT at fin;generalize dZ ng lg s e g mo da x y z=dz at *;generalize sZ a b c d=sz at *;generalize mZ x y z=mz at *;generalize eA (s++mo++da)=xb at *;generalize bW ng lg s e g mo da x y z=ef at *;generalize i6 a b c d p=ft at *;generalize bA a b c d=rk at *;simp only[az,reduceCtorEq]
   (repeat' first|exact trivial|refine⟨?_,?_⟩|intro)<;>first|contradiction|omega|assumption|(apply fin;grind)|(exfalso;grind)|grind
 . refine lF sX (λx hx=>by cases hx) ai (bE 10310005338103381142207422074061424066666) (R:=λQ=>(λ(A B F H N:Bool)(G I:Prop)=>(λ(C E O:Prop)=>(F->F/\(H->I)/\(H=false->(A->A/\A/\A/\A/\A/\(B->B/\B/\B/\B/\B/\(N->G)/\(N=false->Q (.a .i64 0)))/\(C->C/\C/\C/\C/\C/\G))/\(E->E/\E/\E/\E/\E/\G)))/\(O->O/\I)) (B=false) (A=false) (F=false)) (aa (bA a b c d) 0) (aa a 0) (and (and (bQ ng false) (and (bQ lg false) (and (ae s []) (and (aa e 0) (and (aa g 0) true))))) (and (ae mo []) (and (ae da []) (and (and (aa x 0) (and (aa y 0) (and (aa z 0) true))) true)))) (not (aa p 0)) (not (aa c 1)) (Q (.a .i64 1)) (Q (.a .i64 5))) (λ_=>by kernel_rfl) λQ' hQ=>?_;try dsimp only
   have fin:∀v,iT 5 0 0 (dZ ng lg s e g mo da x y z) p (sZ a b c d) (bW ng lg s e g mo da x y z) g (eA (s++mo++da)) (mZ x y z) (i6 a b c d p) (bA a b c d) a c=v->Q' (.a .i64 v):=λv h=>hQ _ (by rw[h]);clear hQ;try simp only[tf]
   try simp only[tR]
   try simp only[tI]
   unfold iT at fin;generalize dZ ng lg s e g mo da x y z=dz at *;generalize sZ a b c d=sz at *;generalize mZ x y z=mz at *;generalize eA (s++mo++da)=xb at *;generalize bW ng lg s e g mo da x y z=ef at *;generalize i6 a b c d p=ft at *;generalize bA a b c d=rk at *;simp only[az,reduceCtorEq]
   (repeat' first|exact trivial|refine⟨?_,?_⟩|intro)<;>first|contradiction|omega|assumption|(apply fin;grind)|(exfalso;grind)|grind
end Go.Ev
