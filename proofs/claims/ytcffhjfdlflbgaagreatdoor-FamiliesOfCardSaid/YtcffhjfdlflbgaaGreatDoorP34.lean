import Derived.Test.YtcffhjfdlflbgaaGreatDoorP33
set_option linter.all false
open Int renaming add->ν,ofNat->ξ,sub->ο,tmod_eq_emod_of_nonneg->π,tmod->σ,mul->υ
open Bool renaming not_false->ς,not_true->τ
open Nat renaming ble->χ
set_option linter.all false
set_option maxRecDepth 100000
set_option maxHeartbeats 4000000
namespace Go.Ev
open Go Go.Proofs
variable{S:aQ}
def yX:aQ:=d5 gZ 203 SF
def aaZ(y:Int):Bool:=ab (-10000000000000000) y&&ab y 10000000000000001
def alx:dW:=λ
 | [.a .i64 y,.a .i64 d,.a .i64 z],⟨0,[],[]⟩=>some (aH [aaZ y,aa d (bf z),ab (-10000000000000000) z,ab z y] (.a0 (.b 0,[y,(bf y),y],dO)))
 | _,_=>none
def aop:cx:=iz jE 0 (d9 30 [0,4,5] alx)
def aiw:dP:=λ
 | [.a .i64 y]=>some (aH [aaZ y] (.a0 (bf y)))
 | _=>none
def amf:aQ:=d5 yX 128 aiw
def akx:dW:=λ
 | [.a .i64 y,.a .i64 m,.a .i64 d,.a .i64 i],⟨0,[],[]⟩=>some (aH [aaZ y,aa d (aG y i),aa i 1,ab 1 m,ab m 12] (.a0 (.b 0,[y,m,(aG y m),m],dO)))
 | _,_=>none
def apo:cx:=iz jE 0 (d9 27 [0,1,5,6] akx)
def mn(y m:Int):Int:=bif ab m 12 then aG y m else aG (y+1) (m-12)
def abt(y m:Int):Bool:=ab 1 m&&(ab m 24&&(aaZ y&&(ab m 12 || aaZ (y+1))))
def ahf:dP:=λ
 | [.a .i64 y,.a .i64 m]=>some (aH [aaZ y,ab 1 m,ab m 12] (.a0 (aG y m)))
 | _=>none
def ak8:dP:=λ
 | [.a .i64 y,.a .i64 m]=>some (aH [abt y m] (.a0 (mn y m)))
 | _=>none
def apt:aQ:=d5 gZ 130 ahf
theorem ai_:ec eS 128=some (dH 128,aL 128):=by rfl
theorem air:ec eS 130=some (dH 130,aL 130):=by rfl
theorem ag4:(bz (aL 128)).map (·.1)=[0]:=by rfl
theorem ahq:(bz (aL 130)).map (·.1)=[0]:=by rfl
theorem aeg:ak Tryz.prog cfg yX:=Sh aW
theorem yi{y:Int}:aaZ y=true↔-10000000000000000<=y/\y<=10000000000000001:=by grind [aaZ,aq]
theorem aei{y:Int}(h : -10000000000000000<=y/\y<=10000000000000001) : -3652425000000000001<=bf y/\bf y<=3652425000000000400:=Go.Proofs.YtcffhjfdlflbgaaGreatDoor.yst_bd y h.1 h.2
theorem amq{y:Int}:aa (bP y 2) 29=aa (iE y) 1/\(iE y=0\/iE y=1):=by
 have h1:bP y 2=28+iE y:=by rfl
 have h2:=Go.Proofs.YtcffhjfdlflbgaaGreatDoor.lp_01 y;grind [iE,ao]
theorem amB:cu Tryz.prog (cH cfg yX) (Cw cfg []) (lb 128 0) 30 [0,4,5] alx:=by
 intro vs o t Q hv hq J;unfold alx at hv;split at hv
 . rename_i y d z;cases hv;replace hq:=cO hq;obtain⟨⟨h1,h2,h3,h4,-⟩,hq⟩:=hq;obtain⟨y1,y2⟩:=yi.1 h1;rw[ao]at h2;rw[aq]at h3 h4;subst h2;simp only[aH,Tr.wp]at hq;refine ia aeg rfl rfl ai (ι:={z:Int // -10000000000000000<=z/\z<=y}) (λx=>[y,(bf x.1),x.1]) (λ_=>dO) (λx=>(y-x.1).toNat) 0 (λ_=>Nat.zero_le _) (λx J=>?_) (Nat.le_refl _) (λJ=>Wk.a0 ⟨⟨z,h3,h4⟩,J,rfl⟩) J;obtain⟨z,z1,z2⟩:=x;dsimp only;refine jJ (bE 11212242024) (R:=λQ=>(λ(B:AV)(C E:Bool)(A F:Int)=>(λ(I:AV)(H:Bool)(G:Int)=>(C->af .i64 A/\af .i64 z/\(E->af .i64 G/\H/\Q (.a,[B,G,I],⟨0,[],[]⟩))/\(E=false->H/\Q (.a,[B,A,I],⟨0,[],[]⟩)))/\(C=false->Q (.b 0,[B,(bf z),z],⟨0,[],[]⟩))) F (af .i64 F) (ν A 1)) y (not (ab y z)) (aa (bP z 2) 29) (ν (bf z) 365) (ν z 1)) (λ_=>by rfl) λQ' hQ=>?_;try dsimp only
   by_cases hlt:z<y
   . have ys:bf (z+1)=bf z+365+iE z:=Go.Proofs.YtcffhjfdlflbgaaGreatDoor.yst_succ z;obtain⟨m1,m2⟩:=@amq z;have b1:=@aei z ⟨z1,by omega⟩;have j1:ab y z=false:=bF.mpr (by omega);have j2:af .i64 (ν (bf z) 365)=true:=by grind [aE,eH,eE]
     have j3:af .i64 z=true:=by grind [aE,eH,eE]
     have j4:af .i64 (ν (ν (bf z) 365) 1)=true:=by grind [aE,eE]
     have j5:af .i64 (ν z 1)=true:=by grind [aE,eE]
     have go:∀v,v=bf (z+1)->Q' (AX.a,([y,v,(ν z 1)],dO)):=λv hv=>by
      subst hv;exact hQ _ ⟨⟨z+1,by omega,by omega⟩,by grind,VW.b0 rfl rfl⟩
     have g1:=go (ν (ν (bf z) 365) 1);have g0:=go (ν (bf z) 365);rw[m1];rcases m2 with m2|m2
     . simp_all [aa]
     . rw[m2,show aa 1 1=true from rfl];grind
   . obtain rfl:z=y:=by omega
     have j1:ab z z=true:=aq.mpr (Int.le_refl _);grind [VW.a0]
 grind
theorem ahy(hS:ak Tryz.prog cfg S):ak Tryz.prog cfg (d5 S 128 aiw):=by
 refine au hS λargs t v he hv=>?_;unfold aiw at he;split at he
 . rename_i y;cases he;replace hv:=aF hv;obtain⟨⟨h1,-⟩,hv⟩:=hv;cases hv;obtain⟨y1,y2⟩:=yi.1 h1;refine kA aeg (L:=aop) ai_ (by simp) (dv ag4 λi hi e he st Q hw=>?_) (jJ (bE 131341324131341324131341324440131341112244241313413241313411122442444040) (R:=λQ=>(λ(H I:Bool)(B:Int)(Y:Prop)=>(λ(Z:Bool)(C E N u2:Int)(u0 u1:Prop)=>(λ(O P u3 u6 u7 u8:Bool)(F G u4 u5:Int)(A:Prop)=>(λ(T U V u9 ua ub uc ud:Bool)(ue:Int)=>(λ(W uf:Bool)=>(Z->(H->(u3->(u9->T/\(I->(ua->ab (Neg.neg 10000000000000000) F/\ab F y/\Y)/\(ua=false->False))/\(u0->False))/\(u9=false->(T->A)/\(T=false->A)))/\(u3=false->(ub->U/\A)/\(ub=false->(U->A)/\(U=false->A))))/\(u1->(u6->O/\(I->(u7->ab (Neg.neg 10000000000000000) E/\ab E y/\Y)/\(u7=false->False))/\(u0->False))/\(u6=false->(O->A)/\(O=false->A))))/\(Z=false->(H->(uc->(ud->V/\A)/\(ud=false->(V->A)/\(V=false->A)))/\(uc=false->(uf->W/\A)/\(uf=false->(W->A)/\(W=false->A))))/\(u1->(u8->P/\A)/\(u8=false->(P->A)/\(P=false->A))))) (af .i64 (υ ue 400)) (af .i64 (υ ue 146097))) (af .i64 F) (af .i64 (υ u5 400)) (af .i64 (υ G 400)) (af .i64 u4) (aa u4 (bf F)) (af .i64 (υ u5 146097)) (af .i64 G) (af .i64 (υ G 146097)) (IntKind.wrap .i64 G)) (af .i64 E) (af .i64 (υ N 400)) (af .i64 C) (af .i64 u2) (aa u2 (bf E)) (af .i64 (υ N 146097)) (υ C 400) (ο N 1) (υ C 146097) (IntKind.wrap .i64 C) (u0/\False)) (af .i64 B) (ο B 1) (υ B 400) (IntKind.wrap .i64 B) (υ B 146097) (I=false) (H=false)) (not (ab 0 (σ y 400))) (and (ab (Neg.neg 10000000000000000) y) (ab y 10000000000000001)) (Int.tdiv y 400) (∀J1:Nat->Value,Q (bf y))) (λ_=>by rfl) λQ' hQ=>?_) (by rfl)
   . have hi:i=0:=by grind
     subst hi;cases he;exact bR (cC.a0 aeg) (by decide) rfl amB hw
   . try dsimp only
     have hQ:=hQ _ rfl;have cy:∀q:Int,bf (q*400)=q*146097:=λq=>by
      have:=Go.Proofs.YtcffhjfdlflbgaaGreatDoor.yst_cycle q 0;rw[show 400*q+0=q*400 by omega,show Go.Proofs.YtcffhjfdlflbgaaGreatDoor.yst 0=0 by decide]at this;show Go.Proofs.YtcffhjfdlflbgaaGreatDoor.yst (q*400)=_;omega
     have t1:y.tdiv 400*400+y.tmod 400=y:=by grind
     have t2:=Int.tmod_lt_of_pos y (show(0:Int)<400 by decide);have t3 : -400<y.tmod 400:=by
      grind
     have cy0:=cy (y.tdiv 400);have cy1:=cy (y.tdiv 400-1);have t4:0<=y->0<=y.tmod 400:=λh=>Int.tmod_nonneg 400 h;try dsimp only
     have mulE:∀a b:Int,υ a b=a*b:=λ_ _=>rfl;simp_all [az];omega
 . cases he
theorem adW:ak Tryz.prog cfg amf:=ahy aeg
theorem ad1{y i:Int}(hy : -10000000000000000<=y/\y<=10000000000000001)(h1:1<=i)(h2:i<=12) : -3652425000000000001<=aG y i/\aG y i<=3652425000000000766:=by
 have b:=@aei y hy;unfold aG Go.Proofs.YtcffhjfdlflbgaaGreatDoor.mst;have:(0:Int)<=Go.Proofs.YtcffhjfdlflbgaaGreatDoor.mcum y i/\Go.Proofs.YtcffhjfdlflbgaaGreatDoor.mcum y i<=366:=by
  have hl:=Go.Proofs.YtcffhjfdlflbgaaGreatDoor.lp_01 y;grind [Go.Proofs.YtcffhjfdlflbgaaGreatDoor.mcum]
 grind [bf]
theorem amx:cu Tryz.prog (cH cfg amf) (Cw cfg []) (lb 130 0) 27 [0,1,5,6] akx:=by
 intro vs o t Q hv hq J;unfold akx at hv;split at hv
 . rename_i y m d i;cases hv;replace hq:=cO hq;obtain⟨⟨h1,h2,h3,h4,h5,-⟩,hq⟩:=hq;have hy:=yi.1 h1;rw[ao]at h2 h3;rw[aq]at h4 h5;subst h2 h3;simp only[aH,Tr.wp]at hq;refine ia adW rfl rfl ai (ι:={i:Int // 1<=i/\i<=m}) (λx=>[y,m,(aG y x.1),x.1]) (λ_=>dO) (λx=>(m-x.1).toNat) 0 (λ_=>Nat.zero_le _) (λx J=>?_) (Nat.le_refl _) (λJ=>Wk.a0 ⟨⟨1,Int.le_refl _,h4⟩,J,rfl⟩) J;obtain⟨i,z1,z2⟩:=x;dsimp only;refine jJ (bE 11704) (R:=λQ=>(λ(E F:AV)(A:Bool)(B C:Int)=>(A->af .i64 y/\af .i64 B/\af .i64 C/\Q (.a,[E,F,B,C],⟨0,[],[]⟩))/\(A=false->Q (.b 0,[E,F,(aG y i),i],⟨0,[],[]⟩))) y m (not (ab m i)) (ν (aG y i) (bP y i)) (ν i 1)) (λ_=>by rfl) λQ' hQ=>?_;try dsimp only
   by_cases hlt:i<m
   . have ms:=@p9 y i z1 (by omega);have ml:=jk y i;have b1:=@ad1 y i hy z1 (by omega);have j1:ab m i=false:=bF.mpr (by omega);have j2:af .i64 (ν (aG y i) (bP y i))=true:=by rw[aE];simp only[eH,eE];show _<=aG y i+d6 y i/\aG y i+d6 y i<=_;omega
     have j3:af .i64 y=true:=by grind [aE,eH,eE]
     have j5:af .i64 (ν i 1)=true:=by grind [aE,eH,eE]
     simp only[j1,j2,j3,j5,ς,true_and,and_true,true_imp_iff,reduceCtorEq,false_imp_iff];refine hQ _ ⟨⟨i+1,by omega,by omega⟩,by grind,VW.b0 ?_ rfl⟩;dsimp only;rw[ms];rfl
   . obtain rfl:i=m:=by omega
     have j1:ab i i=true:=aq.mpr (Int.le_refl _);grind [VW.a0]
 grind
theorem aj1{y m:Int}(h1:aaZ y)(h2:ab 1 m)(h3:ab m 12):bu Tryz.prog cfg 130 [y,m] [] (aG y m) []:=by
 refine kA adW (L:=apo) air (by simp) (dv ahq λi hi e he st Q hw=>?_) (jJ (bE 1220703) (R:=λQ=>not (ab m 12)=false/\aaZ y/\aaZ y/\aa (bf y) (aG y 1)/\ab 1 m/\ab m 12/\(∀J1:Nat->Value,Q (aG y m))) (λ_=>by rfl) λQ' hQ=>?_) (by rfl)
 . have hi:i=0:=by grind
   subst hi;cases he;exact bR (cC.a0 adW) (by decide) rfl amx hw
 . have hQ:=hQ _ rfl;try dsimp only
   rw[<-mst_1 y];have e0:∀x:Int,aa x x=true:=λx=>ao.mpr rfl;grind
theorem aiI(hS:ak Tryz.prog cfg S):ak Tryz.prog cfg (d5 S 130 ahf):=by
 refine au hS λargs t v he hv=>?_;unfold ahf at he;split at he
 . cases he;replace hv:=aF hv;obtain⟨⟨h1,h2,h3,-⟩,hv⟩:=hv;cases hv;exact aj1 h1 h2 h3
 grind
theorem aje:ak Tryz.prog cfg apt:=aiI aW
theorem aks(hS:ak Tryz.prog cfg S):ak Tryz.prog cfg (d5 S 130 ak8):=by
 refine au hS λargs t v he hv=>?_;unfold ak8 at he;split at he
 . rename_i y m;cases he;replace hv:=aF hv;obtain⟨⟨h1,-⟩,hv⟩:=hv;cases hv;unfold abt at h1;rw[zAa,zAa,zAa,aq,aq]at h1;obtain⟨m1,m2,y1,y2⟩:=h1;unfold mn;by_cases hm:m<=12
   . have hm':ab m 12=true:=aq.mpr hm;rw[hm',cond_true];exact aj1 y1 (aq.mpr m1) hm'
   . have hm':ab m 12=false:=bF.mpr (by omega);rw[hm',Bool.false_or]at y2;rw[hm',cond_false];refine nF aje ai (bE 1707) (R:=λQ=>(λ(A B:Int)=>not (ab m 12)/\af .i64 B/\af .i64 A/\aaZ B/\ab 1 A/\ab A 12/\Q (aG B A)) (ο m 12) (ν y 1)) (λ_=>by rfl) λQ' hQ=>?_;try dsimp only
     obtain⟨q1,q2⟩:=yi.1 y1;have j1:af .i64 (ν y 1)=true:=by grind [aE,eH,eE]
     have j2:af .i64 (ο m 12)=true:=by grind [aE,eH,eE]
     have j3:ab 1 (ο m 12)=true:=aq.mpr (by grind);have j4:ab (ο m 12) 12=true:=aq.mpr (by grind);grind
 grind
def ak0:dW:=λvs o=>match vs,o with
 | [.h 14 0,.a .i64 z,.f t,.a .i64 i],⟨1,[.a [.e ng,.e lg,.f s,.a .i64 e,.a .i64 g,.f mo,.f da,.a .u8 a,.a .u8 b,.a .u8 c] true none],[]⟩=>
   some (aH [aa z 0,aa i 0,χ t.length 1000000] (.d0 (eA t) λx=>bif x then .f0 λJ=>.a0 (.c,[.h 14 0,.a .i64 0,t,.j (J 0)],o)else .a0 (.b 0,[.h 14 0,.a .i64 0,t,(ξ t.length)],o)))
 | _,_=>none
def apE:cx:=iz jE 0 (d9 28 [1,2,3,4] ak0)
def ag_:dP:=λ
 | [.g [.e ng,.e lg,.f s,.a .i64 e,.a .i64 g,.f mo,.f da,.a .u8 a,.a .u8 b,.a .u8 c]]=>some (aH [χ s.length 1000,χ mo.length 1000,χ da.length 1000] (.a0 (bI (cK s g mo da))))
 | _=>none
def akZ:dP:=λ
 | [.a .i64 c]=>some (aH [zI c] (.a0 (.c [(fR c),(mR c)])))
 | _=>none
def alH:dP:=λ
 | [.f [a,b]]=>some (aH [dB a&&dB b] (.a0 (ko a b)))
 | _=>none
theorem ai4:ec eS 126=some (dH 126,aL 126):=by rfl
theorem ah5:(bz (aL 126)).map (·.1)=[0]:=by rfl
theorem anY:cu Tryz.prog (cH cfg gZ) (Cw cfg []) (lb 126 0) 28 [1,2,3,4] ak0:=by
 intro vs o t Q hv hq J;unfold ak0 at hv;split at hv
 . rename_i z t i ng lg s e g mo da a b c;cases hv;replace hq:=cO hq;obtain⟨⟨k1,k2,k3,-⟩,hq⟩:=hq;rw[ao]at k1 k2;rw[al]at k3;subst k1 k2;simp only[aH,Tr.wp]at hq;refine ia aW rfl rfl ai (ι:={i:Nat // i<=t.length/\∀k,k<i->(t.getD k 0).toNat≠88}) (λx=>[.h 14 0,.a .i64 0,t,(ξ x.1)]) (λ_=>⟨1,[bB ng lg s e g mo da a b c],[]⟩) (λx=>t.length-x.1) 1 (λ_=>Nat.le_refl _) (λx J=>?_) (Nat.le_refl _) (λJ=>Wk.a0 ⟨⟨0,Nat.zero_le _,λk hk=>absurd hk (Nat.not_lt_zero _)⟩,J,rfl⟩) J;obtain⟨i,hi,hz⟩:=x;dsimp only;refine jJ (bE 111414204) (R:=λQ=>(λ(B C E:AV)(H:Bool)(A:Int)(G:Nat)=>(λ(I:Bool)(F:Int)=>(λ(N:Bool)=>(I->aS i G/\(H->Q (.c,[B,C,E,A],⟨1,[.a [ng,lg,s,e,g,mo,da,.a .u8 a,.a .u8 b,.a .u8 c] true none],[]⟩))/\(H=false->(N->Q (.a,[B,C,E,F],⟨1,[.a [ng,lg,s,e,g,mo,da,.a .u8 a,.a .u8 b,.a .u8 c] true none],[]⟩))/\(N=false->Q (.a,[B,C,E,(IntKind.wrap .i64 F)],⟨1,[.a [ng,lg,s,e,g,mo,da,.a .u8 a,.a .u8 b,.a .u8 c] true none],[]⟩))))/\(I=false->Q (.b 0,[B,C,E,A],⟨1,[.a [ng,lg,s,e,g,mo,da,.a .u8 a,.a .u8 b,.a .u8 c] true none],[]⟩))) (af .i64 F)) (not (ab (ξ G) A)) (ν A 1)) (.h 14 0) (.a .i64 0) t (aa (ξ (UInt8.toNat (List.getD t i (UInt8.ofNat 0)))) 88) (ξ i) t.length) (λ_=>by rfl) λQ' hQ=>?_;try dsimp only
   try dsimp only
   have ret:i<t.length->(t.getD i 0).toNat=88->Q' (.c,[.h 14 0,.a .i64 0,t,(ξ i)],⟨1,[bB ng lg s e g mo da a b c],[]⟩):=λh1 h2=>hQ _ ⟨_,_,VW.c0 (.same (.same (.same (.int .nil)))) rfl,by
    rw[O8 h1 h2]at hq;exact hq (jv [_])⟩
   have fin:i=t.length->Q' (.b 0,[.h 14 0,.a .i64 0,t,(ξ i)],⟨1,[bB ng lg s e g mo da a b c],[]⟩):=λh=>hQ _ ⟨_,_,VW.a0,by
    rw[HQ hz (by omega)]at hq;subst h;exact hq⟩
   have go:i<t.length->(t.getD i 0).toNat≠88->Q' (.a,[.h 14 0,.a .i64 0,t,(ξ (i+1))],⟨1,[bB ng lg s e g mo da a b c],[]⟩):=λh1 h2=>hQ _ ⟨⟨i+1,by omega,λk hk=>by
    grind⟩,by grind,VW.b0 rfl rfl⟩
   clear hQ hq hz;rw[show(UInt8.ofNat 0)=(0:UInt8)from rfl];generalize (t.getD i 0).toNat=cn at *;simp only[az,reduceCtorEq];grind
 grind
theorem afa(hS:ak Tryz.prog cfg S):ak Tryz.prog cfg (d5 S 126 ag_):=by
 refine au hS λargs t v he hv=>?_;unfold ag_ at he;split at he
 . rename_i ng lg s e g mo da a b c;cases he;replace hv:=aF hv;obtain⟨⟨h1,h2,h3,-⟩,hv⟩:=hv;cases hv;rw[al]at h1 h2 h3;refine kA aW (L:=apE) ai4 (by simp) (dv ah5 λi hi e he st Q hw=>?_) (jJ (bE 11111401440040400) (R:=λQ=>(λ(A E:Bool)(B:List UInt8)(C:Prop)=>(λ(F:Bool)(G:List UInt8)=>(λ(H:Bool)=>(A->(F->(H->(eA G->(∀J1 J2:Nat->Value,C))/\(eA G=false->(∀J1:Nat->Value,(E->C)/\(E=false->Q (.a .i64 1)))))/\(H=false->False))/\(F=false->False))/\(A=false->False)) (χ G.length 1000000)) (χ (HAdd.hAdd B.length da.length) 1000000) (B++da)) (χ (HAdd.hAdd s.length mo.length) 1000000) (not (aa g 0)) (s++mo) (Q (.a .i64 0))) (λ_=>by rfl) λQ' hQ=>?_) (by rfl)
   . have hi:i=0:=by grind
     subst hi;cases he;exact bR (cC.a0 aW) (by decide) rfl anY hw
   . try dsimp only
     have l1:(s++mo).length=s.length+mo.length:=List.length_append;have l2:(s++mo++da).length=s.length+mo.length+da.length:=by grind
     have y:∀x:Int,(eA (s++mo++da)->x=0)->(eA (s++mo++da)=false->(g=0->x=1)/\(g≠0->x=0))->Q' x:=λx h1 h2=>hQ _ (by
      have:x=bI (cK s g mo da):=by
       unfold cK;cases hx:eA (s++mo++da)with
       | true=>exact h1 hx
       | false=>
         by_cases hg:g=0
         . rw[(h2 hx).1 hg,ao.mpr hg];rfl
         . rw[(h2 hx).2 hg,aw.mpr hg];rfl
      grind)
     simp_all [az];omega
 grind
theorem akv(hS:ak Tryz.prog cfg S):ak Tryz.prog cfg (d5 S 131 alH):=by
 refine au hS λargs t v he hv=>?_;unfold alH at he;split at he
 . rename_i a b;cases he;replace hv:=aF hv;obtain⟨⟨h1,-⟩,hv⟩:=hv;cases hv;unfold dB at h1;simp only[zAa,zAc]at h1;refine jD aW ai (bE 1700700) (R:=λQ=>(λ(A B:Int)=>(λ(C:Int)=>(λ(E:Int)=>af .u8 A/\af .i64 A/\af .i64 C/\af .u8 B/\af .i64 B/\af .i64 E/\Q E) (ν C B)) (υ 10 A)) (ο (ξ a.toNat) 48) (ο (ξ b.toNat) 48)) (λ_=>by rfl) λQ' hQ=>?_;simp_all [ko,az];omega
 grind
def ahD:dP:=λ
 | [.g [.a .u8 f,.e ng,.a .u16 n,.a .u8 z0,.a .u8 z1,.a .u8 m,.a .u8 d,.a .u8 x,.a .u8 y,.a .u8 z]]=>some (aH [Dp.ok ⟨f,ng,n,z0,z1,m,d,x,y,z⟩] (.a0 (.g (Dp.e ⟨f,ng,n,z0,z1,m,d,x,y,z⟩).cs)))
 | _=>none
def ai2:dP:=λ
 | [.g [.a .u8 f,.e ng,.a .u16 n,.a .u8 z0,.a .u8 z1,.a .u8 m,.a .u8 d,.a .u8 x,.a .u8 y,.a .u8 z]]=>some (aH [Dp.ok ⟨f,ng,n,z0,z1,m,d,x,y,z⟩] (.a0 (.g (Dp.p ⟨f,ng,n,z0,z1,m,d,x,y,z⟩).cs)))
 | _=>none
def alc:dP:=λ
 | [.g [.e ng,.e lg,.f s,.a .i64 e,.a .i64 g,.f mo,.f da,.a .u8 a,.a .u8 b,.a .u8 c],.a .i64 n]=>some (.a0 (.g (acC ⟨ng,lg,s,e,g,mo,da,a,b,c⟩ n).cs))
 | _=>none
def Gs:aQ:=d5 gZ 19 X9
def yZ:aQ:=d5 gZ 22 ahD
def apU(f:Int)(ng:Bool)(n z0 z1 m d x y z:Int){Q:AV->Prop}:gG Q (pT Gs jE 22 [.g [.a .u8 f,ng,.a .u16 n,.a .u8 z0,.a .u8 z1,.a .u8 m,.a .u8 d,.a .u8 x,.a .u8 y,.a .u8 z]]) (bE 11111111105644444444000611111111056444244445620004001111111105644442444000611111110564442244456200040002004523811111111110061000640044444444400611111111100610006400444244444000620004001111111110061000640044442444400611111111006100064004442244440006200040002004001111111110564444444400061111111105644424444562000400111111110564444244400061111111056444224445620004000200400043202022400)=((λ(ud ue uf ug uh uw ux uy uz uA uB:AV)(u0 u1 u2 u4 uv:Bool)(u3 u5:Int)(ur ut uD uE:List UInt8)(u6 u7 u9 ua ub uc ui uj uk ul um un uo up uq us uu uC:Prop)=>(λ(uU:AV)(uO uW:Int)(uJ uK uM uN uQ uR uT uV:List UInt8)(uF uG uH uI uL uP uS uX:Prop)=>(λ(u11 u15 u17 u18:AV)(uY uZ u10 u12 u13 u14:Int)=>(λ(u1a u1b u1c u1d u1e u1f u1g u1h u1i:AV)(u19:Prop)=>(uF->uF/\uF/\uF/\uF/\u0=false/\(u1->u19)/\(u1=false->(u2->uG/\(uH->uI/\(uu->(u6->(u7->(u9->uG/\uI/\(ua->(ub->(uc->(uP->Q (AV.g [uw,ux,uy,uz,uA,u11,uR,u1a,u1b,u1c]))/\(uS->Q (AV.g [uw,ux,uy,uz,uB,u11,uR,u1a,u1b,u1c])))/\ui)/\uj)/\uk)/\ul)/\um)/\un)/\uC)/\(uL->(uu->(u6->(u7->(u9->uG/\(uo->(ua->(ub->(uc->(uP->Q (AV.g [uw,ux,uy,uz,uA,u11,uT,u1d,u1e,u1f]))/\(uS->Q (AV.g [uw,ux,uy,uz,uB,u11,uT,u1d,u1e,u1f])))/\ui)/\uj)/\uk)/\up)/\ul)/\um)/\un)/\uC))/\(u2=false->(uH->uI/\(uu->(u6->(u7->(u9->(uq->uI/\(ua->(ub->(uc->(uP->Q (AV.g [uw,ux,uy,uz,uA,uU,uV,u1g,u1h,u1i]))/\(uS->Q (AV.g [uw,ux,uy,uz,uB,uU,uV,u1g,u1h,u1i])))/\ui)/\uj)/\uk)/\us)/\ul)/\um)/\un)/\uC)/\(uL->(uu->(u6->(u7->(u9->(uq->(uo->(ua->(ub->(uc->(uP->Q (AV.g [uw,ux,uy,uz,uA,uU,uE,u15,u17,u18]))/\(uS->Q (AV.g [uw,ux,uy,uz,uB,uU,uE,u15,u17,u18])))/\ui)/\uj)/\uk)/\up)/\us)/\ul)/\um)/\un)/\uC))))/\(uX->uX/\uX/\uX/\uX/\u0/\u19)) (AV.a .u8 (Em u12 0 x)) (AV.a .u8 (Em u12 1 y)) (AV.a .u8 (Em u12 2 z)) (AV.a .u8 (Em u13 0 x)) (AV.a .u8 (Em u13 1 y)) (AV.a .u8 (Em u13 2 z)) (AV.a .u8 (Em u14 0 x)) (AV.a .u8 (Em u14 1 y)) (AV.a .u8 (Em u14 2 z)) ((u2->uG/\(uH->uI/\(u6->(u7->(u9->uG/\uI/\(ua->(ub->(uc->Q (AV.g [ud,ue,uf,ug,uh,uJ,uK,AV.a .u8 (Em uY 0 x),AV.a .u8 (Em uY 1 y),AV.a .u8 (Em uY 2 z)]))/\ui)/\uj)/\uk)/\ul)/\um)/\un)/\(uL->(u6->(u7->(u9->uG/\(uo->(ua->(ub->(uc->Q (AV.g [ud,ue,uf,ug,uh,uJ,uM,AV.a .u8 (Em uZ 0 x),AV.a .u8 (Em uZ 1 y),AV.a .u8 (Em uZ 2 z)]))/\ui)/\uj)/\uk)/\up)/\ul)/\um)/\un))/\(u2=false->(uH->uI/\(u6->(u7->(u9->(uq->uI/\(ua->(ub->(uc->Q (AV.g [ud,ue,uf,ug,uh,ur,uN,AV.a .u8 (Em u10 0 x),AV.a .u8 (Em u10 1 y),AV.a .u8 (Em u10 2 z)]))/\ui)/\uj)/\uk)/\us)/\ul)/\um)/\un)/\(uL->(u6->(u7->(u9->(uq->(uo->(ua->(ub->(uc->Q (AV.g [ud,ue,uf,ug,uh,ur,ut,AV.a .u8 (Em uO 0 x),AV.a .u8 (Em uO 1 y),AV.a .u8 (Em uO 2 z)]))/\ui)/\uj)/\uk)/\up)/\us)/\ul)/\um)/\un)))) uQ (AV.a .u8 (Em uW 0 x)) (AV.a .u8 (Em uW 1 y)) (AV.a .u8 (Em uW 2 z)) (dq uJ uK) (dq uJ uM) (dq ur uN) (dq uQ uR) (dq uQ uT) (dq uD uV)) uD (dq ur ut) (dq uD uE) (jZ 0 n z0 z1 u3) (nY 0 n z0 z1 u3 u5) (nY 0 n z0 z1 u3 d) (nY 0 n z0 z1 m u5) (jZ f n z0 z1 u3) (nY f n z0 z1 u3 u5) (nY f n z0 z1 u3 d) (nY f n z0 z1 m u5) (not u0=true) (af .u8 u3=true) (u4=true) (af .u8 u5=true) (u4=false) (uv=true) (uv=false) (not u0=false)) (qV 0 ng n z0 z1) (sY 0) (gw 0 n z0 z1) (kQ 0 z1) (dr 0 n z0 z1) (qV f ng n z0 z1) (sY f) (gw f n z0 z1) (kQ f z1) (AV.a .i64 0) (dr f n z0 z1) (aa (σ f 6) 3) (aa (σ f 6) 4) (not (ab (σ m 40) 33)) (not (ab (σ d 40) 31)) (not (ab (dr f n z0 z1) 0)) (ο (σ m 40) 33) (Int.tdiv (σ d 40) 2) (jZ 0 n z0 z1 m) (nY 0 n z0 z1 m d) (jZ f n z0 z1 m) (nY f n z0 z1 m d) (af .u16 n=true) (af .u8 z0=true) (af .u8 z1=true) (af .u8 x=true) (af .u8 y=true) (af .u8 z=true) (af .u8 z=false->False) (af .u8 y=false->False) (af .u8 x=false->False) (af .u8 z1=false->False) (af .u8 z0=false->False) (af .u16 n=false->False) (af .u8 d=true) (af .u8 d=false->False) (af .u8 m=true) (af .u8 m=false->False) (af .u8 f=true) (af .u8 f=false->False)):=by kernel_rfl
theorem apF(f:Int)(ng:Bool)(n z0 z1 m d x y z:Int){Q:AV->Prop}:gG Q (pT yZ jE 24 [.g [.a .u8 f,ng,.a .u16 n,.a .u8 z0,.a .u8 z1,.a .u8 m,.a .u8 d,.a .u8 x,.a .u8 y,.a .u8 z]]) (bE 1104006110400062000400)=((λ(u2 u3 u4 u5:AV)(u0:Bool)(u1:Int)(u6 u7:List UInt8)=>(λ(ub:Int)(u9 ua:List UInt8)=>(λ(uc:Int)=>(u0->af .u8 u1/\(Dp.ok { f:=f,ng:=ng,n:=n,z0:=z0,z1:=z1,m:=u1,d:=d,x:=x,y:=y,z:=z }=true->Q (AV.g [u2,u3,u4,u5,AV.a .i64 0,u9,ua,AV.a .u8 (Em uc 0 x),AV.a .u8 (Em uc 1 y),AV.a .u8 (Em uc 2 z)]))/\(Dp.ok { f:=f,ng:=ng,n:=n,z0:=z0,z1:=z1,m:=u1,d:=d,x:=x,y:=y,z:=z }=false->False))/\(u0=false->(Dp.ok { f:=f,ng:=ng,n:=n,z0:=z0,z1:=z1,m:=m,d:=d,x:=x,y:=y,z:=z }=true->Q (AV.g [u2,u3,u4,u5,AV.a .i64 0,u6,u7,AV.a .u8 (Em ub 0 x),AV.a .u8 (Em ub 1 y),AV.a .u8 (Em ub 2 z)]))/\(Dp.ok { f:=f,ng:=ng,n:=n,z0:=z0,z1:=z1,m:=m,d:=d,x:=x,y:=y,z:=z }=false->False))) (dq u9 ua)) (dq u6 u7) (jZ (Wc f) n z0 z1 (je u1)) (nY (Wc f) n z0 z1 (je u1) (j9 d))) (qV (Wc f) ng n z0 z1) (sY (Wc f)) (gw (Wc f) n z0 z1) (kQ (Wc f) z1) (not (ab (σ m 40) 12)) (ν (σ (σ m 40) 12) 1) (jZ (Wc f) n z0 z1 (je m)) (nY (Wc f) n z0 z1 (je m) (j9 d))):=by rfl
theorem ap3(x:Da)(n:Int){Q:AV->Prop}:gG Q (pT gZ jE 71 [.g x.cs,n]) (bE 10063100610056454)=((λ(u2 u3 u4 u5 u6 u7 u8 u9 ua:AV)(u0 u1:Bool)=>(u0->(u1->Q (AV.g [u2,u3,u4,u5,u6,u7,u7,u8,u9,u9]))/\(u1=false->Q (AV.g [u2,u3,u4,u5,u6,x.6,u7,u8,ua,u9])))/\(u0=false->u1=false/\Q (AV.g [u2,u3,u4,u5,u6,x.6,x.7,u8,ua,AV.a .u8 x.10]))) x.1 x.2 x.3 x.4 x.5 (AV.f []) (AV.a .u8 x.8) (AV.a .u8 0) (AV.a .u8 x.9) (not (ab 3 n)) (not (ab 2 n))):=by rfl
theorem ai6:ec eS 22=some (dH 22,aL 22):=by rfl
theorem ajm:ec eS 24=some (dH 24,aL 24):=by rfl
theorem ajf:ec eS 71=some (dH 71,aL 71):=by rfl
theorem ak6:ak Tryz.prog cfg Gs:=UZ aW
theorem alQ{f n z0 z1:Int}(hz0:0<=z0/\z0<=255)(hz1:0<=z1/\z1<=255):0<=dr f n z0 z1:=by
 rcases @n7 f n z0 z1 hz0 hz1 with⟨a1,a2,a3,a4,a5,a6,a7⟩|⟨a1,a2,a3,a4,a5,a6,a7,a8,a9,a10⟩<;>omega
theorem ae4{x:Da}:aC (.g x.cs)=[]:=by rfl
theorem aai{x:Int}(h:0<=x/\x<=255):af .u8 x=true:=by rw[aE];exact h
theorem ajR{x:Int}(h:0<=x/\x<=65535):af .u16 x=true:=by rw[aE];exact h
theorem ae3(hS:ak Tryz.prog cfg S):ak Tryz.prog cfg (d5 S 22 ahD):=by
 refine au hS λargs t v he hv=>?_;unfold ahD at he;split at he
 . rename_i f ng n z0 z1 m d x y z;cases he;replace hv:=aF hv;obtain⟨⟨h0,-⟩,hv⟩:=hv;cases hv;obtain⟨h1,h2,h3,h4,h5,h6,h7,h8,h9⟩:=Dp.a0.1 h0;dsimp only at h1 h2 h3 h4 h5 h6 h7 h8 h9;refine kA ak6 (L:=jE) ai6 (by simp) ai (eD λQ' hQ=>cg ((apU f ng n z0 z1 m d x y z).mpr ?_)) ae4;have fin:∀F M E G,F=Wc f->M=je m->E=j9 d->G=0->Q' (.g [.e (qV F ng n z0 z1),.e (sY F),.f (gw F n z0 z1),.a .i64 (kQ F z1),.a .i64 G,.f (jZ F n z0 z1 M),.f (nY F n z0 z1 M E),.a .u8 (Em (dq (jZ F n z0 z1 M) (nY F n z0 z1 M E)) 0 x),.a .u8 (Em (dq (jZ F n z0 z1 M) (nY F n z0 z1 M E)) 1 y),.a .u8 (Em (dq (jZ F n z0 z1 M) (nY F n z0 z1 M E)) 2 z)]):=λF M E G e1 e2 e3 e4=>by
    subst e1 e2 e3 e4;exact hQ _ rfl
   clear hQ;have t1:σ f 6=f%6:=π h1.1;have t2:σ m 40=m%40:=π h5.1;have t3:σ d 40=d%40:=π h6.1;have t4:Int.tdiv (d%40) 2=d%40/2:=Int.tdiv_eq_ediv_of_nonneg (by omega);have gn:=@alQ f n z0 z1 h3 h4;have i1:=aai h1;have i2:=ajR h2;have i3:=aai h3;have i4:=aai h4;have i5:=aai h5;have i6:=aai h6;have i7:=aai h7;have i8:=aai h8;have i9:=aai h9;have s1:ab (m%40) 33=false->af .u8 (ο (m%40) 33)=true:=λk=>by
    rw[bF]at k;exact aai (by show 0<=m%40-33/\m%40-33<=255;omega)
   have s2:af .u8 (d%40/2)=true:=aai (by omega);try dsimp only
   rw[t1,t2,t3,t4];unfold Wc je j9 at fin;cases k1:aa (f%6) 3<;>cases k2:aa (f%6) 4<;>cases k3:ab (m%40) 33<;>cases k4:ab (d%40) 31<;>rw[k1,k2,k3,k4]at fin<;>simp only[Bool.or_true,Bool.or_false,Bool.or_self,zAj]at fin<;>(first|simp only[i1,i2,i3,i4,i5,i6,i7,i8,i9,s1 k3,s2,τ,ς,true_and,and_true,true_imp_iff,reduceCtorEq,false_imp_iff]|simp only[i1,i2,i3,i4,i5,i6,i7,i8,i9,s2,τ,ς,true_and,and_true,true_imp_iff,reduceCtorEq,false_imp_iff])<;>first
    | exact fin _ _ _ _ rfl rfl rfl rfl
    | exact⟨λ_=>fin _ _ _ _ rfl rfl rfl rfl,λk5=>fin _ _ _ _ rfl rfl rfl (by rw[Bool.not_eq_false',aq]at k5;omega)⟩
 . cases he
theorem aid:ak Tryz.prog cfg yZ:=ae3 aW
theorem ah6(hS:ak Tryz.prog cfg S):ak Tryz.prog cfg (d5 S 24 ai2):=by
 refine au hS λargs t v he hv=>?_;unfold ai2 at he;split at he
 . rename_i f ng n z0 z1 m d x y z;cases he;replace hv:=aF hv;obtain⟨⟨h0,-⟩,hv⟩:=hv;cases hv;have h0':=Dp.b0 h0;obtain⟨h1,h2,h3,h4,h5,h6,h7,h8,h9⟩:=Dp.a0.1 h0;dsimp only at h1 h2 h3 h4 h5 h6 h7 h8 h9 h0';refine kA aid (L:=jE) ajm (by simp) ai (eD λQ' hQ=>cg ((apF f ng n z0 z1 m d x y z).mpr ?_)) ae4;have fin:∀M,M=rf m->Q' (.g (Dp.e ⟨f,ng,n,z0,z1,M,d,x,y,z⟩).cs):=λM e1=>by
    subst e1;exact hQ _ rfl
   clear hQ;have t2:σ m 40=m%40:=π h5.1;have t3:σ (m%40) 12=m%40%12:=π (by omega);have s1:af .u8 (ν (m%40%12) 1)=true:=aai (by grind);try dsimp only
   rw[t2,t3];unfold rf at fin h0';cases k3:ab (m%40) 12<;>rw[k3]at fin h0'<;>simp only[zAj]at fin h0'
   . rw[show m%40%12+1=ν (m%40%12) 1 from rfl]at h0';simp only[h0',s1,τ,ς,true_and,and_true,true_imp_iff,reduceCtorEq,false_imp_iff];exact fin _ rfl
   . simp only[h0,τ,ς,true_and,and_true,true_imp_iff,reduceCtorEq,false_imp_iff];exact fin _ rfl
 grind
theorem akR(hS:ak Tryz.prog cfg S):ak Tryz.prog cfg (d5 S 71 alc):=by
 refine au hS λargs t v he hv=>?_;unfold alc at he;split at he
 . rename_i ng lg s e g mo da a b c n;cases he;cases hv;refine kA aW (L:=jE) ajf (by simp) ai (eD λQ' hQ=>cg ((ap3 ⟨ng,lg,s,e,g,mo,da,a,b,c⟩ n).mpr ?_)) ae4;have hQ:=hQ _ rfl;unfold acC at hQ;try dsimp only
   cases k1:ab 3 n<;>cases k2:ab 2 n<;>rw[k1,k2]at hQ<;>simp only[τ,ς,true_and,and_true,true_imp_iff,reduceCtorEq,false_imp_iff,and_false]
   . exact hQ
   . exact hQ
   . grind [bF]
   . exact hQ
 grind
def NZ:aQ:=d5 (d5 (d5 (d5 (d5 (d5 gZ 127 Vh) 66 Zt) 128 aiw) 130 ak8) 129 akZ) 131 alH
def ahu:dP:=λ
 | [.g [.e ng,.e lg,.f s,.a .i64 e,.a .i64 g,.f mo,.f da,.a .u8 a,.a .u8 b,.a .u8 c]]=>some (aH [fL ng lg s e g mo da a b c] (.a0 (.c [(aP ng s e mo da),(bq ng s e mo da)])))
 | _=>none
theorem aiu:(List.range 21).all (λi=>pR eS cfg 10000 129 [.a .i64 (21+ξ i)] (.c [.a .i64 (fR (21+ξ i)),.a .i64 (mR (21+ξ i))]))=true:=by rfl
theorem aiL:(List.range 21).all (λi=>decide (1<=fR (21+ξ i)/\fR (21+ξ i)<=12/\3<=mR (21+ξ i)/\mR (21+ξ i)<=6/\fR (21+ξ i)+mR (21+ξ i)<=24))=true:=by rfl
theorem agK{c:Int}(h:zI c):∃i:Nat,i<21/\c=21+ξ i:=by
 have h:=mg.1 h;exact⟨(c-21).toNat,by omega,by grind⟩
theorem ah7{c:Int}(h:zI c):1<=fR c/\fR c<=12/\3<=mR c/\mR c<=6/\fR c+mR c<=24:=by
 grind [agK,aiL]
theorem akC{f:Nat}{args:List AV}{v:AV}(h:gM Tryz.prog cfg f args v):bu Tryz.prog cfg f args [] v []:=λD m w hi hok=>(h (Cw cfg []) D m ⟨0,[],[]⟩ w hi hok).a0 λV w' ⟨h1,h2,h3,_⟩=>⟨D,m,h1,h2,h3⟩
theorem aj_(hS:ak Tryz.prog cfg S):ak Tryz.prog cfg (d5 S 129 akZ):=by
 refine au hS λargs t v he hv=>?_;unfold akZ at he;split at he
 . cases he;replace hv:=aF hv;obtain⟨⟨h1,-⟩,hv⟩:=hv;cases hv;obtain⟨i,hi,rfl⟩:=agK h1;exact akC (dI.a0 10000 (List.all_eq_true.1 aiu i (List.mem_range.2 hi)))
 grind
theorem aeb:ak Tryz.prog cfg NZ:=akv (aj_ (aks (ahy (bm (bm aW (Lz 127 _ rfl)) (MW 66 _ rfl)))))
theorem alS{y c:Int}(h:zI c):mn y (fR c+mR c)=aG (fq y c) (kX y c+2):=by
 obtain⟨h1,h2,h3,h4,h5⟩:=ah7 h;unfold mn fq kX dc d8;generalize fR c=f at *;generalize mR c=m at *;cases hc:ab (f+m) 12 with
 | true=>
   grind [aq]
 | false=>
   rw[bF]at hc;rw[cond_false];by_cases h13:f+m=13
   . rw[show(12*y+(f-1)+(m-1))/12=y by omega,show(12*y+(f-1)+(m-1))%12+2=13 by omega,h13,VS];rfl
   grind
theorem aiD{ng:Bool}{s:List UInt8}{e:Int}:dY ng s e=bif ng then ο 0 (ξ (cF s e.toNat))else ξ (cF s e.toNat):=by
 grind [dY]
theorem afd(hS:ak Tryz.prog cfg S):ak Tryz.prog cfg (d5 S 70 ahu):=by
 refine au hS λargs t v he hv=>?_;unfold ahu at he;split at he
 . rename_i ng lg s e g mo da a b c;cases he;replace hv:=aF hv;obtain⟨⟨h1,-⟩,hv⟩:=hv;cases hv;obtain⟨h6,i1,i2,i3,i4,h0,hx,rfl⟩:=ye.1 h1;obtain⟨p1,p2,p3,p4,p5,p6,p7⟩:=aaj h0 hx h6;obtain⟨hy,-,hm⟩:=ju.1 p5;unfold agm at p1;simp only[zAa]at p1;obtain⟨n1,n2,n3,n4,n5⟩:=p1;have hY:aaZ (dY ng s e)=true:=yi.2 (by omega);have hY1:aaZ (dY ng s e+1)=true:=yi.2 (by omega);have ri:af .i64 (dY ng s e)=true:=by grind [aE,eH,eE]
   have ri1:af .i64 (dY ng s e+1)=true:=by grind [aE,eE]
   have mok:∀m,1<=m->m<=24->abt (dY ng s e) m=true:=λm k1 k2=>by
    unfold abt;rw[aq.mpr k1,aq.mpr k2,hY,hY1,Bool.or_true];rfl
   have mbd:∀m,1<=m->m<=24->-3652425000000000001<=mn (dY ng s e) m/\mn (dY ng s e) m<=3652425000000000766:=λm k1 k2=>by
    unfold mn;cases hc:ab m 12 with
    | true=>simp_all [aq,ad1,yi]
    | false=>rw[bF]at hc;exact ad1 (yi.1 hY1) (by omega) (by omega)
   have rin:∀x:Int,-3652425000000000009<=x/\x<=3652425000000000900->af .i64 x=true:=λx h=>by grind [aE,eH,eE]
   rcases x5 p3 with rfl|⟨m0,m1,rfl,hmd⟩
   . rcases x5 p4 with rfl|⟨d0,d1,rfl,hdd⟩
     . refine jD aeb ai (bE 11420220561142022056240227000) (R:=λQ=>(λ(H:Nat)=>(λ(A:Int)=>(λ(I:AV)(B C:Int)=>(λ(N:AV)(E F:Int)=>(λ(O:Bool)(G:Int)=>(λ(P:Bool)=>χ s.length 1000/\ab 0 e/\ab e 1000/\dV s/\magOk s H/\(ng->af .i64 B/\aaZ B/\af .i64 E/\aaZ E/\(P->Q (.c [N,.a .i64 G]))/\(P=false->Q (.c [N,.a .i64 (IntKind.wrap .i64 G)])))/\(ng=false->aaZ A/\af .i64 C/\aaZ C/\(O->Q (.c [I,.a .i64 F]))/\(O=false->Q (.c [I,.a .i64 (IntKind.wrap .i64 F)])))) (af .i64 G)) (af .i64 F) (ο (bf E) 1)) (.a .i64 (bf B)) (ν B 1) (ο (bf C) 1)) (.a .i64 (bf A)) (ο 0 A) (ν A 1)) (ξ (cF s H))) e.toNat) (λ_=>by rfl) λQ' hQ=>?_;try dsimp only
       have hQ:Q' (.c [.a .i64 (bf (dY ng s e)),.a .i64 (ο (bf (ν (dY ng s e) 1)) 1)]):=hQ _ rfl;have r2:af .i64 (ο (bf (ν (dY ng s e) 1)) 1)=true:=rin _ (by
        have:=@aei (dY ng s e+1) (yi.1 hY1);grind)
       have ri1:af .i64 (ν (dY ng s e) 1)=true:=ri1;have hY1:aaZ (ν (dY ng s e) 1)=true:=hY1;rw[aiD]at hQ r2 ri ri1 hY hY1;try dsimp only
       cases ng<;>simp only[zAj]at hQ r2 ri ri1 hY hY1<;>simp only[n1,n2,n3,n4,n5,hY,hY1,ri,ri1,r2,τ,ς,true_and,and_true,true_imp_iff,reduceCtorEq,false_imp_iff]<;>exact hQ
     . have:=(aaR h0 hx rfl).1;exact absurd this (by decide)
   . have hm0:XR [m0,m1]=ko m0 m1:=rfl;have hz:aa (XR [m0,m1]) 0=false:=p6.symm;rw[hm0]at hm hz;rcases x5 p4 with rfl|⟨d0,d1,rfl,hdd⟩
     . cases hc:ab 13 (ko m0 m1)with
       | true=>
         have hc':=hc;rw[aq]at hc';have hs:aR [m0,m1]=ko m0 m1:=by
          grind [L6,aaU]
         have hco:zI (aR [m0,m1])=true:=by
          grind [mg]
         obtain⟨f1,f2,f3,f4,f5⟩:=ah7 hco;have hl:=@alS (dY ng s e) _ hco;have hE:AV.c [.a .i64 (aP ng s e [m0,m1] []),.a .i64 (bq ng s e [m0,m1] [])]=.c [.a .i64 (mn (dY ng s e) (fR (aR [m0,m1]))),.a .i64 (ο (mn (dY ng s e) (ν (fR (aR [m0,m1])) (mR (aR [m0,m1])))) 1)]:=by
          unfold aP bq iO iD;rw[hm0,hz,hc];show _=AV.c [_,.a .i64 (mn (dY ng s e) (fR (aR [m0,m1])+mR (aR [m0,m1]))-1)];rw[hl,show mn (dY ng s e) (fR (aR [m0,m1]))=aG (dY ng s e) (fR (aR [m0,m1]))by unfold mn;rw[aq.mpr f2];rfl,hs];rfl
         rw[hE];refine nF aeb ai (bE 11420220202561142022020256240227000) (R:=λQ=>(λ(F:Int)(I:Nat)=>(λ(N:Bool)(A B:Int)=>(λ(O:AV)(C E:Int)=>(λ(T:AV)(P:Bool)(G H:Int)=>(λ(U V:Bool)=>χ s.length 1000/\ab 0 e/\ab e 1000/\dV s/\magOk s I/\(ng->af .i64 C/\N/\zI F/\abt C B/\P/\abt C E/\(U->Q (.c [T,.a .i64 G]))/\(U=false->Q (.c [T,.a .i64 (IntKind.wrap .i64 G)])))/\(ng=false->N/\zI F/\abt A B/\P/\abt A E/\(V->Q (.c [O,.a .i64 H]))/\(V=false->Q (.c [O,.a .i64 (IntKind.wrap .i64 H)])))) (af .i64 G) (af .i64 H)) (.a .i64 (mn C B)) (af .i64 E) (ο (mn C E) 1) (ο (mn A E) 1)) (.a .i64 (mn A B)) (ο 0 A) (ν B (mR F))) (not (ab F 0)) (ξ (cF s I)) (fR F)) (aR [m0,m1]) e.toNat) (λ_=>by rfl) λQ' hQ=>?_;try dsimp only
         have k1:=mok (fR (aR [m0,m1])) f1 (by omega);have k2:abt (dY ng s e) (ν (fR (aR [m0,m1])) (mR (aR [m0,m1])))=true:=mok _ (by grind) f5;have k3:af .i64 (ο (mn (dY ng s e) (ν (fR (aR [m0,m1])) (mR (aR [m0,m1])))) 1)=true:=rin _ (by
          grind)
         have k4:af .i64 (ν (fR (aR [m0,m1])) (mR (aR [m0,m1])))=true:=rin _ (by grind);have k5:ab (aR [m0,m1]) 0=false:=bF.mpr (by omega);grind [aiD]
       | false=>
         have hc':=hc;rw[bF]at hc';have hs:aR [m0,m1]=0:=by
          grind [L6,qH]
         have hd1:1<=ko m0 m1:=by
          grind [aaU]
         have hE:AV.c [.a .i64 (aP ng s e [m0,m1] []),.a .i64 (bq ng s e [m0,m1] [])]=.c [.a .i64 (mn (dY ng s e) (ko m0 m1)),.a .i64 (ο (mn (dY ng s e) (ν (ko m0 m1) 1)) 1)]:=by
          unfold aP bq iO iD;rw[hm0,hz,hc];show _=AV.c [_,.a .i64 (mn (dY ng s e) (ko m0 m1+1)-1)];rw[show mn (dY ng s e) (ko m0 m1)=aG (dY ng s e) (ko m0 m1)by unfold mn;rw[aq.mpr (by omega)];rfl];rw[show mn (dY ng s e) (ko m0 m1+1)=aG (dY ng s e) (ko m0 m1+1)by
           unfold mn;by_cases h12:ko m0 m1=12
           . grind [VS]
           . rw[aq.mpr (by omega)];rfl];rfl
         rw[hE];refine nF aeb ai (bE 11420220020253561142022002025356240227000) (R:=λQ=>(λ(F:Bool)(A:Int)(I:Nat)(N:Prop)=>(λ(B C:Int)=>(λ(P:AV)(O:Bool)(E G:Int)=>(λ(T:AV)(U:Bool)(H:Int)=>(λ(V:Bool)=>χ s.length 1000/\ab 0 e/\ab e 1000/\dV s/\magOk s I/\(ng->af .i64 E/\N/\F/\abt E A/\F/\O/\abt E C/\(V->Q (.c [T,.a .i64 H]))/\(V=false->Q (.c [T,.a .i64 (IntKind.wrap .i64 H)])))/\(ng=false->N/\F/\abt B A/\F/\O/\abt B C/\(U->Q (.c [P,.a .i64 G]))/\(U=false->Q (.c [P,.a .i64 (IntKind.wrap .i64 G)])))) (af .i64 H)) (.a .i64 (mn E A)) (af .i64 G) (ο (mn E C) 1)) (.a .i64 (mn B A)) (af .i64 C) (ο 0 B) (ο (mn B C) 1)) (ξ (cF s I)) (ν A 1)) (and (dB m0) (dB m1)) (ko m0 m1) e.toNat (not (ab (aR [m0,m1]) 0)=false)) (λ_=>by kernel_rfl) λQ' hQ=>?_;try dsimp only
         have k1:=mok (ko m0 m1) hd1 (by omega);have k2:abt (dY ng s e) (ν (ko m0 m1) 1)=true:=mok _ (by show 1<=ko m0 m1+1;omega) (by show ko m0 m1+1<=24;omega);have k3:af .i64 (ο (mn (dY ng s e) (ν (ko m0 m1) 1)) 1)=true:=rin _ (by
          have:=mbd (ko m0 m1+1) (by omega) (by omega);show _<=mn (dY ng s e) (ko m0 m1+1)-1/\mn (dY ng s e) (ko m0 m1+1)-1<=_;omega)
         have k4:af .i64 (ν (ko m0 m1) 1)=true:=rin _ (by show _<=ko m0 m1+1/\ko m0 m1+1<=_;omega);rw[aiD]at hQ k1 k2 k3 ri;try dsimp only
         rw[hs,show ab 0 0=true from rfl];generalize ko m0 m1=dm at *;cases ng<;>simp only[zAj]at hQ k1 k2 k3 ri<;>simp only[n1,n2,n3,n4,n5,hmd,k1,k2,k3,k4,ri,τ,ς,true_and,and_true,true_imp_iff,reduceCtorEq,false_imp_iff]<;>exact hQ
     . obtain⟨q1,q2,q3,q4⟩:=aaR h0 hx rfl;have hd0:XR [d0,d1]=ko d0 d1:=rfl;rw[hm0]at q1 q2 q4;rw[hd0]at q3 q4;have ml:=jk (dY ng s e) (ko m0 m1);have hs:aR [m0,m1]=0:=by
        rcases L6 [m0,m1]with k|⟨_,k⟩
        . exact k
        . rw[hm0]at k;have:=qH [m0,m1];omega
       have hE:AV.c [.a .i64 (aP ng s e [m0,m1] [d0,d1]),.a .i64 (bq ng s e [m0,m1] [d0,d1])]=.c [.a .i64 (ο (ν (mn (dY ng s e) (ko m0 m1)) (ko d0 d1)) 1),.a .i64 (ο (ν (mn (dY ng s e) (ko m0 m1)) (ko d0 d1)) 1)]:=by
        unfold aP bq iO iD;rw[hm0,hd0,hz,show ab 13 (ko m0 m1)=false from bF.mpr (by omega),show aa (ko d0 d1) 0=false from aw.mpr (by omega)];rw[show mn (dY ng s e) (ko m0 m1)=aG (dY ng s e) (ko m0 m1)by unfold mn;rw[aq.mpr q2];rfl];rfl
       rw[hE];refine nF aeb ai (bE 1141144200202535611411442002025356240227000) (R:=λQ=>(λ(T U:Bool)(A:Int)(O:Nat)(P:Prop)=>(λ(B:Int)=>(λ(C E:Int)=>(λ(V:Bool)(F G H:Int)=>(λ(Z u0 u2 u3:AV)(W Y u1:Bool)(I N:Int)=>(λ(u5 u6 u9 ua:AV)(u4 u7:Bool)=>χ s.length 1000/\ab 0 e/\ab e 1000/\dV s/\magOk s O/\(ng->af .i64 C/\P/\T/\abt C A/\U/\(W->(u4->Q (.c [u5,u5]))/\(u4=false->Q (.c [u6,u6])))/\(W=false->(u7->Q (.c [u9,u9]))/\(u7=false->Q (.c [ua,ua]))))/\(ng=false->P/\T/\abt B A/\U/\(V->(Y->Q (.c [Z,Z]))/\(Y=false->Q (.c [u0,u0])))/\(V=false->(u1->Q (.c [u2,u2]))/\(u1=false->Q (.c [u3,u3]))))) (.a .i64 I) (.a .i64 (IntKind.wrap .i64 I)) (.a .i64 N) (.a .i64 (IntKind.wrap .i64 N)) (af .i64 I) (af .i64 N)) (.a .i64 G) (.a .i64 (IntKind.wrap .i64 G)) (.a .i64 H) (.a .i64 (IntKind.wrap .i64 H)) (af .i64 F) (af .i64 G) (af .i64 H) (ο F 1) (ο (IntKind.wrap .i64 F) 1)) (af .i64 E) (ν (mn C A) (ko d0 d1)) (ο E 1) (ο (IntKind.wrap .i64 E) 1)) (ο 0 B) (ν (mn B A) (ko d0 d1))) (ξ (cF s O))) (and (dB m0) (dB m1)) (and (dB d0) (dB d1)) (ko m0 m1) e.toNat (not (ab (aR [m0,m1]) 0)=false)) (λ_=>by kernel_rfl) λQ' hQ=>?_;try dsimp only
       have k1:=mok (ko m0 m1) q1 (by omega);have mb:=mbd (ko m0 m1) q1 (by omega);have k2:af .i64 (ν (mn (dY ng s e) (ko m0 m1)) (ko d0 d1))=true:=rin _ (by
        show _<=mn (dY ng s e) (ko m0 m1)+ko d0 d1/\mn (dY ng s e) (ko m0 m1)+ko d0 d1<=_;omega)
       have k3:af .i64 (ο (ν (mn (dY ng s e) (ko m0 m1)) (ko d0 d1)) 1)=true:=rin _ (by
        show _<=mn (dY ng s e) (ko m0 m1)+ko d0 d1-1/\mn (dY ng s e) (ko m0 m1)+ko d0 d1-1<=_;omega)
       rw[aiD]at hQ k1 k2 k3 ri;try dsimp only
       rw[hs,show ab 0 0=true from rfl];generalize ko m0 m1=dm at *;generalize ko d0 d1=dd at *;cases ng<;>simp only[zAj]at hQ k1 k2 k3 ri<;>simp only[n1,n2,n3,n4,n5,hmd,hdd,k1,k2,k3,ri,τ,ς,true_and,and_true,true_imp_iff,reduceCtorEq,false_imp_iff]<;>exact hQ
 . cases he
end Go.Ev
