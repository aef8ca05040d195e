import Derived.Test.YtcffhjfdlflbgaaGreatDoorP25
set_option linter.all false
open Int renaming ofNat->ν
open Nat renaming ble->ξ,beq->ς,le_refl->σ
open Prod renaming snd->ο
open List renaming getElem?_eq_getElem->π
open HAdd renaming hAdd->τ
set_option linter.all false
set_option maxRecDepth 100000
set_option maxHeartbeats 4000000
namespace Go.Ev
open Go Go.Proofs
variable{S:aQ}{ng lg:Bool}{s mo da:List UInt8}{g a b c:Int}{i:Nat}
def yN(d0 d1:UInt8)(y:Int)(w:List AV):Nat->Nat
 | 0=>0
 | i+1=>yN d0 d1 y w i+(ki d0 d1 y (iL w i)).length
def yL(d0 d1:UInt8)(y:Int)(w:List AV):Nat->List AV
 | 0=>[]
 | i+1=>yL d0 d1 y w i++dU y (iL w i) (ki d0 d1 y (iL w i))
def Mw:dW:=λ
 | [.a .i64 y,.h 14 0,.f,.c 15 0 nM (.b 0),.a .i64 i],⟨2,[.a w true (some 1),.a [.b ng,.b lg,.e s,.a .i64 e,.a .i64 g,.e mo,.e [d0,d1],.a .u8 a,.a .u8 b,.a .u8 c] true none],[]⟩=>
   some (aH [aa i 0,ξ nM 1000,ab1 y,fC d0,fC d1,iw w,List.all w (eB .i64),ς w.length nM] (.a0 (.b 0,[.a .i64 y,.h 14 0,Tm (yN d0 d1 y w nM),.c 15 0 nM (.b 0),.a .i64 (ν nM)],g9 (yN d0 d1 y w nM) (yL d0 d1 y w nM) (.a w true (some 1)) (bB ng lg s e g mo [d0,d1] a b c))))
 | _,_=>none
def Yl:cx:=iz jE 0 (d9 55 [1,2,5,6,7] Mw)
def ala:aav:=λ
 | [.g [.b ng,.b lg,.e s,.a .i64 e,.a .i64 g,.e [m0,m1],.e [d0,d1],.a .u8 a,.a .u8 b,.a .u8 c],.a .i64 y],[]=>some (aH [fC m0,fC m1,fC d0,fC d1,aa (aR [m0,m1]) 0,!(gU (ay m0 m1 12)),ab1 y] (.d0 (ς (yN d0 d1 y (aI (ay m0 m1 12)) (dG (ay m0 m1 12))) 0) λb=>bif b then .a0 (.f,[])else .a0 (.c 14 0 (yN d0 d1 y (aI (ay m0 m1 12)) (dG (ay m0 m1 12))) (.b 0),[.a (yL d0 d1 y (aI (ay m0 m1 12)) (dG (ay m0 m1 12))) true (some 3)])))
 | _,_=>none
theorem iZ{y:Int}:ab1 y=true↔-10000000000000000<=y/\y<=10000000000000000:=by grind [ab1,aq]
theorem Qs:cu Tryz.prog (cH cfg Z1) (Cw cfg []) (lb 185 1) 55 [1,2,5,6,7,8] Lp:=by
 intro vs o t Q hv hq J;unfold Lp at hv;split at hv
 . rename_i y nM i d w ng lg s e g mo d0 d1 a b c;cases hv;replace hq:=cO hq;obtain⟨⟨k1,k2,k3,k4,k5,k6,k7,k8,k9,-⟩,hq⟩:=hq;rw[ao]at k1;rw[aq]at k2;rw[aU]at k3;rw[al]at k4;rw[iZ]at k5;subst k1;obtain⟨k,rfl⟩:∃k:Nat,i=ν k:=⟨i.toNat,(Int.toNat_of_nonneg k2).symm⟩;exact LQ k5 k3 k4 k8 k9 hq
 . rename_i y n nM i d cs w ng lg s e g mo d0 d1 a b c;cases hv;replace hq:=cO hq;obtain⟨⟨k1,k2,k3,k4,k5,k6,k7,k8,k9,k10,k11,k12,k13,-⟩,hq⟩:=hq;rw[ao]at k1;rw[aq]at k2;rw[aU]at k3 k11;rw[al]at k4 k12;rw[aJ]at k10;rw[iZ]at k5;subst k1;obtain⟨k,rfl⟩:∃k:Nat,i=ν k:=⟨i.toNat,(Int.toNat_of_nonneg k2).symm⟩;exact Ko k5 k3 k4 k8 k9 k10 k12 k13 hq
 grind
theorem PF{d0 d1:UInt8}{y:Int}{w:List AV}:∀{i:Nat},yN d0 d1 y w i<=31*i
 | 0=>σ _
 | i+1=>by
   have:=PF (d0:=d0) (d1:=d1) (y:=y) (w:=w) (i:=i);have h1:=eV d0 d1 (bP y (iL w i)).toNat;have h2:=mr y (iL w i);grind [yN,ki]
theorem MT{d0 d1:UInt8}{y:Int}{w:List AV}:∀{i:Nat},(yL d0 d1 y w i).length=yN d0 d1 y w i*3
 | 0=>rfl
 | i+1=>by rw[yL,yN,zAe,MT,sB];omega
theorem MM{d0 d1:UInt8}{y:Int}{w:List AV}:∀{i:Nat},bw (yL d0 d1 y w i)=[]
 | 0=>rfl
 | i+1=>by rw[yL,aar,MM,oK];rfl
theorem Rl:cu Tryz.prog (cH cfg Z1) (Cw cfg []) (lb 185 0) 55 [1,2,5,6,7] Mw:=by
 intro vs o t Q hv hq J;unfold Mw at hv;split at hv
 . rename_i y nM i w ng lg s e g mo d0 d1 a b c;cases hv;replace hq:=cO hq;obtain⟨⟨k1,k2,k3,k4,k5,k6,k7,k8,-⟩,hq⟩:=hq;rw[ao]at k1;rw[al]at k2;rw[iZ]at k3;rw[aJ]at k8;subst k1;have hq:Q (.b 0,[.a .i64 y,.h 14 0,Tm (yN d0 d1 y w nM),.c 15 0 nM (.b 0),.a .i64 (ν nM)],g9 (yN d0 d1 y w nM) (yL d0 d1 y w nM) (.a w true (some 1)) (bB ng lg s e g mo [d0,d1] a b c)):=hq;have lok:qI Tryz.prog (cH cfg Z1) (Cw cfg []) W9 (lb 185 0):=by
    refine dv IT λi hi e he st Q hw=>?_;have hi:i=0:=η
    subst hi;cases he;rw[ag3];exact bR (cC.a0 q_) ζ rfl Qs hw
   refine ia q_ rfl rfl lok (ι:={i:Nat // i<=nM}) (λx=>[.a .i64 y,.h 14 0,Tm (yN d0 d1 y w x.1),.c 15 0 nM (.b 0),.a .i64 (ν x.1)]) (λx=>g9 (yN d0 d1 y w x.1) (yL d0 d1 y w x.1) (.a w true (some 1)) (bB ng lg s e g mo [d0,d1] a b c)) (λx=>nM-x.1) 2 (λx=>E9) (λx J=>?_) (σ _) (λJ=>Wk.a0 ⟨⟨0,Nat.zero_le _⟩,J,rfl⟩) J;obtain⟨i,hi⟩:=x;dsimp only;have wl:cR (14+2) (.a w true (some 1)):=aO (gj.1 k6);have bl:cR (14+2) (bB ng lg s e g mo [d0,d1] a b c):=aO κ;have hkA:i<nM->eB .i64 (w.getD i (.d []))=true:=λh=>by
    grind
   have fin:i=nM->∃vs2 o2,VW cfg (Cw cfg []) 2 55 [1,2,5,6,7] [.a .i64 y,.h 14 0,Tm (yN d0 d1 y w i),.c 15 0 nM (.b 0),.a .i64 (ν i)] (g9 (yN d0 d1 y w i) (yL d0 d1 y w i) (.a w true (some 1)) (bB ng lg s e g mo [d0,d1] a b c)) vs2 o2/\Q (.b 0,vs2,o2):=λh=>by
    grind [VW.a0]
   have go:i<nM->∀vs o,VW cfg (Cw cfg []) 2 55 [1,2,5,6,7] vs o [.a .i64 y,.h 14 0,Tm (yN d0 d1 y w (i+1)),.c 15 0 nM (.b 0),.a .i64 (ν (i+1))] (g9 (yN d0 d1 y w (i+1)) (yL d0 d1 y w (i+1)) (.a w true (some 1)) (bB ng lg s e g mo [d0,d1] a b c))->∃x:{i:Nat // i<=nM},nM-x.1<nM-i/\VW cfg (Cw cfg []) 2 55 [1,2,5,6,7] vs o [.a .i64 y,.h 14 0,Tm (yN d0 d1 y w x.1),.c 15 0 nM (.b 0),.a .i64 (ν x.1)] (g9 (yN d0 d1 y w x.1) (yL d0 d1 y w x.1) (.a w true (some 1)) (bB ng lg s e g mo [d0,d1] a b c)):=λhle vs o hv=>⟨⟨i+1,by omega⟩,by grind,hv⟩;have hle:=@PF d0 d1 y w i;have hlen:=@MT d0 d1 y w i;have hids:=@MM d0 d1 y w i;rw[yN,yL]at go;clear hq;by_cases hN:yN d0 d1 y w i=0
   . have hC:yL d0 d1 y w i=[]:=List.eq_nil_of_length_eq_zero δ;rw[hN,hC]at fin go ⊢;rw[Nat.zero_add,List.nil_append]at go;refine jJ (bE 11122422754) (R:=λQ=>(λ(N O:cD)(B C F:AV)(I:Bool)(A E:Int)=>(λ(G:AV)(P:Bool)(T:Int)(U:List Int)=>(λ(H:AV)(V:Nat)=>(P->aS i nM/\ξ nM 1000/\and (ab (Neg.neg 10000000000000000) y) (ab y 10000000000000000)/\fC d0/\fC d1/\(I->iw w/\(∀J1:Nat->Value,af .i64 T/\Q (.a,[B,C,Tm V,F,H],ο (H,ο (H,ο (G,ο ([B,C,Tm V,F,G,.a .i64 (τ (bP y E) 1)],g9 V (dU y E U) N O)))))))/\(I=false->False))/\(P=false->Q (.b 0,[B,C,.f,F,G],⟨2,[N,O],[]⟩))) (.a .i64 T) U.length) (.a .i64 A) (not (ab (ν nM) A)) (Int.add A 1) (ki d0 d1 y E)) (.a w true (some 1)) (.a [.b ng,.b lg,.e s,.a .i64 e,.a .i64 g,.e mo,.e [d0,d1],.a .u8 a,.a .u8 b,.a .u8 c] true none) (.a .i64 y) (.h 14 0) (.c 15 0 nM (fg.b 0)) (eB .i64 (List.getD w i (.d []))) (ν i) (iL w i)) (λ_=>by rfl) λQ' hQ=>?_;try dsimp only
     have fin2:i=nM->Q' (.b 0,[.a .i64 y,.h 14 0,.f,.c 15 0 nM (.b 0),.a .i64 (ν i)],⟨2,[.a w true (some 1),bB ng lg s e g mo [d0,d1] a b c],[]⟩):=λh=>hQ _ (fin h);have go2:i<nM->Q' (.a,[.a .i64 y,.h 14 0,Tm (ki d0 d1 y (iL w i)).length,.c 15 0 nM (.b 0),.a .i64 (ν (i+1))],g9 (ki d0 d1 y (iL w i)).length (dU y (iL w i) (ki d0 d1 y (iL w i))) (.a w true (some 1)) (bB ng lg s e g mo [d0,d1] a b c)):=λh=>hQ (.a,_,_) (go h _ _ VW.a0);clear hQ go fin;generalize ki d0 d1 y (iL w i)=D at *;generalize iL w i=m at *;simp only[az,reduceCtorEq];grind
   . have hpos:0<yN d0 d1 y w i:=δ
     rw[fZ hpos,Tv hpos]at fin;rw[fZ hpos,Tv hpos];refine jJ (bE 11177422754) (R:=λQ=>(λ(N O:cD)(B C F:AV)(I:Bool)(A E:Int)=>(λ(G:AV)(P:Bool)(T:Int)(U:List Int)=>(λ(H:AV)(V:Nat)=>(P->aS i nM/\ξ nM 1000/\and (ab (Neg.neg 10000000000000000) y) (ab y 10000000000000000)/\fC d0/\fC d1/\(I->iw w/\ς (yL d0 d1 y w i).length (HMul.hMul (yN d0 d1 y w i) 3)/\aS 0 (yN d0 d1 y w i)/\ξ (yN d0 d1 y w i) 40000/\iw (yL d0 d1 y w i)/\(∀J1:Nat->Value,af .i64 T/\Q (.a,[B,C,zH (yN d0 d1 y w i) V,F,H],ο (H,ο (H,ο (G,ο ([B,C,zH (yN d0 d1 y w i) V,F,G,.a .i64 (τ (bP y E) 1)],zL V (yL d0 d1 y w i) ((yL d0 d1 y w i)++(dU y E U)) N O)))))))/\(I=false->False))/\(P=false->Q (.b 0,[B,C,.c 16 0 (yN d0 d1 y w i) (fg.b 0),F,G],⟨3,[.a (yL d0 d1 y w i) true (some 3),N,O],[]⟩))) (.a .i64 T) U.length) (.a .i64 A) (not (ab (ν nM) A)) (Int.add A 1) (ki d0 d1 y E)) (.a w true (some 1)) (.a [.b ng,.b lg,.e s,.a .i64 e,.a .i64 g,.e mo,.e [d0,d1],.a .u8 a,.a .u8 b,.a .u8 c] true none) (.a .i64 y) (.h 14 0) (.c 15 0 nM (fg.b 0)) (eB .i64 (List.getD w i (.d []))) (ν i) (iL w i)) (λ_=>by rfl) λQ' hQ=>?_;try dsimp only
     have fin2:i=nM->Q' (.b 0,[.a .i64 y,.h 14 0,.c 16 0 (yN d0 d1 y w i) (.b 0),.c 15 0 nM (.b 0),.a .i64 (ν i)],⟨3,[.a (yL d0 d1 y w i) true (some 3),.a w true (some 1),bB ng lg s e g mo [d0,d1] a b c],[]⟩):=λh=>hQ _ (fin h);have go2:i<nM->Q' (.a,[.a .i64 y,.h 14 0,zH (yN d0 d1 y w i) (ki d0 d1 y (iL w i)).length,.c 15 0 nM (.b 0),.a .i64 (ν (i+1))],zL (ki d0 d1 y (iL w i)).length (yL d0 d1 y w i) (yL d0 d1 y w i++dU y (iL w i) (ki d0 d1 y (iL w i))) (.a w true (some 1)) (bB ng lg s e g mo [d0,d1] a b c)):=λh=>hQ (.a,_,_) (go h _ _ (by
      have hti:=@oK y (iL w i) (ki d0 d1 y (iL w i));generalize ki d0 d1 y (iL w i)=D at *;generalize yL d0 d1 y w i=C at *;generalize yN d0 d1 y w i=N at *;cases D with
      | nil=>
        simp only[List.length_nil,Nat.add_zero,dU,List.append_nil];rw[fZ hpos,Tv hpos];exact VW.a0
      | cons z zs=>
        have hp2:0<N+(z::zs).length:=δ
        rw[fZ hp2,Tv hp2];exact fx (tn:=55) (rel:=[1,2,5,6,7]) (vs:=[.a .i64 y,.h 14 0,.c 17 0 (N+(z::zs).length) (.b 0),.c 15 0 nM (.b 0),.a .i64 (ν (i+1))]) (vs':=[.a .i64 y,.h 14 0,.c 16 0 (N+(z::zs).length) (.b 0),.c 15 0 nM (.b 0),.a .i64 (ν (i+1))]) (x:=.a (C++dU y (iL w i) (z::zs)) true (some 3)) (mid:=[.b]) (B:=[.a w true (some 1),bB ng lg s e g mo [d0,d1] a b c]) (k:=1) (kb:=2) (n:=4) rfl rfl rfl (λz hz=>by
         simp only[List.mem_cons,List.not_mem_nil,or_false]at hz;rcases hz with rfl|rfl
         . exact wl
         . exact bl) (aO (by rw[aar,hids,hti];rfl)) rfl))
     clear hQ go fin;have hids2:=gj.2 hids;clear hids;generalize ki d0 d1 y (iL w i)=D at *;generalize iL w i=m at *;generalize yL d0 d1 y w i=C at *;generalize yN d0 d1 y w i=N at *;simp only[az,reduceCtorEq]
     (repeat' first|exact trivial|refine⟨?_,?_⟩|intro)<;>first|contradiction|omega|assumption|exact fin2 δ|exact go2 δ|exact hkA δ|(exfalso;have:=hkA δ;simp_all;done)
 . cases hv
theorem yY{M:List Int}:iw (aI M)=true:=by
 rw[gj];unfold aI;induction M<;>grind [bw,aC]
theorem OD{ng lg:Bool}{s:List UInt8}{e g:Int}{m0 m1 d0 d1:UInt8}{a b c y:Int}{v:AV}{news:List cD}(hy : -10000000000000000<=y/\y<=10000000000000000)(h0:fC m0)(h1:fC m1)(h2:fC d0)(h3:fC d1)(hse:aa (aR [m0,m1]) 0)(hn:gU (ay m0 m1 12)=false)
 (hv:dL [] v news (Tm (yN d0 d1 y (aI (ay m0 m1 12)) (dG (ay m0 m1 12))),g9 (yN d0 d1 y (aI (ay m0 m1 12)) (dG (ay m0 m1 12))) (yL d0 d1 y (aI (ay m0 m1 12)) (dG (ay m0 m1 12))) (.a (aI (ay m0 m1 12)) true (some 1)) (bB ng lg s e g [m0,m1] [d0,d1] a b c))) :
 bu Tryz.prog cfg 185 [.g [.b ng,.b lg,.e s,.a .i64 e,.a .i64 g,.e [m0,m1],.e [d0,d1],.a .u8 a,.a .u8 b,.a .u8 c],.a .i64 y] [] v news:=by
 refine Bu q_ (L:=Yl) Hm θ (dv DE λi hi e he st Q hw=>?_) (jJ (bE 1111144474027006) (R:=λQ=>(λ(C:List Int)=>(λ(B:List AV)(A:Nat)=>(λ(E F:Bool)(G:Nat)=>fC m0/\fC m1/\aa (aR [m0,m1]) 0/\not (gU C)/\(E->and (ab (Neg.neg 10000000000000000) y) (ab y 10000000000000000)/\fC d0/\fC d1/\(iw B->(List.all B (eB .i64)->(F->(∀J1:Nat->Value,Q (Prod.fst (Prod.fst (Tm G,ο ([.a .i64 y,.h 14 0,Tm G,.c 15 0 A (fg.b 0),.a .i64 (ν A)],g9 G (yL d0 d1 y B A) (.a B true (some 1)) (.a [.b ng,.b lg,.e s,.a .i64 e,.a .i64 g,.e [m0,m1],.e [d0,d1],.a .u8 a,.a .u8 b,.a .u8 c] true none))),ο (Tm G,ο ([.a .i64 y,.h 14 0,Tm G,.c 15 0 A (fg.b 0),.a .i64 (ν A)],g9 G (yL d0 d1 y B A) (.a B true (some 1)) (.a [.b ng,.b lg,.e s,.a .i64 e,.a .i64 g,.e [m0,m1],.e [d0,d1],.a .u8 a,.a .u8 b,.a .u8 c] true none)))),ο (Prod.fst (Tm G,ο ([.a .i64 y,.h 14 0,Tm G,.c 15 0 A (fg.b 0),.a .i64 (ν A)],g9 G (yL d0 d1 y B A) (.a B true (some 1)) (.a [.b ng,.b lg,.e s,.a .i64 e,.a .i64 g,.e [m0,m1],.e [d0,d1],.a .u8 a,.a .u8 b,.a .u8 c] true none))),ο (Tm G,ο ([.a .i64 y,.h 14 0,Tm G,.c 15 0 A (fg.b 0),.a .i64 (ν A)],g9 G (yL d0 d1 y B A) (.a B true (some 1)) (.a [.b ng,.b lg,.e s,.a .i64 e,.a .i64 g,.e [m0,m1],.e [d0,d1],.a .u8 a,.a .u8 b,.a .u8 c] true none)))))))/\(F=false->False))/\(List.all B (eB .i64)=false->False))/\(iw B=false->False))/\(E=false->False)) (ξ A 1000) (ς B.length A) (yN d0 d1 y B A)) (aI C) (dG C)) (ay m0 m1 12)) (λ_=>by kernel_rfl) λQ' hQ=>?_)
 . have hi:i=0\/i=1:=η
   rcases hi with rfl|rfl
   . cases he;exact bR (cC.a0 q_) ζ rfl Rl hw
   . cases he
 . have hQ:=hQ _ hv;dsimp only;have l1:dG (ay m0 m1 12)=(ay m0 m1 12).length:=rfl;have z1:=eV m0 m1 12;have c1:=@yY (ay m0 m1 12);have c2:=@ow (ay m0 m1 12);have c3:(aI (ay m0 m1 12)).length=dG (ay m0 m1 12):=cY;have z2:dG (ay m0 m1 12)<=1000:=δ
   have n2:(!(gU (ay m0 m1 12)))=true:=by rw[hn];rfl
   have yb:=iZ.2 hy;clear hv hn l1 z1;generalize aR [m0,m1]=sr at *;generalize ay m0 m1 12=M at *;generalize yL d0 d1 y (aI M) (dG M)=C at *;generalize yN d0 d1 y (aI M) (dG M)=N at *;generalize Tm N=oN at *;generalize aI M=cM at *;generalize dG M=lM at *;refine⟨h0,h1,hse,n2,λ_=>⟨yb,h2,h3,λ_=>⟨λ_=>⟨λ_=>λJ1=>hQ,λh=>?_⟩,λh=>?_⟩,λh=>?_⟩,λh=>?_⟩
   . rw[b9]at h;exact h c3
   . rw[c2]at h;cases h
   . rw[c1]at h;cases h
   . rw[<-Bool.not_eq_true,al]at h;exact h z2
theorem alG(hS:ak Tryz.prog cfg S):ak Tryz.prog cfg (eQ S 185 (fl 14 [] ala)):=by
 refine bm hS (fW gR.lv Az λargs ws t r he hr=>?_);unfold ala at he;split at he
 . rename_i ng lg s e g m0 m1 d0 d1 a b c y;cases he;replace hr:=aF hr;obtain⟨⟨k1,k2,k3,k4,k5,k6,k7,-⟩,hr⟩:=hr;rw[iZ]at k7;have k6:gU (ay m0 m1 12)=false:=by
    grind
   have key:=λv news=>@OD ng lg s e g m0 m1 d0 d1 a b c y v news k7 k1 k2 k3 k4 k5 k6;have hids:=@MM d0 d1 y (aI (ay m0 m1 12)) (dG (ay m0 m1 12));simp only[aH,Tr.b0]at hr;generalize yL d0 d1 y (aI (ay m0 m1 12)) (dG (ay m0 m1 12))=C at *;generalize yN d0 d1 y (aI (ay m0 m1 12)) (dG (ay m0 m1 12))=N at *;cases N with
   | zero=>
     cases hr;exact⟨key _ _ (dL.b0 rfl κ rfl rfl),λx hx=>by grind⟩
   | succ k=>
     cases hr;refine⟨key _ _ (dL.d0 (k:=2) rfl rfl (aO hids) rfl),λx hx=>?_⟩;grind [aO]
 grind
noncomputable def Z2:aQ:=eQ (aK (aK T9 184 Tf) 183 QQ) 185 (fl 14 [] ala)
theorem ag0:ak Tryz.prog cfg Z2:=alG (Rc (aln tV))
def acI(ng:Bool)(s:List UInt8)(e:Int)(m0 m1 d0 d1:UInt8)(k:Int):Bool:=mP ng s e k&&!(ς (yN d0 d1 k (aI (ay m0 m1 12)) (dG (ay m0 m1 12))) 0)
def Td(f:Int->Bool)(a:Int):Nat->Bool
 | 0=>false
 | n+1=>f a || Td f (a+1) n
def abD(ng:Bool)(s:List UInt8)(e:Int)(m0 m1 d0 d1:UInt8):Bool:=Td (acI ng s e m0 m1 d0 d1) (jR ng s e) (Zi ng s e+1-jR ng s e).toNat
def CY:dW:=λvs o=>match vs,o with
 | [.h 14 0,.a .i64 z,.a .i64 hi,.a .i64 y],⟨1,[.a [.b ng,.b lg,.e s,.a .i64 e,.a .i64 g,.e [m0,m1],.e [d0,d1],.a .u8 a,.a .u8 b,.a .u8 c] true none],[]⟩=>
   some (aH [aa z 0,aa hi (Zi ng s e),aa y (jR ng s e),aa g 0,aV ng lg s e g,ξ s.length 1000,lP s,fC m0,fC m1,fC d0,fC d1,aa (aR [m0,m1]) 0,!(gU (ay m0 m1 12))]
    (.d0 (abD ng s e m0 m1 d0 d1) λb=>bif b then .e0 λJ=>.a0 (.c,[.h 14 0,.a .i64 1,.a .i64 hi,.j (J 0)],o)else .e0 λJ=>.a0 (.b 0,[.h 14 0,.a .i64 0,.a .i64 hi,.j (J 0)],o)))
 | _,_=>none
def Mj:cx:=iz jE 0 (d9 30 [1,2,4,5] CY)
def BM:dP:=λ
 | [.g [.b ng,.b lg,.e s,.a .i64 e,.a .i64 g,.e [m0,m1],.e [d0,d1],.a .u8 a,.a .u8 b,.a .u8 c]]=>some (aH [aa g 0,aV ng lg s e g,ξ s.length 1000,lP s,fC m0,fC m1,fC d0,fC d1,aa (aR [m0,m1]) 0,!(gU (ay m0 m1 12))] (.a0 (.a .i64 (bI (abD ng s e m0 m1 d0 d1)))))
 | _=>none
theorem alm:aY tab 101=some (dH 101,aL 101):=κ
theorem aji:(bz (aL 101)).map (·.1)=[0]:=κ
theorem acP{f:Int->Bool}:∀{n:Nat} {a:Int},Td f a n=true↔∃k,a<=k/\k<a+n/\f k=true
 | 0,a=>by
   refine⟨λh=>(by cases h),λ⟨k,h1,h2,_⟩=>?_⟩;omega
 | n+1,a=>by
   rw[Td,Bool.or_eq_true,acP];grind
theorem G7{c0 c1 c2 c3:UInt8}{x:Int}(hx:48<=x/\x<=57)(h0:fC c0)(h1:fC c1)(h2:fC c2)(h3:fC c3):0<=gu c0 c1 c2 c3 x/\gu c0 c1 c2 c3 x<=9999:=by
 grind [lL,dD,rY,ic,gu]
theorem Bf{e:Int}(ho:aV ng lg s e g)(hX:lP s) : -10000000000000000<=jR ng s e/\Zi ng s e<=10000000000000000:=by
 unfold jR Zi;cases hx:ς (dT s 88 88) 0 with
 | true=>
   rw[aJ]at hx;have:=DP ho hx;grind
 | false=>
   rw[cond_false,cond_false];obtain⟨c0,c1,c2,c3,rfl,h0,h1,h2,h3⟩:=sV hX hx;have a:=G7 (x:=48) ζ h0 h1 h2 h3;have b:=G7 (x:=57) ζ h0 h1 h2 h3;grind [nT,Fd]
theorem app:cu Tryz.prog (cH cfg Z2) (Cw cfg []) (lb 101 0) 30 [1,2,4,5] CY:=by
 intro vs o t Q hv hq J;unfold CY at hv;split at hv
 . rename_i z hi y ng lg s e g m0 m1 d0 d1 a b c;cases hv;replace hq:=cO hq;obtain⟨⟨k1,k2,k3,k4,k5,k6,k7,h0,h1,h2,h3,k8,k9,-⟩,hq⟩:=hq;rw[ao]at k1 k2 k3 k4;rw[al]at k6;have hbd:=Bf k5 k7;subst k1 k2 k3 k4;have k9:gU (ay m0 m1 12)=false:=by
    grind
   unfold abD at hq;simp only[aH,Tr.wp]at hq;generalize Zi ng s e=hi at *;generalize jR ng s e=lo at *;have box:cR (14+1) (bB ng lg s e 0 [m0,m1] [d0,d1] a b c):=aO κ;refine ia ag0 rfl rfl ai (ι:={y:Int // -10000000000000000<=y/\Td (acI ng s e m0 m1 d0 d1) lo (hi+1-lo).toNat=Td (acI ng s e m0 m1 d0 d1) y (hi+1-y).toNat}) (λx=>[.h 14 0,.a .i64 0,.a .i64 hi,.a .i64 x.1]) (λ_=>⟨1,[bB ng lg s e 0 [m0,m1] [d0,d1] a b c],[]⟩) (λx=>(hi+1-x.1).toNat) 1 (λ_=>σ _) (λx J=>?_) (σ _) (λJ=>Wk.a0 ⟨⟨lo,hbd.1,rfl⟩,J,rfl⟩) J;obtain⟨y,hy,he⟩:=x;dsimp only;rw[he]at hq;have step:y<=hi->Td (acI ng s e m0 m1 d0 d1) y (hi+1-y).toNat=(acI ng s e m0 m1 d0 d1 y || Td (acI ng s e m0 m1 d0 d1) (y+1) (hi+1-(y+1)).toNat):=λh=>by
    rw[show(hi+1-y).toNat=(hi+1-(y+1)).toNat+1 by omega];rfl
   have hit:acI ng s e m0 m1 d0 d1 y=(mP ng s e y&&!(ς (yN d0 d1 y (aI (ay m0 m1 12)) (dG (ay m0 m1 12))) 0)):=rfl;have yes:y<=hi->acI ng s e m0 m1 d0 d1 y->∀J:Nat->Value,Q (.c,[.h 14 0,.a .i64 1,.a .i64 hi,.j (J 0)],⟨1,[bB ng lg s e 0 [m0,m1] [d0,d1] a b c],[]⟩):=λh1 h2 J2=>by
    rw[step h1,h2,Bool.true_or]at hq;exact hq J2
   have no:hi<y->∀J:Nat->Value,Q (.b 0,[.h 14 0,.a .i64 0,.a .i64 hi,.j (J 0)],⟨1,[bB ng lg s e 0 [m0,m1] [d0,d1] a b c],[]⟩):=λh1 J2=>by
    rw[show(hi+1-y).toNat=0 by omega]at hq;exact hq J2
   have next:y<=hi->acI ng s e m0 m1 d0 d1 y=false->Td (acI ng s e m0 m1 d0 d1) lo (hi+1-lo).toNat=Td (acI ng s e m0 m1 d0 d1) (y+1) (hi+1-(y+1)).toNat:=λh1 h2=>by
    grind
   clear hq step;rw[hit]at yes next;refine jJ (bE 1120338127120742770220642700054) (R:=λQ=>(λ(E F G N:AV)(A H:Bool)(I:Int)(C:List Int)=>(λ(P:cD)(O:Nat)(B:Prop)=>(λ(T:Bool)(U:Prop)=>(ab y hi->aV ng lg s e 0/\ξ s.length 1000/\lP s/\H/\(A->A/\A/\fC m0/\fC m1/\fC d0/\fC d1/\aa (aR [m0,m1]) 0/\not (gU C)/\H/\(T->A/\A/\A/\U)/\(T=false->A/\A/\A/\not (ab (ν O) 0)/\Q (.c,[E,.a .i64 1,G,N],⟨2,[.a (yL d0 d1 y (aI C) (dG C)) true (some 3),P],[]⟩)))/\(B->B/\B/\B/\B/\B/\U))/\(ab y hi=false->Q (.b 0,[E,F,G,N],⟨1,[P],[]⟩))) (ς O 0) (af .i64 I/\Q (.a,[E,F,G,.a .i64 I],⟨1,[P],[]⟩))) (.a [.b ng,.b lg,.e s,.a .i64 e,F,.e [m0,m1],.e [d0,d1],.a .u8 a,.a .u8 b,.a .u8 c] true none) (yN d0 d1 y (aI C) (dG C)) (A=false)) (.h 14 0) (.a .i64 0) (.a .i64 hi) (.a .i64 y) (aa (cond (mP ng s e y) 1 0) 1) (and (ab (Neg.neg 10000000000000000) y) (ab y 10000000000000000)) (Int.add y 1) (ay m0 m1 12)) (λ_=>by rfl) λQ' hQ=>?_;try dsimp only
   have yids:=@MM d0 d1 y (aI (ay m0 m1 12)) (dG (ay m0 m1 12));generalize yL d0 d1 y (aI (ay m0 m1 12)) (dG (ay m0 m1 12))=C at *;generalize yN d0 d1 y (aI (ay m0 m1 12)) (dG (ay m0 m1 12))=N at *;have n2:(!(gU (ay m0 m1 12)))=true:=δ
   have ret:y<=hi->(mP ng s e y&&!(ς N 0))->Q' (.c,[.h 14 0,.a .i64 1,.a .i64 hi,.a .i64 y],⟨2,[.a C true (some 3),bB ng lg s e 0 [m0,m1] [d0,d1] a b c],[]⟩):=λq1 q2=>hQ _ ⟨_,_,VW.e0 (vs':=[.h 14 0,.a .i64 1,.a .i64 hi,.a .i64 y]) (o':=⟨1,[bB ng lg s e 0 [m0,m1] [d0,d1] a b c],[]⟩) (VW.d0 gR.lv (C:=Cw cfg []) (kb:=1) (sel:=[]) zW (Nat.le_succ 1) (λs hs=>by grind) List.nodup_nil (λp hp=>by grind) rfl rfl rfl (λi hi=>by
    obtain rfl:i=0:=δ
    exact⟨rfl,box⟩) (λt ht=>absurd ht (Nat.not_lt_zero t)) rfl) (VW.c0 (.a0 (.a0 (.a0 (.b0 .c0)))) rfl),yes q1 q2 (jv [_])⟩
   have fin:hi<y->Q' (.b 0,[.h 14 0,.a .i64 0,.a .i64 hi,.a .i64 y],⟨1,[bB ng lg s e 0 [m0,m1] [d0,d1] a b c],[]⟩):=λq1=>hQ _ ⟨_,_,VW.c0 (.a0 (.a0 (.a0 (.b0 .c0)))) rfl,no q1 (jv [_])⟩;have go:y<=hi->(mP ng s e y&&!(ς N 0))=false->Q' (.a,[.h 14 0,.a .i64 0,.a .i64 hi,.a .i64 (y+1)],⟨1,[bB ng lg s e 0 [m0,m1] [d0,d1] a b c],[]⟩):=λq1 q2=>hQ _ ⟨⟨y+1,by omega,next q1 q2⟩,by grind,VW.b0 rfl rfl⟩;clear hQ yes no next he hit yids box;have ey:ab1 y=(ab (-10000000000000000) y&&ab y 10000000000000000):=rfl;generalize aR [m0,m1]=sr at *;generalize ay m0 m1 12=M at *;rw[ao]at k8;cases hY:mP ng s e y with
   | false=>
     have go:=λq1=>go q1 (by rw[hY];rfl);clear ret;simp only[cond_false];simp only[az,reduceCtorEq]
     (repeat' first|exact trivial|refine⟨?_,?_⟩|intro)<;>first|contradiction|omega|assumption|(apply fin;omega)|(apply go;omega)|(exfalso;simp_all;done)
   | true=>
     cases hN:ς N 0 with
     | true=>
       have go:=λq1=>go q1 (by rw[hY,hN];rfl);rw[aJ]at hN;clear ret;simp only[cond_true];simp only[az,reduceCtorEq]
       (repeat' first|exact trivial|refine⟨?_,?_⟩|intro)<;>first|contradiction|omega|assumption|(apply fin;omega)|(apply go;omega)|(exfalso;simp_all;done)
     | false=>
       have ret:=λq1=>ret q1 (by rw[hY,hN];rfl);rw[b9]at hN;clear go;simp only[cond_true];simp only[az,reduceCtorEq]
       (repeat' first|exact trivial|refine⟨?_,?_⟩|intro)<;>first|contradiction|omega|assumption|(apply fin;omega)|(apply ret;omega)|(exfalso;simp_all;done)
 . cases hv
theorem Ju{e:Int}{m0 m1 d0 d1:UInt8}(hs:s.length<=1000)(h0:fC m0)(h1:fC m1)(h2:fC d0)(h3:fC d1)(hse:aa (aR [m0,m1]) 0)(hn:gU (ay m0 m1 12)=false)(ho:aV ng lg s e 0)(hx:lP s) :
 bu Tryz.prog cfg 101 [.g [.b ng,.b lg,.e s,.a .i64 e,.a .i64 0,.e [m0,m1],.e [d0,d1],.a .u8 a,.a .u8 b,.a .u8 c]] [] (.a .i64 (bI (abD ng s e m0 m1 d0 d1))) []:=by
 refine kA ag0 (L:=Mj) alm θ (dv aji λi hi e he st Q hw=>?_) (jJ (bE 114777022070005) (R:=λQ=>(λ(A B C:Bool)=>A/\B/\lP s/\aa (Zi ng s e) (Zi ng s e)/\aa (jR ng s e) (jR ng s e)/\A/\B/\lP s/\fC m0/\fC m1/\fC d0/\fC d1/\aa (aR [m0,m1]) 0/\not (gU (ay m0 m1 12))/\(C->(∀J1 J2:Nat->Value,Q (.a .i64 1)))/\(C=false->(∀J1 J2:Nat->Value,Q (.a .i64 0)))) (aV ng lg s e 0) (ξ s.length 1000) (abD ng s e m0 m1 d0 d1)) (λ_=>by rfl) λQ' hQ=>?_) κ
 . have hi:i=0:=η
   subst hi;cases he;exact bR (cC.a0 ag0) ζ rfl app hw
 . try dsimp only
   have hQ:=hQ _ rfl;rw[ao]at hse;generalize abD ng s e m0 m1 d0 d1=r at *;generalize aR [m0,m1]=sr at *;generalize ay m0 m1 12=M at *;generalize jR ng s e=lo at *;generalize Zi ng s e=hi at *;cases r with
   | true=>
     have hQ:Q' (.a .i64 1):=hQ;simp_all [az]
   | false=>
     have hQ:Q' (.a .i64 0):=hQ;simp_all [az]
theorem anX(hS:ak Tryz.prog cfg S):ak Tryz.prog cfg (aK S 101 BM):=au hS λargs t v he hv=>by
 unfold BM at he;split at he
 . cases he;obtain⟨⟨k1,k2,k3,k4,k5,k6,k7,k8,k9,k10,-⟩,hv⟩:=aF hv;rw[ao]at k1;rw[al]at k3;cases hv;grind [Ju]
 grind
theorem Xc{e k:Int}:mP ng s e k=true↔mK ng s e k:=by
 unfold mP mK;cases ς (dT s 88 88) 0<;>grind [ao,aq]
theorem aeD{M:List Int}(h:i<M.length):iL (aI M) i=M.getD i 0:=by
 unfold iL aI;rw[zAf,List.getElem?_map,π h,zAf,π h];rfl
theorem ah0{d0 d1:UInt8}{y:Int}{w:List AV}:∀{n:Nat},yN d0 d1 y w n≠0↔∃i,i<n/\ki d0 d1 y (iL w i)≠[]
 | 0=>⟨λh=>absurd rfl h,λ⟨i,h,_⟩=>absurd h (Nat.not_lt_zero _)⟩
 | n+1=>by
   rw[yN];have ih:=ah0 (d0:=d0) (d1:=d1) (y:=y) (w:=w) (n:=n);grind [List.length_pos_iff]
theorem ahz{ng lg:Bool}{s:List UInt8}{e g:Int}{m0 m1 d0 d1:UInt8}(ho:aV ng lg s e g)(hX:lP s):abD ng s e m0 m1 d0 d1=qK ng s e [m0,m1] [d0,d1]:=by
 have hd:ae [d0,d1] []=false:=rfl;rw[Bool.eq_iff_iff];unfold abD qK;show _↔mJ (jb ng s e (-9223372036854775808) 0 0 [m0,m1] [d0,d1] (ay m0 m1 12) (ay d0 d1 31) _ _)=true;rw[zg ho hX hd ζ _ _ (σ _),acP];have hb:=Bf ho hX;have hit:∀k,acI ng s e m0 m1 d0 d1 k=true↔mK ng s e k/\LM (ay m0 m1 12) (ay d0 d1 31) k:=λk=>by
  unfold acI;rw[zAa,Xc,Bool.not_eq_true',b9,ah0,ago];refine and_congr_right λ_=>?_;constructor
  . rintro⟨i,hi,h⟩;have hi:i<(ay m0 m1 12).length:=hi;rw[aeD hi]at h;refine⟨_,?_,h⟩;rw[zAf,π hi];exact List.getElem_mem hi
  . rintro⟨m,hm,h⟩;obtain⟨i,hi,rfl⟩:=List.getElem_of_mem hm;refine⟨i,hi,?_⟩;rw[aeD hi,zAf,π hi];exact h
 constructor
 . rintro⟨k,h1,h2,h3⟩;rw[hit]at h3;exact⟨k,h3.1,by omega,h3.2⟩
 . rintro⟨k,h1,h2,h3⟩;have hk:=Kx hX h1;exact⟨k,hk.1,by omega,(hit k).2 ⟨h1,h3⟩⟩
noncomputable def Z3:aQ:=aK T9 101 BM
theorem agT:ak Tryz.prog cfg Z3:=anX tV
def eA(s:List UInt8):Bool:=!(ς (dT s 88 88) 0)
def Wa:dP:=λ
 | [.e s,.e t]=>some (aH [ae t [88],ξ s.length 1000000] (.a0 (.b (eA s))))
 | _=>none
def XZ:dP:=λ
 | [.g [.b ng,.b lg,.e s,.a .i64 e,.a .i64 g,.e mo,.e da,.a .u8 a,.a .u8 b,.a .u8 c]]=>some (aH [ξ s.length 1000,ξ mo.length 1000,ξ da.length 1000] (.a0 (.b (eA (s++mo++da)))))
 | _=>none
def YD:dP:=λ
 | [.g [.b ng,.b lg,.e s,.a .i64 e,.a .i64 g,.e mo,.e da,.a .u8 a,.a .u8 b,.a .u8 c]]=>some (aH [ξ s.length 1000,ξ mo.length 1000,ξ da.length 1000] (.a0 (.a .i64 (bI (eA (s++mo++da))))))
 | _=>none
def Sa:dW:=λvs o=>match vs,o with
 | [.h 14 0,.a .i64 z,.e t,.a .i64 i],⟨1,[.a [.b ng,.b lg,.e s,.a .i64 e,.a .i64 g,.e mo,.e da,.a .u8 a,.a .u8 b,.a .u8 c] true none],[]⟩=>
   some (aH [aa z 0,aa i 0,ξ t.length 1000000] (.d0 (eA t) λx=>bif x then .e0 λJ=>.a0 (.c,[.h 14 0,.a .i64 1,.e t,.j (J 0)],o)else .a0 (.b 0,[.h 14 0,.a .i64 0,.e t,.a .i64 (ν t.length)],o)))
 | _,_=>none
def ZU:cx:=iz jE 0 (d9 28 [1,2,3,4] Sa)
def VF:dP:=λ
 | [.g [.b ng,.b lg,.e s,.a .i64 e,.a .i64 g,.e mo,.e da,.a .u8 a,.a .u8 b,.a .u8 c]]=>some (aH [aa g 0,ξ s.length 1000,ξ mo.length 1000,ξ da.length 1000] (.a0 (.a .i64 (bI (eA (s++mo++da))))))
 | _=>none
def tw:dP:=λ
 | [.g [.b ng,.b lg,.e s,.a .i64 e,.a .i64 g,.e mo,.e da,.a .u8 a,.a .u8 b,.a .u8 c]]=>some (aH [ξ s.length 1000,af .i64 e] (.a0 (.a .i64 (bW ng lg s e g mo da a b c))))
 | _=>none
def X1:aQ:=aK gZ 80 Wa
def X2:aQ:=aK gZ 102 VF
theorem O4:aY tab 80=some (dH 80,aL 80):=κ
theorem NT:aY tab 102=some (dH 102,aL 102):=κ
theorem KB:(bz (aL 102)).map (·.1)=[0]:=κ
theorem IR{e:Int}(hs:s.length<=140737488351232)(he : -9223372036854775808<=e/\e<=9223372036854775807) :
 bu Tryz.prog cfg 46 [.g [.b ng,.b lg,.e s,.a .i64 e,.a .i64 g,.e mo,.e da,.a .u8 a,.a .u8 b,.a .u8 c]] [] (.a .i64 (bW ng lg s e g mo da a b c)) []:=by
 unfold bW;cases hE:aa (nH ng lg s e g mo da a b c) 0 with
 | false=>
   refine jD agT ai (bE 1053822006) (R:=λQ=>(λ(B:Int)=>(λ(A:Prop)=>ξ s.length 140737488351232/\af .i64 e/\A/\A/\A/\A/\Q (.a .i64 B)) (aa B 0=false)) (nH ng lg s e g mo da a b c)) (λ_=>by rfl) λQ' hQ=>?_;simp_all [az]
 | true=>
   rw[cond_true];cases hd:ae da []with
   | true=>
     refine jD agT ai (bE 103822027006) (R:=λQ=>(λ(C:Int)(A:Prop)=>(λ(B:Bool)=>ξ s.length 140737488351232/\af .i64 e/\B/\B/\B/\B/\A/\A/\A/\A/\Q (.a .i64 C)) (aa C 0)) (nH ng lg s e g mo da a b c) (not (ae da [])=false)) (λ_=>by rfl) λQ' hQ=>?_;simp_all [az]
   | false=>
     have hE':=ao.mp hE;obtain⟨m0,m1,d0,d1,rfl,rfl,h0,h1,h2,h3,k1,k2,hse,ho,hx,hg0⟩:=adC hE' hd;have ln:s.length<=1000:=Nat.le_trans (Wi ho) ζ;have n1:gU (ay m0 m1 12)=false:=by grind [gU]
     have hF:=@ahz ng lg s e g m0 m1 d0 d1 ho hx;rw[cond_false,<-hF];refine nF agT ai (bE 1140027775622027006) (R:=λQ=>(λ(B E:Bool)(C:Int)=>(λ(A:Bool)=>ξ s.length 140737488351232/\af .i64 e/\A/\A/\A/\A/\aa g 0/\aV ng lg s e g/\B/\lP s/\fC m0/\fC m1/\fC d0/\fC d1/\aa (aR [m0,m1]) 0/\not (gU (ay m0 m1 12))/\(E->Q (.a .i64 8))/\(E=false->Q (.a .i64 C))) (aa C 0)) (ξ s.length 1000) (aa (cond (abD ng s e m0 m1 d0 d1) 1 0) 0) (nH ng lg s e g [m0,m1] [d0,d1] a b c)) (λ_=>by rfl) λQ' hQ=>?_;try dsimp only
     clear hF hE' k1 k2;rw[ao]at hE;generalize abD ng s e m0 m1 d0 d1=r at *;generalize nH ng lg s e g [m0,m1] [d0,d1] a b c=er at *;generalize aR [m0,m1]=sr at *;generalize ay m0 m1 12=M at *;cases r<;>simp_all [az]
theorem XF{t:List UInt8}(ht:ae t [88]):bu Tryz.prog cfg 80 [.e s,.e t] [] (.b (eA s)) []:=by
 rw[bV,beq_iff_eq]at ht;subst ht;refine dy O4 κ λm w hG=>?_;have:=Go.Proofs.YtcffhjfdlflbgaaGreatDoor.Contains_X ⟨⟨s⟩⟩ w;have e:Go.Proofs.YtcffhjfdlflbgaaGreatDoor.hasX s=eA s:=by
  grind [eA,Ed,b9]
 have h2:Calls Tryz.prog 80 (aD m [.e s,.e [88]]).toArray w λe w'=>e=.returned (.bool (Go.Proofs.YtcffhjfdlflbgaaGreatDoor.hasX s))/\w=w':=by grind [aD,aj]
 rw[e]at h2;refine h2.mono ?_;grind [aj,Go.RowKit.Below.refl]
theorem Uy:ak Tryz.prog cfg X1:=au aW λargs t v he hv=>by
 unfold Wa at he;split at he
 . cases he;obtain⟨⟨h1,h2,-⟩,hv⟩:=aF hv;cases hv;exact XF h1
 grind
theorem IY{e:Int}(hs:s.length<=1000)(hm:mo.length<=1000)(hd:da.length<=1000) :
 bu Tryz.prog cfg 43 [.g [.b ng,.b lg,.e s,.a .i64 e,.a .i64 g,.e mo,.e da,.a .u8 a,.a .u8 b,.a .u8 c]] [] (.b (eA (s++mo++da))) []:=by
 refine nF Uy ai (bE 11140040200) (R:=λQ=>(λ(A:List UInt8)=>(λ(B:Bool)(C:List UInt8)=>(λ(E:Bool)=>ξ (τ s.length mo.length) 1000000/\(B->(E->Q (.b (eA C)))/\(E=false->False))/\(B=false->False)) (ξ C.length 1000000)) (ξ (τ A.length da.length) 1000000) (A++da)) (s++mo)) (λ_=>by rfl) λQ' hQ=>?_;simp_all;omega
theorem HQ{t:List UInt8}(h:∀k,k<i->(t.getD k 0).toNat≠88)(hi:t.length<=i):eA t=false:=by
 unfold eA;rw[Bool.not_eq_false',aJ];unfold dT;rw[List.length_eq_zero_iff,List.filter_eq_nil_iff];intro x hx;obtain⟨k,hk,rfl⟩:=List.getElem_of_mem hx;have:=h k δ;grind
theorem O8{t:List UInt8}(hi:i<t.length)(h:(t.getD i 0).toNat=88):eA t=true:=by
 grind [eA,b9,dT,List.filter_eq_nil_iff]
theorem al6:cu Tryz.prog (cH cfg gZ) (Cw cfg []) (lb 102 0) 28 [1,2,3,4] Sa:=by
 intro vs o t Q hv hq J;unfold Sa at hv;split at hv
 . rename_i z t i ng lg s e g mo da a b c;cases hv;replace hq:=cO hq;obtain⟨⟨k1,k2,k3,-⟩,hq⟩:=hq;rw[ao]at k1 k2;rw[al]at k3;subst k1 k2;simp only[aH,Tr.wp]at hq;refine ia aW rfl rfl ai (ι:={i:Nat // i<=t.length/\∀k,k<i->(t.getD k 0).toNat≠88}) (λx=>[.h 14 0,.a .i64 0,.e t,.a .i64 (ν x.1)]) (λ_=>⟨1,[bB ng lg s e g mo da a b c],[]⟩) (λx=>t.length-x.1) 1 (λ_=>σ _) (λx J=>?_) (σ _) (λJ=>Wk.a0 ⟨⟨0,Nat.zero_le _,λk hk=>absurd hk (Nat.not_lt_zero k)⟩,J,rfl⟩) J;obtain⟨i,hi,hz⟩:=x;dsimp only;refine jJ (bE 11214204) (R:=λQ=>(λ(B C G:AV)(F:Bool)(A:Int)(E:Nat)=>(λ(I:AV)(H:Bool)(N:Int)=>(H->aS i E/\(F->Q (.c,[B,.a .i64 1,C,I],⟨1,[.a [.b ng,.b lg,.e s,.a .i64 e,.a .i64 g,.e mo,.e da,.a .u8 a,.a .u8 b,.a .u8 c] true none],[]⟩))/\(F=false->af .i64 N/\Q (.a,[B,G,C,.a .i64 N],⟨1,[.a [.b ng,.b lg,.e s,.a .i64 e,.a .i64 g,.e mo,.e da,.a .u8 a,.a .u8 b,.a .u8 c] true none],[]⟩)))/\(H=false->Q (.b 0,[B,G,C,I],⟨1,[.a [.b ng,.b lg,.e s,.a .i64 e,.a .i64 g,.e mo,.e da,.a .u8 a,.a .u8 b,.a .u8 c] true none],[]⟩))) (.a .i64 A) (not (ab (ν E) A)) (Int.add A 1)) (.h 14 0) (.e t) (.a .i64 0) (aa (ν (UInt8.toNat (List.getD t i (UInt8.ofNat 0)))) 88) (ν i) t.length) (λ_=>by rfl) λQ' hQ=>?_;try dsimp only
   have ret:i<t.length->(t.getD i 0).toNat=88->Q' (.c,[.h 14 0,.a .i64 1,.e t,.a .i64 (ν i)],⟨1,[bB ng lg s e g mo da a b c],[]⟩):=λh1 h2=>hQ _ ⟨_,_,VW.c0 (.a0 (.a0 (.a0 (.b0 .c0)))) rfl,by
    rw[O8 h1 h2]at hq;exact hq (jv [_])⟩
   have fin:i=t.length->Q' (.b 0,[.h 14 0,.a .i64 0,.e t,.a .i64 (ν i)],⟨1,[bB ng lg s e g mo da a b c],[]⟩):=λh=>hQ _ ⟨_,_,VW.a0,by
    rw[HQ hz δ]at hq;subst h;exact hq⟩
   have go:i<t.length->(t.getD i 0).toNat≠88->Q' (.a,[.h 14 0,.a .i64 0,.e t,.a .i64 (ν (i+1))],⟨1,[bB ng lg s e g mo da a b c],[]⟩):=λh1 h2=>hQ _ ⟨⟨i+1,by omega,λk hk=>by
    grind⟩,by grind,VW.b0 rfl rfl⟩
   clear hQ hq hz;rw[show(UInt8.ofNat 0)=(0:UInt8)from rfl];generalize (t.getD i 0).toNat=cn at *;simp only[az,reduceCtorEq];grind
 grind
theorem JV{e:Int}(hs:s.length<=1000)(hm:mo.length<=1000)(hd:da.length<=1000) :
 bu Tryz.prog cfg 102 [.g [.b ng,.b lg,.e s,.a .i64 e,.a .i64 0,.e mo,.e da,.a .u8 a,.a .u8 b,.a .u8 c]] [] (.a .i64 (bI (eA (s++mo++da)))) []:=by
 refine kA aW (L:=ZU) NT θ (dv KB λi hi e he st Q hw=>?_) (jJ (bE 111001440040200) (R:=λQ=>(λ(A:List UInt8)=>(λ(B:Bool)(C:List UInt8)=>(λ(E:Bool)=>ξ (τ s.length mo.length) 1000000/\(B->(E->(eA C->(∀J1 J2:Nat->Value,Q (.a .i64 1)))/\(eA C=false->(∀J1:Nat->Value,Q (.a .i64 0))))/\(E=false->False))/\(B=false->False)) (ξ C.length 1000000)) (ξ (τ A.length da.length) 1000000) (A++da)) (s++mo)) (λ_=>by rfl) λQ' hQ=>?_) κ
 . have hi:i=0:=η
   subst hi;cases he;exact bR (cC.a0 aW) ζ rfl al6 hw
 . have l1:(s++mo).length=s.length+mo.length:=List.length_append;have l2:(s++mo++da).length=s.length+mo.length+da.length:=η
   have y1:eA (s++mo++da)->Q' (.a .i64 1):=λh=>hQ _ (by rw[h];rfl);have y0:eA (s++mo++da)=false->Q' (.a .i64 0):=λh=>hQ _ (by rw[h];rfl);simp_all;omega
theorem VL:ak Tryz.prog cfg X2:=au aW λargs t v he hv=>by
 unfold VF at he;split at he
 . cases he;obtain⟨⟨h1,h2,h3,h4,-⟩,hv⟩:=aF hv;rw[ao]at h1;rw[al]at h2 h3 h4;cases hv;grind [JV]
 grind
theorem Jh{e:Int}(hs:s.length<=1000)(hm:mo.length<=1000)(hd:da.length<=1000) :
 bu Tryz.prog cfg 47 [.g [.b ng,.b lg,.e s,.a .i64 e,.a .i64 g,.e mo,.e da,.a .u8 a,.a .u8 b,.a .u8 c]] [] (.a .i64 (bI (eA (s++mo++da)))) []:=by
 refine nF VL ai (bE 1756) (R:=λQ=>ξ s.length 1000/\ξ mo.length 1000/\ξ da.length 1000/\Q (.a .i64 (cond (eA ((s++mo)++da)) 1 0))) (λ_=>by rfl) λQ' hQ=>?_;simp only[az,reduceCtorEq]
 (repeat' first|exact trivial|refine⟨?_,?_⟩|intro)<;>first|contradiction|omega|assumption
theorem TX(hS:ak Tryz.prog cfg S):ak Tryz.prog cfg (aK S 43 XZ):=au hS λargs t v he hv=>by
 unfold XZ at he;split at he
 . cases he;obtain⟨⟨h1,h2,h3,-⟩,hv⟩:=aF hv;rw[al]at h1 h2 h3;cases hv;exact IY h1 h2 h3
 grind
theorem Ue(hS:ak Tryz.prog cfg S):ak Tryz.prog cfg (aK S 47 YD):=au hS λargs t v he hv=>by
 unfold YD at he;split at he
 . cases he;obtain⟨⟨h1,h2,h3,-⟩,hv⟩:=aF hv;rw[al]at h1 h2 h3;cases hv;exact Jh h1 h2 h3
 grind
theorem aeN(hS:ak Tryz.prog cfg S):ak Tryz.prog cfg (aK S 46 tw):=au hS λargs t v he hv=>by
 unfold tw at he;split at he
 . cases he;obtain⟨⟨h1,h2,-⟩,hv⟩:=aF hv;rw[al]at h1;rw[aE]at h2;simp only[eH,eE]at h2;cases hv;exact IR (Nat.le_trans h1 ζ) h2
 grind
end Go.Ev
