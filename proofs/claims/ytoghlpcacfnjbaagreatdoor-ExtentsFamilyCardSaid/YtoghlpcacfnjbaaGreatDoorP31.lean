import Derived.Test.YtoghlpcacfnjbaaGreatDoorP30
import Derived.Test.YtoghlpcacfnjbaaGreatDoorP27
set_option linter.all false
set_option maxRecDepth 100000
set_option maxHeartbeats 4000000
namespace Go.Ev
open Go Go.Proofs
variable{y x e g b c d:Int}{ng lg:Bool}{s mo da:List UInt8}{S:aQ}
def yN(d0 d1:UInt8)(y:Int)(w:List AV):Nat->Nat
 | 0=>0
 | i+1=>yN d0 d1 y w i+(ki d0 d1 y (cS w i)).length
def yL(d0 d1:UInt8)(y:Int)(w:List AV):Nat->List AV
 | 0=>[]
 | i+1=>yL d0 d1 y w i++dU y (cS w i) (ki d0 d1 y (cS w i))
def Mw:dW:=λvs o=>match vs,o with
 | [.a .i64 y,.g 14 0,.f,.c 15 0 nM (.a 0),.a .i64 i],⟨2,[.a w true (some 1),.a [.b ng,.b lg,.d s,.a .i64 e,.a .i64 g,.d mo,.d [d0,d1],.a .u8 a,.a .u8 b,.a .u8 c] true none],[]⟩=>
   some (aH [aa i 0,Nat.ble nM 1000,lq y,cr d0,cr d1,iw w,List.all w (bC .i64),Nat.beq w.length nM] (.a0 (.b 0,[.a .i64 y,.g 14 0,e9 (yN d0 d1 y w nM),.c 15 0 nM (.a 0),.a .i64 (Int.ofNat nM)],g9 (yN d0 d1 y w nM) (yL d0 d1 y w nM) (.a w true (some 1)) (bB ng lg s e g mo [d0,d1] a b c))))
 | _,_=>none
def Yl:cx:=iz jE 0 (d9 55 [1,2,5,6,7] Mw)
theorem iZ:lq y=true↔-10000000000000000<=y/\y<=10000000000000000:=by unfold lq;rw[zAa,aq,aq]
theorem Qs:cu Tryz.prog (cH cfg Z1) (Cw cfg []) (lb 93 1) 55 [1,2,5,6,7,8] Lp:=by
 intro vs o t Q hv hq J;unfold Lp at hv;split at hv
 . rename_i y nM i d w ng lg s e g mo d0 d1 a b c;cases hv;replace hq:=cO hq;obtain⟨⟨k1,k2,k3,k4,k5,k6,k7,k8,k9,-⟩,hq⟩:=hq;rw[ao]at k1;rw[aq]at k2;rw[aU]at k3;rw[al]at k4;rw[iZ]at k5;subst k1;obtain⟨k,rfl⟩:∃k:Nat,i=Int.ofNat k:=⟨i.toNat,(Int.toNat_of_nonneg k2).symm⟩;exact LQ k5 k3 k4 k8 k9 hq
 . rename_i y n nM i d cs w ng lg s e g mo d0 d1 a b c;cases hv;replace hq:=cO hq;obtain⟨⟨k1,k2,k3,k4,k5,k6,k7,k8,k9,k10,k11,k12,k13,-⟩,hq⟩:=hq;rw[ao]at k1;rw[aq]at k2;rw[aU]at k3 k11;rw[al]at k4 k12;rw[aJ]at k10;rw[iZ]at k5;subst k1;obtain⟨k,rfl⟩:∃k:Nat,i=Int.ofNat k:=⟨i.toNat,(Int.toNat_of_nonneg k2).symm⟩;exact Ko k5 k3 k4 k8 k9 k10 k12 k13 hq
 . cases hv
theorem PF{d0 d1:UInt8}{y:Int}{w:List AV}:∀{i:Nat},yN d0 d1 y w i<=31*i
 | 0=>Nat.le_refl _
 | i+1=>by
   have:=PF (d0:=d0) (d1:=d1) (y:=y) (w:=w) (i:=i);have h1:=eV d0 d1 (bP y (cS w i)).toNat;have h2:=mr y (cS w i);rw[yN];unfold ki;omega
theorem MT{d0 d1:UInt8}{y:Int}{w:List AV}:∀{i:Nat},(yL d0 d1 y w i).length=yN d0 d1 y w i*3
 | 0=>rfl
 | i+1=>by rw[yL,yN,zAg,MT,sB];omega
theorem MM{d0 d1:UInt8}{y:Int}{w:List AV}:∀{i:Nat},bw (yL d0 d1 y w i)=[]
 | 0=>rfl
 | i+1=>by rw[yL,gC,MM,oK];rfl
theorem Rl:cu Tryz.prog (cH cfg Z1) (Cw cfg []) (lb 93 0) 55 [1,2,5,6,7] Mw:=by
 intro vs o t Q hv hq J;unfold Mw at hv;split at hv
 . rename_i y nM i w ng lg s e g mo d0 d1 a b c;cases hv;replace hq:=cO hq;obtain⟨⟨k1,k2,k3,k4,k5,k6,k7,k8,-⟩,hq⟩:=hq;rw[ao]at k1;rw[al]at k2;rw[iZ]at k3;rw[aJ]at k8;subst k1;have hq:Q (.b 0,[.a .i64 y,.g 14 0,e9 (yN d0 d1 y w nM),.c 15 0 nM (.a 0),.a .i64 (Int.ofNat nM)],g9 (yN d0 d1 y w nM) (yL d0 d1 y w nM) (.a w true (some 1)) (bB ng lg s e g mo [d0,d1] a b c)):=hq;have lok:qI Tryz.prog (cH cfg Z1) (Cw cfg []) W9 (lb 93 0):=by
    refine dv IT λi hi e he st Q hw=>?_;have hi:i=0:=by simp at hi;omega
    subst hi;cases he;rw[K2];exact bR (cC.a0 q_) (by decide) rfl Qs hw
   refine ia q_ rfl rfl lok (ι:={i:Nat // i<=nM}) (λx=>[.a .i64 y,.g 14 0,e9 (yN d0 d1 y w x.1),.c 15 0 nM (.a 0),.a .i64 (Int.ofNat x.1)]) (λx=>g9 (yN d0 d1 y w x.1) (yL d0 d1 y w x.1) (.a w true (some 1)) (bB ng lg s e g mo [d0,d1] a b c)) (λx=>nM-x.1) 2 (λx=>E9) (λx J=>?_) (Nat.le_refl _) (λJ=>Wk.a0 ⟨⟨0,Nat.zero_le _⟩,J,rfl⟩) J;obtain⟨i,hi⟩:=x;dsimp only;have wl:cR (14+2) (.a w true (some 1)):=aO (gj.1 k6);have bl:cR (14+2) (bB ng lg s e g mo [d0,d1] a b c):=aO (by simp[bw,aC]);have hkA:i<nM->bC .i64 (w.getD i (.e []))=true:=λh=>by
    rw[zAd,List.getElem?_eq_getElem (by omega)];exact List.all_eq_true.1 k7 _ (List.getElem_mem _)
   have fin:i=nM->∃vs2 o2,VW cfg (Cw cfg []) 2 55 [1,2,5,6,7] [.a .i64 y,.g 14 0,e9 (yN d0 d1 y w i),.c 15 0 nM (.a 0),.a .i64 (Int.ofNat i)] (g9 (yN d0 d1 y w i) (yL d0 d1 y w i) (.a w true (some 1)) (bB ng lg s e g mo [d0,d1] a b c)) vs2 o2/\Q (.b 0,vs2,o2):=λh=>by
    subst h;exact⟨_,_,VW.b0,hq⟩
   have go:i<nM->∀vs o,VW cfg (Cw cfg []) 2 55 [1,2,5,6,7] vs o [.a .i64 y,.g 14 0,e9 (yN d0 d1 y w (i+1)),.c 15 0 nM (.a 0),.a .i64 (Int.ofNat (i+1))] (g9 (yN d0 d1 y w (i+1)) (yL d0 d1 y w (i+1)) (.a w true (some 1)) (bB ng lg s e g mo [d0,d1] a b c))->∃x:{i:Nat // i<=nM},nM-x.1<nM-i/\VW cfg (Cw cfg []) 2 55 [1,2,5,6,7] vs o [.a .i64 y,.g 14 0,e9 (yN d0 d1 y w x.1),.c 15 0 nM (.a 0),.a .i64 (Int.ofNat x.1)] (g9 (yN d0 d1 y w x.1) (yL d0 d1 y w x.1) (.a w true (some 1)) (bB ng lg s e g mo [d0,d1] a b c)):=λhle vs o hv=>⟨⟨i+1,by omega⟩,by dsimp only;omega,hv⟩;have hle:=@PF d0 d1 y w i;have hlen:=@MT d0 d1 y w i;have hids:=@MM d0 d1 y w i;rw[yN,yL]at go;clear hq;by_cases hN:yN d0 d1 y w i=0
   . have hC:yL d0 d1 y w i=[]:=List.eq_nil_of_length_eq_zero (by rw[hlen,hN]);rw[hN,hC]at fin go ⊢;rw[Nat.zero_add,List.nil_append]at go;refine jJ (bE 11122422754) (R:=λQ=>(λ(N O:aD)(B C F:AV)(I:Bool)(A E:Int)=>(λ(G:AV)(P:Bool)(T:Int)(U:List Int)=>(λ(H:AV)(V:Nat)=>(P->aS i nM/\Nat.ble nM 1000/\and (ab (Neg.neg 10000000000000000) y) (ab y 10000000000000000)/\cr d0/\cr d1/\(I->iw w/\(∀J1:Nat->Value,af .i64 T/\Q (.a,[B,C,e9 V,F,H],Prod.snd (H,Prod.snd (H,Prod.snd (G,Prod.snd ([B,C,e9 V,F,G,.a .i64 (HAdd.hAdd (bP y E) 1)],g9 V (dU y E U) N O)))))))/\(I=false->False))/\(P=false->Q (.b 0,[B,C,.f,F,G],⟨2,[N,O],[]⟩))) (.a .i64 T) U.length) (.a .i64 A) (not (ab (Int.ofNat nM) A)) (Int.add A 1) (ki d0 d1 y E)) (.a w true (some 1)) (.a [.b ng,.b lg,.d s,.a .i64 e,.a .i64 g,.d mo,.d [d0,d1],.a .u8 a,.a .u8 b,.a .u8 c] true none) (.a .i64 y) (.g 14 0) (.c 15 0 nM (fg.a 0)) (bC .i64 (List.getD w i (.e []))) (Int.ofNat i) (cS w i)) (λ_=>by kernel_rfl) λQ' hQ=>?_;try dsimp only
     have fin2:i=nM->Q' (.b 0,[.a .i64 y,.g 14 0,.f,.c 15 0 nM (.a 0),.a .i64 (Int.ofNat i)],⟨2,[.a w true (some 1),bB ng lg s e g mo [d0,d1] a b c],[]⟩):=λh=>hQ _ (fin h);have go2:i<nM->Q' (.a,[.a .i64 y,.g 14 0,e9 (ki d0 d1 y (cS w i)).length,.c 15 0 nM (.a 0),.a .i64 (Int.ofNat (i+1))],g9 (ki d0 d1 y (cS w i)).length (dU y (cS w i) (ki d0 d1 y (cS w i))) (.a w true (some 1)) (bB ng lg s e g mo [d0,d1] a b c)):=λh=>hQ (.a,_,_) (go h _ _ VW.b0);clear hQ go fin;generalize ki d0 d1 y (cS w i)=D at *;generalize cS w i=m at *;simp only[az,reduceCtorEq]
     (repeat' first|exact trivial|refine⟨?_,?_⟩|intro)<;>first|contradiction|omega|assumption|exact fin2 (by omega)|exact go2 (by omega)|exact hkA (by omega)|(exfalso;have:=hkA (by omega);simp_all;done)
   . have hpos:0<yN d0 d1 y w i:=by omega
     rw[fZ hpos,gd hpos]at fin;rw[fZ hpos,gd hpos];refine jJ (bE 11177422754) (R:=λQ=>(λ(N O:aD)(B C F:AV)(I:Bool)(A E:Int)=>(λ(G:AV)(P:Bool)(T:Int)(U:List Int)=>(λ(H:AV)(V:Nat)=>(P->aS i nM/\Nat.ble nM 1000/\and (ab (Neg.neg 10000000000000000) y) (ab y 10000000000000000)/\cr d0/\cr d1/\(I->iw w/\Nat.beq (yL d0 d1 y w i).length (HMul.hMul (yN d0 d1 y w i) 3)/\aS 0 (yN d0 d1 y w i)/\Nat.ble (yN d0 d1 y w i) 40000/\iw (yL d0 d1 y w i)/\(∀J1:Nat->Value,af .i64 T/\Q (.a,[B,C,zH (yN d0 d1 y w i) V,F,H],Prod.snd (H,Prod.snd (H,Prod.snd (G,Prod.snd ([B,C,zH (yN d0 d1 y w i) V,F,G,.a .i64 (HAdd.hAdd (bP y E) 1)],zL V (yL d0 d1 y w i) ((yL d0 d1 y w i)++(dU y E U)) N O)))))))/\(I=false->False))/\(P=false->Q (.b 0,[B,C,.c 16 0 (yN d0 d1 y w i) (fg.a 0),F,G],⟨3,[.a (yL d0 d1 y w i) true (some 3),N,O],[]⟩))) (.a .i64 T) U.length) (.a .i64 A) (not (ab (Int.ofNat nM) A)) (Int.add A 1) (ki d0 d1 y E)) (.a w true (some 1)) (.a [.b ng,.b lg,.d s,.a .i64 e,.a .i64 g,.d mo,.d [d0,d1],.a .u8 a,.a .u8 b,.a .u8 c] true none) (.a .i64 y) (.g 14 0) (.c 15 0 nM (fg.a 0)) (bC .i64 (List.getD w i (.e []))) (Int.ofNat i) (cS w i)) (λ_=>by kernel_rfl) λQ' hQ=>?_;try dsimp only
     have fin2:i=nM->Q' (.b 0,[.a .i64 y,.g 14 0,.c 16 0 (yN d0 d1 y w i) (.a 0),.c 15 0 nM (.a 0),.a .i64 (Int.ofNat i)],⟨3,[.a (yL d0 d1 y w i) true (some 3),.a w true (some 1),bB ng lg s e g mo [d0,d1] a b c],[]⟩):=λh=>hQ _ (fin h);have go2:i<nM->Q' (.a,[.a .i64 y,.g 14 0,zH (yN d0 d1 y w i) (ki d0 d1 y (cS w i)).length,.c 15 0 nM (.a 0),.a .i64 (Int.ofNat (i+1))],zL (ki d0 d1 y (cS w i)).length (yL d0 d1 y w i) (yL d0 d1 y w i++dU y (cS w i) (ki d0 d1 y (cS w i))) (.a w true (some 1)) (bB ng lg s e g mo [d0,d1] a b c)):=λh=>hQ (.a,_,_) (go h _ _ (by
      have hti:=@oK y (cS w i) (ki d0 d1 y (cS w i));generalize ki d0 d1 y (cS w i)=D at *;generalize yL d0 d1 y w i=C at *;generalize yN d0 d1 y w i=N at *;cases D with
      | nil=>
        simp only[List.length_nil,Nat.add_zero,dU,List.append_nil];rw[fZ hpos,gd hpos];exact VW.b0
      | cons z zs=>
        have hp2:0<N+(z::zs).length:=by omega
        rw[fZ hp2,gd hp2];exact fx (tn:=55) (rel:=[1,2,5,6,7]) (vs:=[.a .i64 y,.g 14 0,.c 17 0 (N+(z::zs).length) (.a 0),.c 15 0 nM (.a 0),.a .i64 (Int.ofNat (i+1))]) (vs':=[.a .i64 y,.g 14 0,.c 16 0 (N+(z::zs).length) (.a 0),.c 15 0 nM (.a 0),.a .i64 (Int.ofNat (i+1))]) (x:=.a (C++dU y (cS w i) (z::zs)) true (some 3)) (mid:=[.b]) (B:=[.a w true (some 1),bB ng lg s e g mo [d0,d1] a b c]) (k:=1) (kb:=2) (n:=4) rfl rfl rfl (λz hz=>by
         simp only[List.mem_cons,List.not_mem_nil,or_false]at hz;rcases hz with rfl|rfl
         . exact wl
         . exact bl) (aO (by rw[gC,hids,hti];rfl)) rfl))
     clear hQ go fin;have hids2:=gj.2 hids;clear hids;generalize ki d0 d1 y (cS w i)=D at *;generalize cS w i=m at *;generalize yL d0 d1 y w i=C at *;generalize yN d0 d1 y w i=N at *;simp only[az,reduceCtorEq]
     (repeat' first|exact trivial|refine⟨?_,?_⟩|intro)<;>first|contradiction|omega|assumption|exact fin2 (by omega)|exact go2 (by omega)|exact hkA (by omega)|(exfalso;have:=hkA (by omega);simp_all;done)
 . cases hv
theorem yY{M:List Int}:iw (aI M)=true:=by
 rw[gj];unfold aI;induction M with
 | nil=>rfl
 | cons x xs ih=>simp only[List.map_cons,bw,aC,List.nil_append];exact ih
theorem OD{ng lg:Bool}{s:List UInt8}{e g:Int}{m0 m1 d0 d1:UInt8}{a b c y:Int}{v:AV}{news:List aD}(hy : -10000000000000000<=y/\y<=10000000000000000)(h0:cr m0)(h1:cr m1)(h2:cr d0)(h3:cr d1)(hse:aa (aR [m0,m1]) 0)(hn:gU (ay m0 m1 12)=false)
 (hv:dL [] v news (e9 (yN d0 d1 y (aI (ay m0 m1 12)) (dG (ay m0 m1 12))),g9 (yN d0 d1 y (aI (ay m0 m1 12)) (dG (ay m0 m1 12))) (yL d0 d1 y (aI (ay m0 m1 12)) (dG (ay m0 m1 12))) (.a (aI (ay m0 m1 12)) true (some 1)) (bB ng lg s e g [m0,m1] [d0,d1] a b c))) :
 bu Tryz.prog cfg 93 [.h [.b ng,.b lg,.d s,.a .i64 e,.a .i64 g,.d [m0,m1],.d [d0,d1],.a .u8 a,.a .u8 b,.a .u8 c],.a .i64 y] [] v news:=by
 refine Bu q_ (L:=Yl) Hm (by simp) (dv DE λi hi e he st Q hw=>?_) (jJ (bE 1111144474027006) (R:=λQ=>(λ(C:List Int)=>(λ(B:List AV)(A:Nat)=>(λ(E F:Bool)(G:Nat)=>cr m0/\cr m1/\aa (aR [m0,m1]) 0/\not (gU C)/\(E->and (ab (Neg.neg 10000000000000000) y) (ab y 10000000000000000)/\cr d0/\cr d1/\(iw B->(List.all B (bC .i64)->(F->(∀J1:Nat->Value,Q (Prod.fst (Prod.fst (e9 G,Prod.snd ([.a .i64 y,.g 14 0,e9 G,.c 15 0 A (fg.a 0),.a .i64 (Int.ofNat A)],g9 G (yL d0 d1 y B A) (.a B true (some 1)) (.a [.b ng,.b lg,.d s,.a .i64 e,.a .i64 g,.d [m0,m1],.d [d0,d1],.a .u8 a,.a .u8 b,.a .u8 c] true none))),Prod.snd (e9 G,Prod.snd ([.a .i64 y,.g 14 0,e9 G,.c 15 0 A (fg.a 0),.a .i64 (Int.ofNat A)],g9 G (yL d0 d1 y B A) (.a B true (some 1)) (.a [.b ng,.b lg,.d s,.a .i64 e,.a .i64 g,.d [m0,m1],.d [d0,d1],.a .u8 a,.a .u8 b,.a .u8 c] true none)))),Prod.snd (Prod.fst (e9 G,Prod.snd ([.a .i64 y,.g 14 0,e9 G,.c 15 0 A (fg.a 0),.a .i64 (Int.ofNat A)],g9 G (yL d0 d1 y B A) (.a B true (some 1)) (.a [.b ng,.b lg,.d s,.a .i64 e,.a .i64 g,.d [m0,m1],.d [d0,d1],.a .u8 a,.a .u8 b,.a .u8 c] true none))),Prod.snd (e9 G,Prod.snd ([.a .i64 y,.g 14 0,e9 G,.c 15 0 A (fg.a 0),.a .i64 (Int.ofNat A)],g9 G (yL d0 d1 y B A) (.a B true (some 1)) (.a [.b ng,.b lg,.d s,.a .i64 e,.a .i64 g,.d [m0,m1],.d [d0,d1],.a .u8 a,.a .u8 b,.a .u8 c] true none)))))))/\(F=false->False))/\(List.all B (bC .i64)=false->False))/\(iw B=false->False))/\(E=false->False)) (Nat.ble A 1000) (Nat.beq B.length A) (yN d0 d1 y B A)) (aI C) (dG C)) (ay m0 m1 12)) (λ_=>by kernel_rfl) λQ' hQ=>?_)
 . have hi:i=0\/i=1:=by simp at hi;omega
   rcases hi with rfl|rfl
   . cases he;exact bR (cC.a0 q_) (by decide) rfl Rl hw
   . cases he
 . have hQ:=hQ _ hv;dsimp only;have l1:dG (ay m0 m1 12)=(ay m0 m1 12).length:=rfl;have z1:=eV m0 m1 12;have c1:=@yY (ay m0 m1 12);have c2:=@ow (ay m0 m1 12);have c3:(aI (ay m0 m1 12)).length=dG (ay m0 m1 12):=cY;have z2:dG (ay m0 m1 12)<=1000:=by omega
   have n2:(!(gU (ay m0 m1 12)))=true:=by rw[hn];rfl
   have yb:=iZ.2 hy;clear hv hn l1 z1;generalize aR [m0,m1]=sr at *;generalize ay m0 m1 12=M at *;generalize yL d0 d1 y (aI M) (dG M)=C at *;generalize yN d0 d1 y (aI M) (dG M)=N at *;generalize e9 N=oN at *;generalize aI M=cM at *;generalize dG M=lM at *;refine⟨h0,h1,hse,n2,λ_=>⟨yb,h2,h3,λ_=>⟨λ_=>⟨λ_=>λJ1=>hQ,λh=>?_⟩,λh=>?_⟩,λh=>?_⟩,λh=>?_⟩
   . rw[b9]at h;exact h c3
   . rw[c2]at h;cases h
   . rw[c1]at h;cases h
   . rw[<-Bool.not_eq_true,al]at h;exact h z2
theorem G7{c0 c1 c2 c3:UInt8}(hx:48<=x/\x<=57)(h0:cr c0)(h1:cr c1)(h2:cr c2)(h3:cr c3):0<=gu c0 c1 c2 c3 x/\gu c0 c1 c2 c3 x<=9999:=by
 have d:∀c:UInt8,cr c->0<=lL c x/\lL c x<=9:=λc h=>by
  rw[dD]at h;unfold lL;by_cases e:c.toNat=88
  . rw[gm e,cond_true];omega
  . rw[ic e,cond_false];omega
 have:=d c0 h0;have:=d c1 h1;have:=d c2 h2;have:=d c3 h3;unfold gu;omega
theorem Bf(ho:aV ng lg s e g)(hX:lP s) : -10000000000000000<=jR ng s e/\s5 ng s e<=10000000000000000:=by
 unfold jR s5;cases hx:Nat.beq (aY s 88 88) 0 with
 | true=>
   rw[aJ]at hx;have:=DP ho hx;rw[cond_true,cond_true];exact⟨this.1,this.2⟩
 | false=>
   rw[cond_false,cond_false];obtain⟨c0,c1,c2,c3,rfl,h0,h1,h2,h3⟩:=sV hX hx;have a:=G7 (x:=48) (by decide) h0 h1 h2 h3;have b:=G7 (x:=57) (by decide) h0 h1 h2 h3;have l:0<=nT c1 c2 c3/\nT c1 c2 c3<=1000:=by
    unfold nT;cases Nat.beq c3.toNat 88<;>cases Nat.beq c2.toNat 88<;>cases Nat.beq c1.toNat 88<;>decide
   unfold Fd;cases ng with
   | true=>
     simp only[cond_true,Bool.true_and];cases aa (gu c0 c1 c2 c3 48) 0<;>simp only[zAj]<;>omega
   | false=>
     simp only[cond_false,Bool.false_and];omega
theorem y4{k:Int}:mP ng s e k=true↔mK ng s e k:=by
 unfold mP mK;cases Nat.beq (aY s 88 88) 0 with
 | true=>rw[cond_true,cond_true,ao]
 | false=>
   rw[cond_false,cond_false];split
   . rename_i c0 c1 c2 c3;cases ng with
     | true=>exact(by rw[zAa,aq,zAb]:(ab 1 (-k)&&decide (nS c0 c1 c2 c3 (-k)))=true↔1<=-k/\nS c0 c1 c2 c3 (-k))
     | false=>exact(by rw[zAb]:decide (nS c0 c1 c2 c3 k)=true↔nS c0 c1 c2 c3 k)
   . rename_i hne;refine⟨λh=>(by cases h),λh=>?_⟩;split at h
     . exact absurd rfl (hne _ _ _ _)
     . cases h
def bo(s:List UInt8):Bool:=!(Nat.beq (aY s 88 88) 0)
def Wa:dP:=λargs=>match args with
 | [.d s,.d t]=>some (aH [ae t [88],Nat.ble s.length 1000000] (.a0 (.b (bo s))))
 | _=>none
def XZ:dP:=λargs=>match args with
 | [.h [.b ng,.b lg,.d s,.a .i64 e,.a .i64 g,.d mo,.d da,.a .u8 a,.a .u8 b,.a .u8 c]]=>some (aH [Nat.ble s.length 1000,Nat.ble mo.length 1000,Nat.ble da.length 1000] (.a0 (.b (bo (s++mo++da)))))
 | _=>none
def YD:dP:=λargs=>match args with
 | [.h [.b ng,.b lg,.d s,.a .i64 e,.a .i64 g,.d mo,.d da,.a .u8 a,.a .u8 b,.a .u8 c]]=>some (aH [Nat.ble s.length 1000,Nat.ble mo.length 1000,Nat.ble da.length 1000] (.a0 (.a .i64 (bI (bo (s++mo++da))))))
 | _=>none
def Sa:dW:=λvs o=>match vs,o with
 | [.g 14 0,.a .i64 z,.d t,.a .i64 i],⟨1,[.a [.b ng,.b lg,.d s,.a .i64 e,.a .i64 g,.d mo,.d da,.a .u8 a,.a .u8 b,.a .u8 c] true none],[]⟩=>
   some (aH [aa z 0,aa i 0,Nat.ble t.length 1000000] (.d0 (bo t) λx=>bif x then .f0 λJ=>.a0 (.c,[.g 14 0,.a .i64 1,.d t,.i (J 0)],o)else .a0 (.b 0,[.g 14 0,.a .i64 0,.d t,.a .i64 (Int.ofNat t.length)],o)))
 | _,_=>none
def ZU:cx:=iz jE 0 (d9 28 [1,2,3,4] Sa)
def VF:dP:=λargs=>match args with
 | [.h [.b ng,.b lg,.d s,.a .i64 e,.a .i64 g,.d mo,.d da,.a .u8 a,.a .u8 b,.a .u8 c]]=>some (aH [aa g 0,Nat.ble s.length 1000,Nat.ble mo.length 1000,Nat.ble da.length 1000] (.a0 (.a .i64 (bI (bo (s++mo++da))))))
 | _=>none
def X1:aQ:=bb gZ 84 Wa
def X2:aQ:=bb gZ 39 VF
def O4:bj tab 84=some (dH 84,aL 84):=by kernel_rfl
def NT:bj tab 39=some (dH 39,aL 39):=by kernel_rfl
def KB:(bz (aL 39)).map (·.1)=[0]:=by kernel_rfl
theorem XF{t:List UInt8}(ht:ae t [88]):bu Tryz.prog cfg 84 [.d s,.d t] [] (.b (bo s)) []:=by
 rw[bV,beq_iff_eq]at ht;subst ht;refine dy O4 (by simp[aC]) λm w hG=>?_;have:=Go.Proofs.YtoghlpcacfnjbaaGreatDoor.Contains_X ⟨⟨s⟩⟩ w;have e:Go.Proofs.YtoghlpcacfnjbaaGreatDoor.hasX s=bo s:=by
  unfold bo;rw[Bool.eq_iff_iff,Ed,Bool.not_eq_true',b9]
 have h2:Calls Tryz.prog 84 (ap m [.d s,.d [88]]).toArray w λe w'=>e=.returned (.bool (Go.Proofs.YtoghlpcacfnjbaaGreatDoor.hasX s))/\w=w':=by simpa [ap,aj]using this
 rw[e]at h2;refine h2.mono ?_;rintro e w' ⟨he,rfl⟩;exact⟨by simpa [aj]using he,Go.RowKit.Below.refl _ _⟩
theorem Uy:ak Tryz.prog cfg X1:=au aW λargs t v he hv=>by
 unfold Wa at he;split at he
 . cases he;obtain⟨⟨h1,h2,-⟩,hv⟩:=aF hv;cases hv;exact XF h1
 . cases he
theorem f60{a:Int}(hs:s.length<=1000)(hm:mo.length<=1000)(hd:da.length<=1000) :
 bu Tryz.prog cfg 48 [.h [.b ng,.b lg,.d s,.a .i64 e,.a .i64 g,.d mo,.d da,.a .u8 a,.a .u8 b,.a .u8 c]] [] (.b (bo (s++mo++da))) []:=by
 refine nF Uy ai (bE 11140040200) (R:=λQ=>(λ(A:List UInt8)=>(λ(B:Bool)(C:List UInt8)=>(λ(E:Bool)=>Nat.ble (HAdd.hAdd s.length mo.length) 1000000/\(B->(E->Q (.b (bo C)))/\(E=false->False))/\(B=false->False)) (Nat.ble C.length 1000000)) (Nat.ble (HAdd.hAdd A.length da.length) 1000000) (A++da)) (s++mo)) (λ_=>by kernel_rfl) λQ' hQ=>?_;try dsimp only
 have l1:(s++mo).length=s.length+mo.length:=List.length_append;have l2:(s++mo++da).length=s.length+mo.length+da.length:=by rw[zAg,l1]
 simp only[az,reduceCtorEq]
 (repeat' first|exact trivial|refine⟨?_,?_⟩|intro)<;>first|contradiction|omega|assumption|(simp only[l1,l2];omega)|(exfalso;simp_all;omega)
theorem HQ{t:List UInt8}{i:Nat}(h:∀k,k<i->(t.getD k 0).toNat≠88)(hi:t.length<=i):bo t=false:=by
 unfold bo;rw[Bool.not_eq_false',aJ];unfold aY;rw[List.length_eq_zero_iff,List.filter_eq_nil_iff];intro x hx;obtain⟨k,hk,rfl⟩:=List.getElem_of_mem hx;have:=h k (by omega);rw[zAd,List.getElem?_eq_getElem hk]at this;simp only[Option.getD_some]at this;simp;omega
theorem O8{t:List UInt8}{i:Nat}(hi:i<t.length)(h:(t.getD i 0).toNat=88):bo t=true:=by
 unfold bo;rw[Bool.not_eq_true',b9];intro hn;unfold aY at hn;rw[List.length_eq_zero_iff,List.filter_eq_nil_iff]at hn;have:=hn _ (List.getElem_mem hi);rw[zAd,List.getElem?_eq_getElem hi]at h;simp only[Option.getD_some]at h;apply this;simp[h]
theorem TV:cu Tryz.prog (cH cfg gZ) (Cw cfg []) (lb 39 0) 28 [1,2,3,4] Sa:=by
 intro vs o t Q hv hq J;unfold Sa at hv;split at hv
 . rename_i z t i ng lg s e g mo da a b c;cases hv;replace hq:=cO hq;obtain⟨⟨k1,k2,k3,-⟩,hq⟩:=hq;rw[ao]at k1 k2;rw[al]at k3;subst k1 k2;simp only[aH,Tr.wp]at hq;refine ia aW rfl rfl ai (ι:={i:Nat // i<=t.length/\∀k,k<i->(t.getD k 0).toNat≠88}) (λx=>[.g 14 0,.a .i64 0,.d t,.a .i64 (Int.ofNat x.1)]) (λ_=>⟨1,[bB ng lg s e g mo da a b c],[]⟩) (λx=>t.length-x.1) 1 (λ_=>Nat.le_refl _) (λx J=>?_) (Nat.le_refl _) (λJ=>Wk.a0 ⟨⟨0,Nat.zero_le _,λk hk=>absurd hk (Nat.not_lt_zero k)⟩,J,rfl⟩) J;obtain⟨i,hi,hz⟩:=x;dsimp only;refine jJ (bE 11214204) (R:=λQ=>(λ(B C G:AV)(F:Bool)(A:Int)(E:Nat)=>(λ(I:AV)(H:Bool)(N:Int)=>(H->aS i E/\(F->Q (.c,[B,.a .i64 1,C,I],⟨1,[.a [.b ng,.b lg,.d s,.a .i64 e,.a .i64 g,.d mo,.d da,.a .u8 a,.a .u8 b,.a .u8 c] true none],[]⟩))/\(F=false->af .i64 N/\Q (.a,[B,G,C,.a .i64 N],⟨1,[.a [.b ng,.b lg,.d s,.a .i64 e,.a .i64 g,.d mo,.d da,.a .u8 a,.a .u8 b,.a .u8 c] true none],[]⟩)))/\(H=false->Q (.b 0,[B,G,C,I],⟨1,[.a [.b ng,.b lg,.d s,.a .i64 e,.a .i64 g,.d mo,.d da,.a .u8 a,.a .u8 b,.a .u8 c] true none],[]⟩))) (.a .i64 A) (not (ab (Int.ofNat E) A)) (Int.add A 1)) (.g 14 0) (.d t) (.a .i64 0) (aa (Int.ofNat (UInt8.toNat (List.getD t i (UInt8.ofNat 0)))) 88) (Int.ofNat i) t.length) (λ_=>by kernel_rfl) λQ' hQ=>?_;try dsimp only
   have ret:i<t.length->(t.getD i 0).toNat=88->Q' (.c,[.g 14 0,.a .i64 1,.d t,.a .i64 (Int.ofNat i)],⟨1,[bB ng lg s e g mo da a b c],[]⟩):=λh1 h2=>hQ _ ⟨_,_,VW.c0 (.same (.same (.same (.int .nil)))) rfl,by
    rw[O8 h1 h2]at hq;exact hq (jv [_])⟩
   have fin:i=t.length->Q' (.b 0,[.g 14 0,.a .i64 0,.d t,.a .i64 (Int.ofNat i)],⟨1,[bB ng lg s e g mo da a b c],[]⟩):=λh=>hQ _ ⟨_,_,VW.b0,by
    rw[HQ hz (by omega)]at hq;subst h;exact hq⟩
   have go:i<t.length->(t.getD i 0).toNat≠88->Q' (.a,[.g 14 0,.a .i64 0,.d t,.a .i64 (Int.ofNat (i+1))],⟨1,[bB ng lg s e g mo da a b c],[]⟩):=λh1 h2=>hQ _ ⟨⟨i+1,by omega,λk hk=>by
    by_cases e:k=i
    . subst e;exact h2
    . exact hz k (by omega)⟩,by dsimp only;omega,VW.a0 rfl rfl⟩
   clear hQ hq hz;rw[show(UInt8.ofNat 0)=(0:UInt8)from rfl];generalize (t.getD i 0).toNat=cn at *;simp only[az,reduceCtorEq]
   (repeat' first|exact trivial|refine⟨?_,?_⟩|intro)<;>first|contradiction|omega|assumption|(apply fin;omega)|(apply go<;>omega)|(apply ret<;>omega)|(exfalso;simp_all;done)
 . cases hv
theorem JV{a:Int}(hs:s.length<=1000)(hm:mo.length<=1000)(hd:da.length<=1000) :
 bu Tryz.prog cfg 39 [.h [.b ng,.b lg,.d s,.a .i64 e,.a .i64 0,.d mo,.d da,.a .u8 a,.a .u8 b,.a .u8 c]] [] (.a .i64 (bI (bo (s++mo++da)))) []:=by
 refine kV aW (L:=ZU) NT (by simp) (dv KB λi hi e he st Q hw=>?_) (jJ (bE 111001440040200) (R:=λQ=>(λ(A:List UInt8)=>(λ(B:Bool)(C:List UInt8)=>(λ(E:Bool)=>Nat.ble (HAdd.hAdd s.length mo.length) 1000000/\(B->(E->(bo C->(∀J1 J2:Nat->Value,Q (.a .i64 1)))/\(bo C=false->(∀J1:Nat->Value,Q (.a .i64 0))))/\(E=false->False))/\(B=false->False)) (Nat.ble C.length 1000000)) (Nat.ble (HAdd.hAdd A.length da.length) 1000000) (A++da)) (s++mo)) (λ_=>by kernel_rfl) λQ' hQ=>?_) (by simp[aC])
 . have hi:i=0:=by simp at hi;omega
   subst hi;cases he;exact bR (cC.a0 aW) (by decide) rfl TV hw
 . have l1:(s++mo).length=s.length+mo.length:=List.length_append;have l2:(s++mo++da).length=s.length+mo.length+da.length:=by rw[zAg,l1]
   have y1:bo (s++mo++da)->Q' (.a .i64 1):=λh=>hQ _ (by rw[h];rfl);have y0:bo (s++mo++da)=false->Q' (.a .i64 0):=λh=>hQ _ (by rw[h];rfl);clear hQ;simp only[az,reduceCtorEq]
   (repeat' first|exact trivial|refine⟨?_,?_⟩|intro)<;>first|contradiction|omega|assumption|(apply y1;assumption)|(apply y0;assumption)|(simp only[l1,l2];omega)|(exfalso;simp_all;omega)
theorem VL:ak Tryz.prog cfg X2:=au aW λargs t v he hv=>by
 unfold VF at he;split at he
 . cases he;obtain⟨⟨h1,h2,h3,h4,-⟩,hv⟩:=aF hv;rw[ao]at h1;rw[al]at h2 h3 h4;cases hv;subst h1;exact JV h2 h3 h4
 . cases he
theorem f63{a:Int}(hs:s.length<=1000)(hm:mo.length<=1000)(hd:da.length<=1000) :
 bu Tryz.prog cfg 15 [.h [.b ng,.b lg,.d s,.a .i64 e,.a .i64 g,.d mo,.d da,.a .u8 a,.a .u8 b,.a .u8 c]] [] (.a .i64 (bI (bo (s++mo++da)))) []:=by
 refine nF VL ai (bE 1756) (R:=λQ=>Nat.ble s.length 1000/\Nat.ble mo.length 1000/\Nat.ble da.length 1000/\Q (.a .i64 (cond (bo ((s++mo)++da)) 1 0))) (λ_=>by kernel_rfl) λQ' hQ=>?_;simp only[az,reduceCtorEq]
 (repeat' first|exact trivial|refine⟨?_,?_⟩|intro)<;>first|contradiction|omega|assumption
theorem TX(hS:ak Tryz.prog cfg S):ak Tryz.prog cfg (bb S 48 XZ):=au hS λargs t v he hv=>by
 unfold XZ at he;split at he
 . cases he;obtain⟨⟨h1,h2,h3,-⟩,hv⟩:=aF hv;rw[al]at h1 h2 h3;cases hv;exact f60 h1 h2 h3
 . cases he
theorem Ue(hS:ak Tryz.prog cfg S):ak Tryz.prog cfg (bb S 15 YD):=au hS λargs t v he hv=>by
 unfold YD at he;split at he
 . cases he;obtain⟨⟨h1,h2,h3,-⟩,hv⟩:=aF hv;rw[al]at h1 h2 h3;cases hv;exact f63 h1 h2 h3
 . cases he
def F1:aQ:=bb (pX gZ 45 Pm) 65 Sf
def dN(a b c d p:Int):Bool:=!(!(aa a 0)&&!(aa c 0))&&(aa (bA a b c d) 0&&((!(aa a 0) || (lT b p&&aa (CK b p) b))&&(!(aa c 0) || (lT d p&&aa (PU d p) d))))
def YH:dP:=λargs=>match args with
 | [.h [.a .i8 a,.a .i64 b,.a .i8 c,.a .i64 d],.a .u8 p]=>some (aH [af .i8 a,af .i64 b,af .i8 c,af .i64 d,ab 1 p,ab p 3] (.a0 (.b (dN a b c d p))))
 | _=>none
theorem UK:ak Tryz.prog cfg F1:=RG (eG aW Es)
theorem f61{a p:Int}(ha : -128<=a/\a<=127)(hb : -9223372036854775808<=b/\b<=9223372036854775807)(hc : -128<=c/\c<=127)(hd : -9223372036854775808<=d/\d<=9223372036854775807)(hp:1<=p/\p<=3):bu Tryz.prog cfg 49 [kw a b c d,.a .u8 p] [] (.b (dN a b c d p)) []:=by
 refine nF UK ai (bE 155115511400642200401400642200201455381023315511400642200203014322542202240) (R:=λQ=>(λ(E G N O P U:Bool)(A T:Prop)=>(λ(B H:Bool)(V W:Prop)=>(λ(F:Bool)(C:Prop)=>(λ(I:Prop)=>(B->B/\B/\B/\B/\(F->F/\F/\H=false/\(N->A)/\(V->G=false/\E/\W))/\(I->I/\I/\H/\A))/\(C->C/\C/\C/\C/\(N->A)/\(V->G/\af .i64 b/\O/\(lT b p->(U->A)/\(U=false->(E->W)/\(E=false->T)))/\(lT b p=false->A)))) (F=false)) (not H) (B=false)) (not G) (not E) (N=false) (af .i64 d/\O/\(lT d p->(P->A)/\(P=false->T))/\(lT d p=false->A))) (aa c 0) (aa a 0) (not (aa (bA a b c d) 0)) (and (ab 1 p) (ab p 3)) (not (and (aa 0 c) (and (aa (PU d p) d) true))) (not (and (aa 0 a) (and (aa (CK b p) b) true))) (Q (.b false)) (Q (.b true))) (λ_=>by kernel_rfl) λQ' hQ=>?_;try dsimp only
 unfold dN at hQ;generalize bA a b c d=r at *;generalize lT b p=o1 at *;generalize lT d p=o2 at *;generalize CK b p=l1 at *;generalize PU d p=l2 at *;have iff:(!(!(aa a 0)&&!(aa c 0))&&(aa r 0&&((!(aa a 0) || (o1&&aa l1 b))&&(!(aa c 0) || (o2&&aa l2 d)))))=true↔(a=0\/c=0)/\r=0/\(a=0->o1/\l1=b)/\(c=0->o2/\l2=d):=by
  simp only[zAa,Bool.or_eq_true,Bool.not_eq_true',Bool.and_eq_false_iff,Bool.not_eq_false',ao,aw];grind
 have yes:((a=0\/c=0)/\r=0/\(a=0->o1/\l1=b)/\(c=0->o2/\l2=d))->Q' (.b true):=λh=>by rw[iff.2 h]at hQ;exact hQ
 have no:¬((a=0\/c=0)/\r=0/\(a=0->o1/\l1=b)/\(c=0->o2/\l2=d))->Q' (.b false):=λh=>by rw[<-iff,Bool.not_eq_true]at h;rw[h]at hQ;exact hQ
 clear hQ iff;simp only[az,reduceCtorEq]
 (repeat' first|exact trivial|refine⟨?_,?_⟩|intro)<;>first|contradiction|omega|assumption|(apply yes;grind)|(apply no;grind)|grind
theorem Vn(hS:ak Tryz.prog cfg S):ak Tryz.prog cfg (bb S 49 YH):=au hS λargs t v he hv=>by
 unfold YH at he;split at he
 . cases he;obtain⟨⟨h1,h2,h3,h4,h5,h6,-⟩,hv⟩:=aF hv;rw[aE]at h1 h2 h3 h4;simp only[eH,eE]at h1 h2 h3 h4;rw[aq]at h5 h6;cases hv;exact f61 h1 h2 h3 h4 ⟨h5,h6⟩
 . cases he
def mZ(x y z:Int):Bool:=Bool.and (aa x 0) (Bool.and (aa y 0) (Bool.and (aa z 0) Bool.true))
def dZ(ng lg:Bool)(s:List UInt8)(e g:Int)(mo da:List UInt8)(x y z:Int):Bool:=Bool.and (Bool.and (bQ ng Bool.false) (Bool.and (bQ lg Bool.false) (Bool.and (ae s List.nil) (Bool.and (aa e 0) (Bool.and (aa g 0) Bool.true))))) (Bool.and (ae mo List.nil) (Bool.and (ae da List.nil) (Bool.and (Bool.and (aa x 0) (Bool.and (aa y 0) (Bool.and (aa z 0) Bool.true))) Bool.true)))
def sZ(a b c d:Int):Bool:=Bool.and (Bool.and (aa a 0) (Bool.and (aa b 0) Bool.true)) (Bool.and (Bool.and (aa c 0) (Bool.and (aa d 0) Bool.true)) Bool.true)
def dr(k:Int)(n:Nat)(ch:Int)(dz:Bool)(p:Int)(sz:Bool)(ef g:Int)(xb mz ft:Bool)(rk a c:Int):Int:=
 if k<1\/5<k then 18 else
 if k=1 then(if dz/\p=0/\sz=true then(if n=0 then 17 else ch)else 5)else
 if k=2 then(if n=0/\p=0/\sz=true then(if ef=0 then(if g=0/\xb/\mz=true then 0 else 1)else ef)else 5)else
 if k=3 then(if n=0/\dz=true then(if 1<=p/\p<=3 then(if ft=true then 0 else 1)else 18)else 5)else
 if n=0/\dz/\p=0 then(if rk=0/\(k=4/\a = -1/\c=0\/k=5/\a=0/\c=1)then 0 else 1)else 5
theorem p4{z:Int}:Bool.and (Bool.and (bQ ng Bool.false) (Bool.and (bQ lg Bool.false) (Bool.and (ae s List.nil) (Bool.and (aa e 0) (Bool.and (aa g 0) Bool.true))))) (Bool.and (ae mo List.nil) (Bool.and (ae da List.nil) (Bool.and (Bool.and (aa x 0) (Bool.and (aa y 0) (Bool.and (aa z 0) Bool.true))) Bool.true)))=dZ ng lg s e g mo da x y z:=rfl
theorem p7{a:Int}:Bool.and (Bool.and (aa a 0) (Bool.and (aa b 0) Bool.true)) (Bool.and (Bool.and (aa c 0) (Bool.and (aa d 0) Bool.true)) Bool.true)=sZ a b c d:=rfl
theorem qm{z:Int}:Bool.and (aa x 0) (Bool.and (aa y 0) (Bool.and (aa z 0) Bool.true))=mZ x y z:=rfl
def Nx(R:List Rn):Prop:=∀i,i<R.length->IJ (R.getD i fo).b/\IJ (R.getD i fo).d
theorem kz:∀{R:List Rn},(bh R).length=R.length*4
 | []=>rfl
 | r::rs=>by simp only[bh,zAf,kz (R:=rs)];omega
theorem iJ:∀{R:List Rn},g8 (bh R)=R
 | []=>rfl
 | r::rs=>by simp only[bh,g8,iJ (R:=rs)]
theorem pD:∀{R:List Rn},Nx R->eJ (bh R)=true
 | [],_=>rfl
 | r::rs,h=>by
   have h0:=h 0 (Nat.succ_pos _);have h0:IJ r.b/\IJ r.d:=h0;unfold IJ at h0;simp only[bh,eJ,zAa,aE,eH,eE];exact⟨h0.1,h0.2,pD λi hi=>h (i+1) (by simpa using hi)⟩
theorem ij:∀{R:List Rn},bc 14 (bh R)=true
 | []=>rfl
 | r::rs=>by
   have:=ij (R:=rs);unfold bc at this ⊢;simp only[bh,List.all_cons,zAa];exact⟨rfl,rfl,rfl,rfl,this⟩
theorem l_{R:List Rn}:b_ (bh R) 0 (R.length*4)=bh R:=by
 unfold b_;rw[List.drop_zero];exact List.take_of_length_le (by rw[kz];exact Nat.le_refl _)
theorem zi{a p:Int}:dN a b c d p=true↔(a=0\/c=0)/\bA a b c d=0/\(a=0->lT b p/\CK b p=b)/\(c=0->lT d p/\PU d p=d):=by
 unfold dN;simp only[zAa,Bool.or_eq_true,Bool.not_eq_true',Bool.and_eq_false_iff,Bool.not_eq_false',ao,aw];grind
end Go.Ev
