import Derived.Test.YtoghlpcacfnjbaaGreatDoorP42
set_option linter.all false
set_option maxRecDepth 100000
set_option maxHeartbeats 4000000
namespace Go.Ev
open Go Go.Proofs
variable{M:List Int}{ng lg:Bool}{s da:List UInt8}{e g y:Int}{n1 n2:Nat}
noncomputable def Pc:aQ:=eQ V2 131 Nd
theorem qA:ak Tryz.prog cfg Pc:=SG qY
def yK(mst:Int)(D:List Int):Option Int:=gk false false mst 0 D
def Rs:dW:=λvs o=>match vs,o with
 | [a3,a4,a5,.g 19 0,.b false,a8,a9,a10,a11,.a .i64 y,a53,a54,a55,.a .i64 m,.b false,.a .i64 mst,.c 23 0 n2 k2,.a .i64 n2',.a .i64 i],
   ⟨8,[.a w2 true g2,E2,X1,E1,.a [.a .i64 0,.a .i64 0,.a .i64 0] true none,U,Cc,F],[]⟩=>
   some (aH [Nat.ble n2 1000,Nat.beq w2.length n2,w2.all (bC .i64),aa n2' (Int.ofNat n2),aa i 0] (.d0 (fY (yK mst (d7 w2))) λx=>bif x then
    .f0 λJ=>.a0 (.c,[a3,a4,a5,.g 19 0,.b true,a8,a9,a10,a11,.a .i64 y,a53,a54,a55,.a .i64 m,.b false,.a .i64 mst,.c 23 0 n2 k2,.a .i64 n2',.i (J 0)],
     ⟨8,[.a w2 true g2,E2,X1,E1,.a [.a .i64 y,.a .i64 m,.a .i64 (cp (yK mst (d7 w2)))] true none,U,Cc,F],[]⟩)
    else .a0 (.b 4,[a3,a4,a5,.g 19 0,.b false,a8,a9,a10,a11,.a .i64 y,a53,a54,a55,.a .i64 m,.b false,.a .i64 mst,.c 23 0 n2 k2,.a .i64 n2',.a .i64 n2'],o)))
 | _,_=>none
theorem nw:d7 (aI M)=M:=by
 unfold d7 aI;rw[List.map_map];exact(List.map_congr_left λx _=>rfl).trans (List.map_id M)
theorem mf{M:List Int}:(aI M).all (bC .i64)=true:=by
 unfold aI;rw[List.all_map,List.all_eq_true];exact λx _=>rfl
theorem VM(W1 W2:List AV):cu Tryz.prog (cH cfg Pc) (Cw cfg [.a W1 false none,.a W2 false none]) (lb 83 2) 127 Ou Rs:=by
 intro vs o t Q hv hq J;unfold Rs at hv;split at hv
 . rename_i a3 a4 a5 a8 a9 a10 a11 y a53 a54 a55 m mst n2 k2 n2' i w2 g2 E2 X1 E1 U Cc F;cases hv;replace hq:=cO hq;obtain⟨⟨h1,h2,h3,h4,h5,-⟩,hq⟩:=hq;rw[al]at h1;rw[aJ]at h2;rw[ao]at h4 h5;obtain⟨D,rfl⟩:∃D,w2=aI D:=⟨d7 w2,(gV h3).symm⟩;rw[cY]at h2;subst h2 h4 h5;rw[nw]at hq;simp only[Tr.wp]at hq;refine ia qA rfl rfl ai (ι:={i:Nat // i<=D.length/\∀k,k<i->gR false false mst 0 (D.getD k 0)=false}) (λx=>[a3,a4,a5,.g 19 0,.b false,a8,a9,a10,a11,.a .i64 y,a53,a54,a55,.a .i64 m,.b false,.a .i64 mst,.c 23 0 D.length k2,.a .i64 (Int.ofNat D.length),.a .i64 (Int.ofNat x.1)])
    (λ_=>⟨8,[.a (aI D) true g2,E2,X1,E1,.a [.a .i64 0,.a .i64 0,.a .i64 0] true none,U,Cc,F],[]⟩) (λx=>D.length-x.1) 8 (λ_=>Nat.le_refl _) (λx J=>?_) (Nat.le_refl _) (λJ=>Wk.a0 ⟨⟨0,Nat.zero_le _,λk hk=>absurd hk (Nat.not_lt_zero k)⟩,J,rfl⟩) J
   obtain⟨i,hi,hp⟩:=x;dsimp only;refine jJ (bE 1112080533531002202052025244204) (R:=λQ=>(λ(Y:aD)(C E G I N O P W:AV)(H V:Int)=>(λ(T u1:AV)(A Z u0:Bool)(u2:Int)=>(λ(B:Prop)=>(Z->aS i D.length/\(u0->(A->A/\A/\A/\A/\A/\A/\Q (.c,[a3,a4,a5,I,.b true,a8,a9,a10,a11,E,a53,a54,a55,G,C,N,O,T,u1],⟨8,[Y,E2,X1,E1,.a [E,G,.a .i64 (aK W)] true none,U,Cc,F],[]⟩))/\(B->B/\B/\B/\B/\B/\B/\af .i64 u2/\Q (.a,[a3,a4,a5,I,C,a8,a9,a10,a11,E,a53,a54,a55,G,C,N,O,T,.a .i64 u2],⟨8,[Y,E2,X1,E1,.a [P,P,P] true none,U,Cc,F],[]⟩)))/\(u0=false->False))/\(Z=false->Q (.b 4,[a3,a4,a5,I,C,a8,a9,a10,a11,E,a53,a54,a55,G,C,N,O,T,u1],⟨8,[Y,E2,X1,E1,.a [P,P,P] true none,U,Cc,F],[]⟩))) (A=false)) (.a .i64 V) (.a .i64 H) (ab (aK W) mst) (not (ab V H)) (bC .i64 W) (Int.add H 1)) (.a (aI D) true g2) (.b false) (.a .i64 y) (.a .i64 m) (.g 19 0) (.a .i64 mst) (.c 23 0 D.length k2) (.a .i64 0) (List.getD (aI D) (HAdd.hAdd 0 (HMul.hMul i 1)) (.e [])) (Int.ofNat i) (Int.ofNat D.length)) (λ_=>by kernel_rfl) λQ' hQ=>?_;try dsimp only
   by_cases hlt:i<D.length
   . rw[sW hlt];simp only[bC,aK,gP,lm];cases hd:ab (D.getD i 0) mst with
     | true=>
       have hpick:gR false false mst 0 (D.getD i 0)=true:=by unfold gR;rw[hd];rfl
       have hf:yK mst D=some (D.getD i 0):=sk hlt hp hpick;rw[hf]at hq;have hq:=hq (jv [.int .i64 (Int.ofNat i)]);generalize D.getD i 0=d at *;simp only[az,reduceCtorEq]
       (repeat' first|exact trivial|refine⟨?_,?_⟩|intro)<;>first|omega|assumption|contradiction|refine hQ _ ?_
       all_goals exact⟨_,_,VW.c0 (.same (.same (.same (.same (.same (.same (.same (.same (.same (.same (.same (.same (.same (.same (.same (.same (.same (.same (.int .nil))))))))))))))))))) rfl,hq⟩
     | false=>
       have hpick:gR false false mst 0 (D.getD i 0)=false:=by unfold gR;rw[hd];rfl
       have next:∀k,k<i+1->gR false false mst 0 (D.getD k 0)=false:=λk hk=>by
        by_cases e:k=i
        . subst e;exact hpick
        . exact hp k (by omega)
       clear hq hp hpick;generalize D.getD i 0=d at *;simp only[az,reduceCtorEq]
       (repeat' first|exact trivial|refine⟨?_,?_⟩|intro)<;>first|omega|assumption|contradiction|refine hQ _ ?_
       all_goals exact⟨⟨i+1,by omega,next⟩,by dsimp only;omega,VW.a0 rfl rfl⟩
   . obtain rfl:i=D.length:=by omega
     have hf:yK mst D=none:=oW λk hk=>hp k (by omega);rw[hf]at hq;have hq:Q (.b 4,_):=hq;simp only[az,reduceCtorEq]
     (repeat' first|exact trivial|refine⟨?_,?_⟩|intro)<;>first|omega|assumption|(exfalso;omega)|(refine hQ _ ?_;exact⟨_,_,VW.b0,hq⟩)
 . cases hv
def LcG:cx:=iz jE 4 (d9 127 Ou Rs)
def tO(y:Int)(da:List UInt8)(D:List Int)(m:Int):Option Int:=yK (kN y m da) D
def Gm(y:Int)(da:List UInt8)(D:List Int)(m:Int):Bool:=fY (tO y da D m)
def nR(y:Int)(da:List UInt8)(M D:List Int):Option Int:=M.find? (Gm y da D)
def Q9:dW:=λvs o=>match vs,o with
 | [.g 16 0,.g 17 0,a5,.g 19 0,.b false,a8,a9,.c 23 0 n2 k2,a11,.a .i64 y,.c 21 0 n1 k1,.a .i64 n1',.a .i64 j],
   ⟨8,[.a w2 true g2,E2,.a w1 true g1,E1,.a [.a .i64 0,.a .i64 0,.a .i64 0] true none,U,.a [.a .i64 cy,Y1,Y2] true none,.a [.b ng,.b lg,.d s,.a .i64 e,.a .i64 g,.d mo,.d da,.a .u8 a,.a .u8 b,.a .u8 c,.c 14 0 n1a k1a,.c 15 0 n2a k2a] true none],[]⟩=>
   some (aH [Nat.ble n1 1000,Nat.beq w1.length n1,w1.all (bC .i64),aa n1' (Int.ofNat n1),aa j 0,Nat.ble n2 1000,Nat.beq w2.length n2,w2.all (bC .i64),ab (-10000000000000000) y,ab y 10000000000000000,aa cy 9223372036854775807,jY da (d7 w1)]
    (.d0 (fY (nR y da (d7 w1) (d7 w2))) λx=>bif x then
    .f0 λJ=>.a0 (.c,[.g 16 0,.g 17 0,a5,.g 19 0,.b true,a8,a9,.c 23 0 n2 k2,a11,.a .i64 y,.c 21 0 n1 k1,.a .i64 n1',.i (J 0)],
     ⟨8,[.a w2 true g2,E2,.a w1 true g1,E1,.a [.a .i64 y,.a .i64 (cp (nR y da (d7 w1) (d7 w2))),.a .i64 (cp (tO y da (d7 w2) (cp (nR y da (d7 w1) (d7 w2)))))] true none,U,.a [.a .i64 cy,Y1,Y2] true none,.a [.b ng,.b lg,.d s,.a .i64 e,.a .i64 g,.d mo,.d da,.a .u8 a,.a .u8 b,.a .u8 c,.c 14 0 n1a k1a,.c 15 0 n2a k2a] true none],[]⟩)
    else .a0 (.b 2,[.g 16 0,.g 17 0,a5,.g 19 0,.b false,a8,a9,.c 23 0 n2 k2,a11,.a .i64 y,.c 21 0 n1 k1,.a .i64 n1',.a .i64 n1'],o)))
 | _,_=>none
theorem Q2(W1 W2:List AV):qI Tryz.prog (cH cfg Pc) (Cw cfg [.a W1 false none,.a W2 false none]) LcG (lb 83 1):=by
 refine dv AA λi hi e he st Q hw=>?_;have hi:i=0:=by simp at hi;omega
 subst hi;cases he;rw[DU];exact bR (cC.a0 qA) (by decide) rfl (VM W1 W2) hw
theorem Wv(W1 W2:List AV):cu Tryz.prog (cH cfg Pc) (Cw cfg [.a W1 false none,.a W2 false none]) (lb 83 1) 127 Oi Q9:=by
 intro vs o t Q hv hq J;unfold Q9 at hv;split at hv
 . rename_i a5 a8 a9 n2 k2 a11 y n1 k1 n1' j w2 g2 E2 w1 g1 E1 U cy Y1 Y2 ng lg s e g mo da a b c n1a k1a n2a k2a;cases hv;replace hq:=cO hq;obtain⟨⟨h1,h2,h3,h4,h5,h6,h7,h8,h9,h10,h11,h12,-⟩,hq⟩:=hq;rw[al]at h1 h6;rw[aJ]at h2 h7;rw[ao]at h4 h5 h11;rw[aq]at h9 h10;obtain⟨M,rfl⟩:∃M,w1=aI M:=⟨d7 w1,(gV h3).symm⟩;obtain⟨D,rfl⟩:∃D,w2=aI D:=⟨d7 w2,(gV h8).symm⟩;rw[cY]at h2 h7;rw[nw]at hq h12;rw[nw]at hq;subst h2 h4 h5 h7 h11;simp only[Tr.wp]at hq;refine ia qA rfl rfl (Q2 W1 W2) (ι:={j:Nat // j<=M.length/\∀k,k<j->Gm y da D (M.getD k 0)=false}) (λx=>[.g 16 0,.g 17 0,a5,.g 19 0,.b false,a8,a9,.c 23 0 D.length k2,a11,.a .i64 y,.c 21 0 M.length k1,.a .i64 (Int.ofNat M.length),.a .i64 (Int.ofNat x.1)])
    (λ_=>⟨8,[.a (aI D) true g2,E2,.a (aI M) true g1,E1,.a [.a .i64 0,.a .i64 0,.a .i64 0] true none,U,.a [.a .i64 9223372036854775807,Y1,Y2] true none,.a [.b ng,.b lg,.d s,.a .i64 e,.a .i64 g,.d mo,.d da,.a .u8 a,.a .u8 b,.a .u8 c,.c 14 0 n1a k1a,.c 15 0 n2a k2a] true none],[]⟩) (λx=>M.length-x.1) 8 (λ_=>Nat.le_refl _) (λx J=>?_) (Nat.le_refl _) (λJ=>Wk.a0 ⟨⟨0,Nat.zero_le _,λk hk=>absurd hk (Nat.not_lt_zero k)⟩,J,rfl⟩) J
   obtain⟨j,hj,hp⟩:=x;dsimp only;refine jJ (bE 111112140273353384422012140273353384006633804204) (R:=λQ=>(λ(O P T V:aD)(B F G H I N W u0 u6:AV)(u1 u2 u3:Bool)(E Z u4:Int)(u5:Option Int)(A:Prop)=>(λ(Y ub:AV)(u7 u9 ua:Bool)(C uc:Int)=>(λ(ue:AV)(ug:Bool)(ud:List AV)(uh:Option Int)(uf:Prop)=>(λ(ui:Prop->Prop)=>(u7->aS j M.length/\(u9->A/\A/\A/\A/\A/\(u1->ui ((fY u5->(∀J1 J2:Nat->Value,Q (.c,ud,⟨8,[O,E2,P,E1,.a [B,ue,.a .i64 (cp u5)] true none,U,T,V],[]⟩)))/\(fY u5=false->uf)))/\(u1=false->ab (Neg.neg 10000000000000000) y/\ab y 10000000000000000/\(ab 1 C->(ug->ui ((fY uh->(∀J1 J2:Nat->Value,Q (.c,ud,⟨8,[O,E2,P,E1,.a [B,ue,.a .i64 (cp uh)] true none,U,T,V],[]⟩)))/\(fY uh=false->uf)))/\(ug=false->False))/\(ab 1 C=false->False)))/\(u9=false->False))/\(u7=false->Q (.b 2,[F,G,a5,H,u6,a8,a9,I,a11,B,N,Y,ub],⟨8,[O,E2,P,E1,.a [W,W,W] true none,U,T,V],[]⟩))) (λuj=>A/\A/\A/\A/\A/\A/\A/\u2/\u3/\List.all (aI D) (bC .i64)/\ua/\uj)) (.a .i64 C) (ab C 12) [F,G,a5,H,.b true,a8,a9,I,a11,B,N,Y,ub] (yK (bP y C) (d7 (aI D))) (∀J1:Nat->Value,af .i64 uc/\Q (.a,[F,G,a5,H,u6,a8,a9,I,a11,B,N,Y,.a .i64 uc],⟨8,[O,E2,P,E1,.a [W,W,W] true none,U,T,V],[]⟩))) (.a .i64 Z) (.a .i64 E) (not (ab Z E)) (bC .i64 u0) (aa u4 u4) (aK u0) (Int.add E 1)) (.a (aI D) true g2) (.a (aI M) true g1) (.a [.a .i64 9223372036854775807,Y1,Y2] true none) (.a [.b ng,.b lg,.d s,.a .i64 e,.a .i64 g,.d mo,.d da,.a .u8 a,.a .u8 b,.a .u8 c,.c 14 0 n1a k1a,.c 15 0 n2a k2a] true none) (.a .i64 y) (.g 16 0) (.g 17 0) (.g 19 0) (.c 23 0 D.length k2) (.c 21 0 M.length k1) (.a .i64 0) (List.getD (aI M) (HAdd.hAdd 0 (HMul.hMul j 1)) (.e [])) (.b false) (ae da []) (Nat.ble D.length 1000) (Nat.beq (aI D).length D.length) (Int.ofNat j) (Int.ofNat M.length) (Int.ofNat D.length) (yK 0 (d7 (aI D))) (aa y 9223372036854775807=false)) (λ_=>by kernel_rfl) λQ' hQ=>?_;try dsimp only
   have hD:=@mf D;by_cases hlt:j<M.length
   . rw[sW hlt,nw];have hok:=MI h12 hlt;cases hm:Gm y da D (M.getD j 0)with
     | true=>
       have hf:nR y da M D=some (M.getD j 0):=sk hlt hp hm;rw[hf]at hq;have hq:=hq (jv [.int .i64 (Int.ofNat j)]);have hm:fY (yK (kN y (M.getD j 0) da) D)=true:=hm;have hq:Q (.c,[.g 16 0,.g 17 0,a5,.g 19 0,.b true,a8,a9,.c 23 0 D.length k2,a11,.a .i64 y,.c 21 0 M.length k1,.a .i64 (Int.ofNat M.length),.i (.int .i64 (Int.ofNat j))],⟨8,[.a (aI D) true g2,E2,.a (aI M) true g1,E1,.a [.a .i64 y,.a .i64 (M.getD j 0),.a .i64 (cp (yK (kN y (M.getD j 0) da) D))] true none,U,.a [.a .i64 9223372036854775807,Y1,Y2] true none,.a [.b ng,.b lg,.d s,.a .i64 e,.a .i64 g,.d mo,.d da,.a .u8 a,.a .u8 b,.a .u8 c,.c 14 0 n1a k1a,.c 15 0 n2a k2a] true none],[]⟩):=hq;unfold kN at hm hq;generalize M.getD j 0=m at *;simp only[bC,aK,gP,lm,cY];generalize ae da []=Bd at *;cases Bd<;>simp only[zAj]at hm hq ⊢<;>simp only[az,reduceCtorEq]<;>(repeat' first|exact trivial|refine⟨?_,?_⟩|intro)<;>first|contradiction|omega|assumption|(exfalso;have:=hok rfl;omega)|(rw[hm];contradiction)|(exfalso;simp_all;done)|refine hQ _ ?_
       all_goals exact⟨_,_,VW.c0 (.same (.same (.same (.same (.same (.same (.same (.same (.same (.same (.same (.same (.int .nil))))))))))))) rfl,hq⟩
     | false=>
       have next:∀k,k<j+1->Gm y da D (M.getD k 0)=false:=λk hk=>by
        by_cases e:k=j
        . subst e;exact hm
        . exact hp k (by omega)
       have hm:fY (yK (kN y (M.getD j 0) da) D)=false:=hm;clear hq hp;unfold kN at hm;generalize M.getD j 0=m at *;simp only[bC,aK,gP,lm,cY];generalize ae da []=Bd at *;cases Bd<;>simp only[zAj]at hm ⊢<;>simp only[az,reduceCtorEq]<;>(repeat' first|exact trivial|refine⟨?_,?_⟩|intro)<;>first|contradiction|omega|assumption|(exfalso;have:=hok rfl;omega)|(exfalso;simp_all;done)|refine hQ _ ?_
       all_goals exact⟨⟨j+1,by omega,next⟩,by dsimp only;omega,VW.a0 rfl rfl⟩
   . obtain rfl:j=M.length:=by omega
     have hf:nR y da M D=none:=oW λk hk=>hp k (by omega);rw[hf]at hq;have hq:Q (.b 2,_):=hq;simp only[az,reduceCtorEq]
     (repeat' first|exact trivial|refine⟨?_,?_⟩|intro)<;>first|omega|assumption|(exfalso;omega)|(refine hQ _ ?_;exact⟨_,_,VW.b0,hq⟩)
 . cases hv
def LbG:cx:=iz jE 2 (d9 127 Oi Q9)
def qv(ng:Bool)(s:List UInt8)(e:Int)(da:List UInt8)(M D:List Int):Nat->Int->Bool->Option (Int×Int×Int)
 | 0,_,_=>none
 | f+1,y,ok=>bif ok then(match nR y da M D with
   | some m=>some (y,m,cp (tO y da D m))
   | none=>qv ng s e da M D f (yV ng s e (y + -1) false) (yB ng s e (y + -1) false))else none
def Pf(y:Int)(ok:Bool):Nat:=bif ok then(y+10000000000000001).toNat+1 else 0
def eX(ng:Bool)(s:List UInt8)(e:Int)(da:List UInt8)(M D:List Int)(y:Int)(ok:Bool):Option (Int×Int×Int):=qv ng s e da M D (Pf y ok+1) y ok
def Rk(N1 N2:Nat):dW:=λvs o=>match vs,o with
 | [.g 16 0,.g 17 0,.g 18 0,.g 19 0,.b false,.a .i64 st,.c 21 0 n1 k1,.c 23 0 n2 k2,a11,.a .i64 y,.b ok],
   ⟨8,[.a w2 true g2,E2,.a w1 true g1,E1,.a [.a .i64 0,.a .i64 0,.a .i64 0] true none,.a [.b up] true none,.a [.a .i64 cy,Y1,Y2] true none,.a [.b ng,.b lg,.d s,.a .i64 e,.a .i64 g,.d mo,.d da,.a .u8 a,.a .u8 b,.a .u8 c,.c 14 0 n1a k1a,.c 15 0 n2a k2a] true none],[]⟩=>
   some (aH [Nat.ble n1 1000,Nat.beq w1.length n1,w1.all (bC .i64),Nat.ble n2 1000,Nat.beq w2.length n2,w2.all (bC .i64),jY da (d7 w1),aV ng lg s e g,Nat.ble s.length 1000,lP s,ab (-10000000000000000) y,ab y 10000000000000000,Nat.beq n1a n1,Nat.beq n2a n2,aa cy 9223372036854775807,aa st (-1),!up,Nat.beq n1 N1,Nat.beq n2 N2]
    (.d0 (mJ (eX ng s e da (d7 w1) (d7 w2) y ok)) λx=>bif x then
    .f0 λJ=>.a0 (.c,[.g 16 0,.g 17 0,.g 18 0,.g 19 0,.b true,.a .i64 st,.c 21 0 n1 k1,.c 23 0 n2 k2,a11,.i (J 0),.i (J 1)],
     ⟨8,[.a w2 true g2,E2,.a w1 true g1,E1,.a [.a .i64 (p1 (eX ng s e da (d7 w1) (d7 w2) y ok)),.a .i64 (p2 (eX ng s e da (d7 w1) (d7 w2) y ok)),.a .i64 (p3 (eX ng s e da (d7 w1) (d7 w2) y ok))] true none,.a [.b up] true none,.a [.a .i64 cy,Y1,Y2] true none,.a [.b ng,.b lg,.d s,.a .i64 e,.a .i64 g,.d mo,.d da,.a .u8 a,.a .u8 b,.a .u8 c,.c 14 0 n1a k1a,.c 15 0 n2a k2a] true none],[]⟩)
    else .f0 λJ=>.a0 (.b 0,[.g 16 0,.g 17 0,.g 18 0,.g 19 0,.b false,.a .i64 st,.c 21 0 n1 k1,.c 23 0 n2 k2,a11,.i (J 0),.b false],o)))
 | _,_=>none
def Zi(W1 W2:List AV)(a11:AV)(ng lg:Bool)(s:List UInt8)(e g:Int)(mo da:List UInt8)(a b c:Int)(k1a k2a:fg)(Y1 Y2:AV)(n1 n2:Nat)(k1 k2:fg)(w1 w2:List AV)(g1 g2:Option Nat)(E1 E2:aD)(y:Int)(ok:Bool)(J:Nat->Value){Q:VQ->Prop}:gG Q (rT Pc LbG [.a W1 false none,.a W2 false none] 83 0 127 Kc [.g 16 0,.g 17 0,.g 18 0,.g 19 0,.b false,.a .i64 (-1),.c 21 0 n1 k1,.c 23 0 n2 k2,a11,.a .i64 y,.b ok] J ⟨8,[.a w2 true g2,E2,.a w1 true g1,E1,.a [.a .i64 0,.a .i64 0,.a .i64 0] true none,.a [.b false] true none,.a [.a .i64 9223372036854775807,Y1,Y2] true none,.a [.b ng,.b lg,.d s,.a .i64 e,.a .i64 g,.d mo,.d da,.a .u8 a,.a .u8 b,.a .u8 c,.c 14 0 n1 k1a,.c 15 0 n2 k2a] true none],[]⟩) (bE 1127702000614202270274)=((λ(V W Y Z:aD)(A B C E F G H I N P:AV)(O T:Int)(u0 u1:Nat)(U:Option Int)=>(λ(u2:aD)(u3 u4 u5:Bool)=>(ok->Nat.ble n1 1000/\Nat.beq w1.length n1/\List.all w1 (bC .i64)/\aa T T/\Nat.ble n2 1000/\Nat.beq w2.length n2/\List.all w2 (bC .i64)/\ab (Neg.neg 10000000000000000) y/\ab y 10000000000000000/\jY da (d7 w1)/\(fY U->(∀J1 J2:Nat->Value,Q (.c,[A,B,C,E,.b true,F,G,H,a11,I,AV.i (J2 13)],⟨8,[V,E2,W,E1,.a [I,.a .i64 (cp U),.a .i64 (cp (tO y da (d7 w2) (cp U)))] true none,u2,Y,Z],[]⟩)))/\(fY U=false->(∀J1:Nat->Value,u3/\and (and true (and (Nat.ble (HAdd.hAdd 0 u0) W1.length) u4)) (and (Nat.ble (HAdd.hAdd 0 u1) W2.length) u5)/\u4/\u5/\u3/\aV ng lg s e g/\Nat.ble s.length 1000/\lP s/\Q (.a,[A,B,C,E,N,F,G,H,a11,.a .i64 (yV ng s e O false),.b (yB ng s e O false)],⟨8,[V,E2,W,E1,.a [P,P,P] true none,u2,Y,Z],[]⟩))))/\(ok=false->Q (.b 0,[A,B,C,E,N,F,G,H,a11,I,.b ok],⟨8,[V,E2,W,E1,.a [P,P,P] true none,u2,Y,Z],[]⟩))) (.a [N] true none) (af .i64 O) (bc 14 (b_ W1 0 u0)) (bc 14 (b_ W2 0 u1))) (.a w2 true g2) (.a w1 true g1) (.a [.a .i64 9223372036854775807,Y1,Y2] true none) (.a [.b ng,.b lg,.d s,.a .i64 e,.a .i64 g,.d mo,.d da,.a .u8 a,.a .u8 b,.a .u8 c,.c 14 0 n1 k1a,.c 15 0 n2 k2a] true none) (.g 16 0) (.g 17 0) (.g 18 0) (.g 19 0) (.a .i64 (Neg.neg 1)) (.c 21 0 n1 k1) (.c 23 0 n2 k2) (.a .i64 y) (.b false) (.a .i64 0) (Int.add y (Neg.neg 1)) (Int.ofNat n1) (HMul.hMul n1 1) (HMul.hMul n2 1) (nR y da (d7 w1) (d7 w2))):=by kernel_rfl
theorem VP{n:Int}(hn : -9223372036854775807<=n)(h:yB ng s e n false):yV ng s e n false<=n:=by
 unfold yB at h;unfold yV;cases hx:Nat.beq (aY s 88 88) 0 with
 | true=>rw[hx]at h;simp only[zAj]at h ⊢;rwa [aq]at h
 | false=>
   rw[hx,cond_false]at h;rw[cond_false];split at h
   . rename_i c0 c1 c2 c3;unfold I2 at h;unfold KM;cases ng with
     | true=>
       simp only[zAj,zAa,aq]at h ⊢;have:=GO h;unfold Ao at *;simp only[kP]at *;omega
     | false=>
       simp only[zAj,zAa,aq]at h ⊢;have:=Hy h.1;omega
   . cases h
theorem sJ(ho:aV ng lg s e g)(hy : -10000000000000000<=y):Pf (yV ng s e (y + -1) false) (yB ng s e (y + -1) false)<Pf y true:=by
 unfold Pf;cases h:yB ng s e (y + -1) false with
 | true=>have:=VP (by omega) h;simp only[cond_true];omega
 | false=>simp only[zAj];omega
theorem vY{ng:Bool}{s:List UInt8}{lg:Bool}{e g:Int}{da:List UInt8}{M D:List Int}(ho:aV ng lg s e g):∀(f f':Nat) (y:Int) (ok:Bool),-10000000000000000<=y->Pf y ok<f->Pf y ok<f'->qv ng s e da M D f y ok=qv ng s e da M D f' y ok
 | 0,_,_,_,_,h,_=>absurd h (Nat.not_lt_zero _)
 | _+1,0,_,_,_,_,h=>absurd h (Nat.not_lt_zero _)
 | f+1,f'+1,y,ok,hy,h1,h2=>by
   unfold qv;cases ok with
   | false=>rfl
   | true=>
     rw[cond_true,cond_true];have hm:=sJ (ng:=ng) (s:=s) (e:=e) ho hy;cases nR y da M D with
     | some m=>rfl
     | none=>exact vY ho f f' _ _ (iP ho).1 (by omega) (by omega)
theorem xY{D:List Int}{m:Int}(h:nR y da M D=some m):eX ng s e da M D y true=some (y,m,cp (tO y da D m)):=by
 unfold eX qv;rw[h];rfl
theorem xl{D:List Int}(ho:aV ng lg s e g)(hy : -10000000000000000<=y)(h:nR y da M D=none):eX ng s e da M D y true=eX ng s e da M D (yV ng s e (y + -1) false) (yB ng s e (y + -1) false):=by
 have hm:=sJ (ng:=ng) (s:=s) (e:=e) ho hy;unfold eX;rw[qv,h];exact vY ho _ _ _ _ (iP ho).1 (by omega) (by omega)
theorem RP(W1 W2:List AV):qI Tryz.prog (cH cfg Pc) (Cw cfg [.a W1 false none,.a W2 false none]) LbG (lb 83 0):=by
 refine dv zf λi hi e he st Q hw=>?_;have hi:i=0\/i=1:=by simp at hi;omega
 rcases hi with rfl|rfl
 . cases he;rw[Ak];exact bR (cC.a0 qA) (by decide) rfl (Wv W1 W2) hw
 . cases he
theorem Xz(A B:List Int):cu Tryz.prog (cH cfg Pc) (Cw cfg [.a (aI A) false none,.a (aI B) false none]) (lb 83 0) 127 Kc (Rk A.length B.length):=by
 intro vs o t Q hv hq J;unfold Rk at hv;split at hv
 . rename_i st n1 k1 n2 k2 a11 y ok w2 g2 E2 w1 g1 E1 up cy Y1 Y2 ng lg s e g mo da a b c n1a k1a n2a k2a;cases hv;replace hq:=cO hq;obtain⟨⟨h1,h2,h3,h4,h5,h6,h7,h8,h9,h10,h11,h12,h13,h14,h15,h16,h17,h18,h19,-⟩,hq⟩:=hq;rw[al]at h1 h4 h9;rw[aJ]at h2 h5 h13 h14 h18 h19;rw[ao]at h15 h16;rw[aq]at h11 h12;obtain rfl:up=false:=by cases up<;>simp_all
   obtain⟨M,rfl⟩:∃M,w1=aI M:=⟨d7 w1,(gV h3).symm⟩;obtain⟨D,rfl⟩:∃D,w2=aI D:=⟨d7 w2,(gV h6).symm⟩;rw[cY]at h2 h5;rw[nw]at hq h7;rw[nw]at hq;subst h13 h14 h2 h5 h15 h16;simp only[Tr.wp]at hq;refine ia qA rfl rfl (RP (aI A) (aI B)) (ι:={x:Int×Bool // (-10000000000000000<=x.1/\x.1<=10000000000000000)/\eX ng s e da M D y ok=eX ng s e da M D x.1 x.2}) (λx=>[.g 16 0,.g 17 0,.g 18 0,.g 19 0,.b false,.a .i64 (-1),.c 21 0 M.length k1,.c 23 0 D.length k2,a11,.a .i64 x.1.1,.b x.1.2])
    (λ_=>⟨8,[.a (aI D) true g2,E2,.a (aI M) true g1,E1,.a [.a .i64 0,.a .i64 0,.a .i64 0] true none,.a [.b false] true none,.a [.a .i64 9223372036854775807,Y1,Y2] true none,.a [.b ng,.b lg,.d s,.a .i64 e,.a .i64 g,.d mo,.d da,.a .u8 a,.a .u8 b,.a .u8 c,.c 14 0 M.length k1a,.c 15 0 D.length k2a] true none],[]⟩) (λx=>Pf x.1.1 x.1.2) 8 (λ_=>Nat.le_refl _) (λx J=>?_) (Nat.le_refl _) (λJ=>Wk.a0 ⟨⟨(y,ok),⟨h11,h12⟩,rfl⟩,J,rfl⟩) J
   obtain⟨⟨z,zk⟩,hz,hs⟩:=x;dsimp only at hz hs ⊢;refine e8 λQ' hQ=>cg ((Zi (aI A) (aI B) a11 ng lg s e g mo da a b c k1a k2a Y1 Y2 M.length D.length k1 k2 (aI M) (aI D) g1 g2 E1 E2 z zk J).mpr ?_);dsimp only;have hs':=hs;rw[hs]at hq;clear hs h11 h12;have i1:=@mf M;have i2:=@mf D;have i3:=Nat.beq_refl M.length;have i4:=Nat.beq_refl D.length;have l1:=al.mpr h1;have l2:=al.mpr h4;have l3:=al.mpr h9;rw[nw,nw];simp only[cY];cases zk with
   | false=>
     have hq:∀J:Nat->Value,Q (.b 0,[.g 16 0,.g 17 0,.g 18 0,.g 19 0,.b false,.a .i64 (-1),.c 21 0 M.length k1,.c 23 0 D.length k2,a11,.i (J 0),.b false],_):=hq;have hq:=hq (jv [.int .i64 z]);simp only[az,reduceCtorEq]
     (repeat' first|exact trivial|refine⟨?_,?_⟩|intro)<;>first|contradiction|omega|assumption|refine hQ _ ?_
     all_goals exact⟨_,_,VW.c0 (.same (.same (.same (.same (.same (.same (.same (.same (.same (.int (.same .nil))))))))))) rfl,hq⟩
   | true=>
     cases hf:nR z da M D with
     | some m=>
       rw[xY hf]at hq;clear hs';simp only[fY,cp,Option.isSome_some,Option.getD_some];have hq:∀J:Nat->Value,Q (.c,[.g 16 0,.g 17 0,.g 18 0,.g 19 0,.b true,.a .i64 (-1),.c 21 0 M.length k1,.c 23 0 D.length k2,a11,.i (J 0),.i (J 1)],⟨8,[.a (aI D) true g2,E2,.a (aI M) true g1,E1,.a [.a .i64 z,.a .i64 m,.a .i64 (cp (tO z da D m))] true none,.a [.b false] true none,.a [.a .i64 9223372036854775807,Y1,Y2] true none,.a [.b ng,.b lg,.d s,.a .i64 e,.a .i64 g,.d mo,.d da,.a .u8 a,.a .u8 b,.a .u8 c,.c 14 0 M.length k1a,.c 15 0 D.length k2a] true none],[]⟩):=hq;unfold cp at hq;simp only[az,reduceCtorEq]
       (repeat' first|exact trivial|refine⟨?_,?_⟩|intro)<;>first|contradiction|omega|assumption|refine hQ _ ?_
       all_goals exact⟨_,_,VW.c0 (.same (.same (.same (.same (.same (.same (.same (.same (.same (.int (.same .nil))))))))))) rfl,hq (jv [_,_])⟩
     | none=>
       have next:=hs'.trans (xl h8 hz.1 hf);have hmu:=sJ (ng:=ng) (s:=s) (e:=e) h8 hz.1;have hbn:=iP (n:=z + -1) (up:=false) h8;have hb1:bc 14 (b_ (aI A) 0 (M.length*1))=true:=by rw[h18,qz];exact cz
       have hb2:bc 14 (b_ (aI B) 0 (D.length*1))=true:=by rw[h19,qz];exact cz
       have hc1:Nat.ble (0+M.length*1) A.length=true:=by rw[h18];simp
       have hc2:Nat.ble (0+D.length*1) B.length=true:=by rw[h19];simp
       have hr:af .i64 (Int.add z (-1))=true:=by rw[aE,qW];simp only[eH,eE];omega
       clear hq;simp only[fY,cp,Option.isSome_none,hb1,hb2,hc1,hc2,Bool.and_true,Bool.true_and];simp only[az,reduceCtorEq]
       (repeat' first|exact trivial|refine⟨?_,?_⟩|intro)<;>first|contradiction|omega|assumption|refine hQ _ ?_
       all_goals exact⟨⟨(_,_),hbn,next⟩,hmu,VW.a0 rfl rfl⟩
 . cases hv
def fk(L:List Int):List Int:=L.reverse
def LaG(N1 N2:Nat):cx:=iz jE 0 (d9 127 Kc (Rk N1 N2))
def Rp:kS:=λargs ws=>match args,ws with
 | [.h [.b ng,.b lg,.d s,.a .i64 e,.a .i64 g,.d mo,.d da,.a .u8 a,.a .u8 b,.a .u8 c,.c 14 0 n1 k1,.c 15 0 n2 k2],.h [.a .i64 cy,.a .i64 cm,.a .i64 cd],.b false],[.a w1 false none,.a w2 false none]=>
   some (aH [w1.all (bC .i64),w2.all (bC .i64),Nat.beq w1.length n1,Nat.beq w2.length n2,Nat.ble n1 900,Nat.ble n2 900,Nat.ble 1 n1,Nat.ble 1 n2,jY da (d7 w1),aV ng lg s e g,Nat.ble s.length 1000,lP s,aa cy 9223372036854775807,aa cm 0,aa cd 0]
    (.a0 (.e [.h [.a .i64 (p1 (eX ng s e da (fk (d7 w1)) (fk (d7 w2)) (yV ng s e 9223372036854775807 false) (yB ng s e 9223372036854775807 false))),.a .i64 (p2 (eX ng s e da (fk (d7 w1)) (fk (d7 w2)) (yV ng s e 9223372036854775807 false) (yB ng s e 9223372036854775807 false))),.a .i64 (p3 (eX ng s e da (fk (d7 w1)) (fk (d7 w2)) (yV ng s e 9223372036854775807 false) (yB ng s e 9223372036854775807 false)))],.b (mJ (eX ng s e da (fk (d7 w1)) (fk (d7 w2)) (yV ng s e 9223372036854775807 false) (yB ng s e 9223372036854775807 false)))],[])))
 | _,_=>none
theorem QD(M D:List Int)(h1:M.length=n1)(h2:D.length=n2):qI Tryz.prog (cH cfg Pc) (Cw cfg [.a (aI M) false none,.a (aI D) false none]) (LaG n1 n2) (aL 83):=by
 subst h1 h2;refine dv CQ λi hi e he st Q hw=>?_;have hi:i=0\/i=1\/i=2:=by simp at hi;omega
 rcases hi with rfl|rfl|rfl
 . cases he;exact bR (cC.a0 qA) (by decide) rfl (Xz M D) hw
 . cases he
 . cases he
theorem J7:dM (aI M)=true:=jj.2 λv hv=>by
 unfold aI at hv;obtain⟨x,_,rfl⟩:=List.mem_map.1 hv;rfl
theorem IB:jI (aI M)=aI (fk M):=by unfold jI aI fk;rw[List.map_reverse]
theorem Kh:jY da (fk M)=jY da M:=by unfold jY fk;rw[List.all_reverse]
theorem Ls:(fk M).length=M.length:=by unfold fk;rw[List.length_reverse]
theorem ZR{mo:List UInt8}{a b c:Int}{k1 k2:fg}{D:List Int}(h1:M.length=n1+1)(h2:D.length=n2+1)(h3:n1+1<=900)(h4:n2+1<=900)(hA:jY da M)(ho:aV ng lg s e g)(hs:s.length<=1000)(hx:lP s) :
 bu Tryz.prog cfg 83 [.h [.b ng,.b lg,.d s,.a .i64 e,.a .i64 g,.d mo,.d da,.a .u8 a,.a .u8 b,.a .u8 c,.c 14 0 (n1+1) k1,.c 15 0 (n2+1) k2],.h [.a .i64 9223372036854775807,.a .i64 0,.a .i64 0],.b false] [.a (aI M) false none,.a (aI D) false none] (.e [.h [.a .i64 (p1 (eX ng s e da (fk M) (fk D) (yV ng s e 9223372036854775807 false) (yB ng s e 9223372036854775807 false))),.a .i64 (p2 (eX ng s e da (fk M) (fk D) (yV ng s e 9223372036854775807 false) (yB ng s e 9223372036854775807 false))),.a .i64 (p3 (eX ng s e da (fk M) (fk D) (yV ng s e 9223372036854775807 false) (yB ng s e 9223372036854775807 false)))],.b (mJ (eX ng s e da (fk M) (fk D) (yV ng s e 9223372036854775807 false) (yB ng s e 9223372036854775807 false)))]) []:=by
 refine lF qA (L:=LaG (n1+1) (n2+1)) (λx hx=>?_) (QD M D h1 h2) (bE 1111111111111111101422000224474442442704440562442440047547005) (R:=λQ=>and (and (Nat.ble (HAdd.hAdd 0 (HAdd.hAdd n1 1)) 1000000) true) true/\Nat.ble (HAdd.hAdd n1 1) (HAdd.hAdd n1 1)/\Nat.ble (HAdd.hAdd 0 (HMul.hMul (HAdd.hAdd n1 1) 1)) (aI M).length/\(dM (List.take (HMul.hMul (HAdd.hAdd n1 1) 1) (aI M))->and (and (Nat.ble (HAdd.hAdd 0 (HAdd.hAdd n2 1)) 1000000) true) true/\Nat.ble (HAdd.hAdd n2 1) (HAdd.hAdd n2 1)/\Nat.ble (HAdd.hAdd 0 (HMul.hMul (HAdd.hAdd n2 1) 1)) (aI D).length/\(dM (List.take (HMul.hMul (HAdd.hAdd n2 1) 1) (aI D))->(List.all ([]++(List.take (HMul.hMul (HAdd.hAdd n1 1) 1) (aI M))) (bC .i64)->(Nat.beq (List.length ([]++(List.take (HMul.hMul (HAdd.hAdd n1 1) 1) (aI M)))) (HAdd.hAdd 0 (HAdd.hAdd n1 1))->Nat.ble (HAdd.hAdd 0 (HAdd.hAdd n1 1)) 1000/\(List.all ([]++(List.take (HMul.hMul (HAdd.hAdd n2 1) 1) (aI D))) (bC .i64)->(Nat.beq (List.length ([]++(List.take (HMul.hMul (HAdd.hAdd n2 1) 1) (aI D)))) (HAdd.hAdd 0 (HAdd.hAdd n2 1))->Nat.ble (HAdd.hAdd 0 (HAdd.hAdd n2 1)) 1000/\(and (and true (and (Nat.ble (HAdd.hAdd 0 (HMul.hMul (HAdd.hAdd n1 1) 1)) (aI M).length) (bc 14 (b_ (aI M) 0 (HMul.hMul (HAdd.hAdd n1 1) 1))))) (and (Nat.ble (HAdd.hAdd 0 (HMul.hMul (HAdd.hAdd n2 1) 1)) (aI D).length) (bc 14 (b_ (aI D) 0 (HMul.hMul (HAdd.hAdd n2 1) 1))))->(bc 14 (b_ (aI M) 0 (HMul.hMul (HAdd.hAdd n1 1) 1))->(bc 14 (b_ (aI D) 0 (HMul.hMul (HAdd.hAdd n2 1) 1))->aV ng lg s e g/\Nat.ble s.length 1000/\lP s/\Nat.ble (HAdd.hAdd 0 (HAdd.hAdd n1 1)) 1000/\(Nat.beq (List.length (jI ([]++(List.take (HMul.hMul (HAdd.hAdd n1 1) 1) (aI M))))) (HAdd.hAdd 0 (HAdd.hAdd n1 1))->(List.all (jI ([]++(List.take (HMul.hMul (HAdd.hAdd n1 1) 1) (aI M)))) (bC .i64)->Nat.ble (HAdd.hAdd 0 (HAdd.hAdd n2 1)) 1000/\(Nat.beq (List.length (jI ([]++(List.take (HMul.hMul (HAdd.hAdd n2 1) 1) (aI D))))) (HAdd.hAdd 0 (HAdd.hAdd n2 1))->(List.all (jI ([]++(List.take (HMul.hMul (HAdd.hAdd n2 1) 1) (aI D)))) (bC .i64)->(jY da (d7 (jI ([]++(List.take (HMul.hMul (HAdd.hAdd n1 1) 1) (aI M)))))->aV ng lg s e g/\Nat.ble s.length 1000/\lP s/\(ab (Neg.neg 10000000000000000) (yV ng s e 9223372036854775807 false)->(ab (yV ng s e 9223372036854775807 false) 10000000000000000->Nat.beq (HAdd.hAdd n1 1) (HAdd.hAdd 0 (HAdd.hAdd n1 1))/\Nat.beq (HAdd.hAdd n2 1) (HAdd.hAdd 0 (HAdd.hAdd n2 1))/\Nat.beq (HAdd.hAdd 0 (HAdd.hAdd n1 1)) (HAdd.hAdd n1 1)/\Nat.beq (HAdd.hAdd 0 (HAdd.hAdd n2 1)) (HAdd.hAdd n2 1)/\(mJ (eX ng s e da (d7 (jI ([]++(List.take (HMul.hMul (HAdd.hAdd n1 1) 1) (aI M))))) (d7 (jI ([]++(List.take (HMul.hMul (HAdd.hAdd n2 1) 1) (aI D))))) (yV ng s e 9223372036854775807 false) (yB ng s e 9223372036854775807 false))->(∀J1 J2:Nat->Value,Q (.e [.h [.a .i64 (p1 (eX ng s e da (d7 (jI ([]++(List.take (HMul.hMul (HAdd.hAdd n1 1) 1) (aI M))))) (d7 (jI ([]++(List.take (HMul.hMul (HAdd.hAdd n2 1) 1) (aI D))))) (yV ng s e 9223372036854775807 false) (yB ng s e 9223372036854775807 false))),.a .i64 (p2 (eX ng s e da (d7 (jI ([]++(List.take (HMul.hMul (HAdd.hAdd n1 1) 1) (aI M))))) (d7 (jI ([]++(List.take (HMul.hMul (HAdd.hAdd n2 1) 1) (aI D))))) (yV ng s e 9223372036854775807 false) (yB ng s e 9223372036854775807 false))),.a .i64 (p3 (eX ng s e da (d7 (jI ([]++(List.take (HMul.hMul (HAdd.hAdd n1 1) 1) (aI M))))) (d7 (jI ([]++(List.take (HMul.hMul (HAdd.hAdd n2 1) 1) (aI D))))) (yV ng s e 9223372036854775807 false) (yB ng s e 9223372036854775807 false)))],.b true])))/\(mJ (eX ng s e da (d7 (jI ([]++(List.take (HMul.hMul (HAdd.hAdd n1 1) 1) (aI M))))) (d7 (jI ([]++(List.take (HMul.hMul (HAdd.hAdd n2 1) 1) (aI D))))) (yV ng s e 9223372036854775807 false) (yB ng s e 9223372036854775807 false))=false->(∀J1 J2:Nat->Value,Q (.e [.h [.a .i64 0,.a .i64 0,.a .i64 0],.b false]))))/\(ab (yV ng s e 9223372036854775807 false) 10000000000000000=false->False))/\(ab (Neg.neg 10000000000000000) (yV ng s e 9223372036854775807 false)=false->False))/\(jY da (d7 (jI ([]++(List.take (HMul.hMul (HAdd.hAdd n1 1) 1) (aI M)))))=false->False))/\(List.all (jI ([]++(List.take (HMul.hMul (HAdd.hAdd n2 1) 1) (aI D)))) (bC .i64)=false->False))/\(Nat.beq (List.length (jI ([]++(List.take (HMul.hMul (HAdd.hAdd n2 1) 1) (aI D))))) (HAdd.hAdd 0 (HAdd.hAdd n2 1))=false->False))/\(List.all (jI ([]++(List.take (HMul.hMul (HAdd.hAdd n1 1) 1) (aI M)))) (bC .i64)=false->False))/\(Nat.beq (List.length (jI ([]++(List.take (HMul.hMul (HAdd.hAdd n1 1) 1) (aI M))))) (HAdd.hAdd 0 (HAdd.hAdd n1 1))=false->False))/\(bc 14 (b_ (aI D) 0 (HMul.hMul (HAdd.hAdd n2 1) 1))=false->False))/\(bc 14 (b_ (aI M) 0 (HMul.hMul (HAdd.hAdd n1 1) 1))=false->False))/\(and (and true (and (Nat.ble (HAdd.hAdd 0 (HMul.hMul (HAdd.hAdd n1 1) 1)) (aI M).length) (bc 14 (b_ (aI M) 0 (HMul.hMul (HAdd.hAdd n1 1) 1))))) (and (Nat.ble (HAdd.hAdd 0 (HMul.hMul (HAdd.hAdd n2 1) 1)) (aI D).length) (bc 14 (b_ (aI D) 0 (HMul.hMul (HAdd.hAdd n2 1) 1))))=false->False))/\(Nat.beq (List.length ([]++(List.take (HMul.hMul (HAdd.hAdd n2 1) 1) (aI D)))) (HAdd.hAdd 0 (HAdd.hAdd n2 1))=false->False))/\(List.all ([]++(List.take (HMul.hMul (HAdd.hAdd n2 1) 1) (aI D))) (bC .i64)=false->False))/\(Nat.beq (List.length ([]++(List.take (HMul.hMul (HAdd.hAdd n1 1) 1) (aI M)))) (HAdd.hAdd 0 (HAdd.hAdd n1 1))=false->False))/\(List.all ([]++(List.take (HMul.hMul (HAdd.hAdd n1 1) 1) (aI M))) (bC .i64)=false->False))/\(dM (List.take (HMul.hMul (HAdd.hAdd n2 1) 1) (aI D))=false->False))/\(dM (List.take (HMul.hMul (HAdd.hAdd n1 1) 1) (aI M))=false->False)) (λ_=>by kernel_rfl) λQ' hQ=>?_
 . simp only[List.mem_cons,List.not_mem_nil,or_false]at hx;rcases hx with rfl|rfl
   . exact iu cz
   . exact iu cz
 . have tk1:List.take ((n1+1)*1) (aI M)=aI M:=by rw[Nat.mul_one];exact List.take_of_length_le (by rw[cY];omega)
   have tk2:List.take ((n2+1)*1) (aI D)=aI D:=by rw[Nat.mul_one];exact List.take_of_length_le (by rw[cY];omega)
   have wn1:b_ (aI M) 0 ((n1+1)*1)=aI M:=by rw[<-h1];exact qz
   have wn2:b_ (aI D) 0 ((n2+1)*1)=aI D:=by rw[<-h2];exact qz
   have q1:Nat.ble (0+(n1+1)) 1000000=true:=by rw[al];omega
   have q2:Nat.ble (0+(n2+1)) 1000000=true:=by rw[al];omega
   have q3:Nat.ble (n1+1) (n1+1)=true:=by rw[al];omega
   have q4:Nat.ble (n2+1) (n2+1)=true:=by rw[al];omega
   have q5:Nat.ble (0+(n1+1)*1) (n1+1)=true:=by rw[al];omega
   have q6:Nat.ble (0+(n2+1)*1) (n2+1)=true:=by rw[al];omega
   have q7:Nat.ble (0+(n1+1)) 1000=true:=by rw[al];omega
   have q8:Nat.ble (0+(n2+1)) 1000=true:=by rw[al];omega
   have q9:Nat.beq (n1+1) (0+(n1+1))=true:=by rw[aJ];omega
   have qa:Nat.beq (n2+1) (0+(n2+1))=true:=by rw[aJ];omega
   have qb:Nat.beq (0+(n1+1)) (n1+1)=true:=by rw[aJ];omega
   have qc:Nat.beq (0+(n2+1)) (n2+1)=true:=by rw[aJ];omega
   have qd:=al.mpr hs;have qi:aa (Int.ofNat (0+(n1+1))) (Int.ofNat (0+(n1+1)))=true:=ao.mpr rfl;have hbn:=iP (n:=9223372036854775807) (up:=false) ho;have qe:ab (-10000000000000000) (yV ng s e 9223372036854775807 false)=true:=aq.mpr hbn.1;have qf:ab (yV ng s e 9223372036854775807 false) 10000000000000000=true:=aq.mpr hbn.2;simp only[tk1,tk2,wn1,wn2,List.nil_append,IB,nw,Kh,cY,Ls,h1,h2,mf,J7,cz,hA,ho,hx,q1,q2,q3,q4,q5,q6,q7,q8,q9,qa,qb,qc,qd,qe,qf,qi,Bool.and_true,Bool.true_and,reduceCtorEq,zAh];have hf:=@PK (eX ng s e da (fk M) (fk D) (yV ng s e 9223372036854775807 false) (yB ng s e 9223372036854775807 false));have fin:=hQ _ rfl;generalize eX ng s e da (fk M) (fk D) (yV ng s e 9223372036854775807 false) (yB ng s e 9223372036854775807 false)=r at *;cases hr:mJ r with
   | true=>
     rw[hr]at fin;exact⟨λ_ _ _=>fin,λh=>by cases h⟩
   | false=>
     obtain⟨e1,e2,e3⟩:=hf hr;rw[hr,e1,e2,e3]at fin;exact⟨λh=>(by cases h),λ_ _ _=>fin⟩
theorem Rr{S:aQ}(hS:ak Tryz.prog cfg S):ak Tryz.prog cfg (eQ S 83 (fl 14 [1,1] Rp)):=by
 refine bm hS (fW dI.lv Az λargs ws t r he hr=>?_);unfold Rp at he;split at he
 . rename_i ng lg s e g mo da a b c n1 k1 n2 k2 cy cm cd w1 w2;cases he;replace hr:=aF hr;obtain⟨⟨h1,h2,h3,h4,h5,h6,h7,h8,h9,h10,h11,h12,h13,h14,h15,-⟩,hr⟩:=hr;rw[aJ]at h3 h4;rw[al]at h5 h6 h7 h8 h11;rw[ao]at h13 h14 h15;obtain⟨m1,rfl⟩:∃m,n1=m+1:=⟨n1-1,by omega⟩;obtain⟨m2,rfl⟩:∃m,n2=m+1:=⟨n2-1,by omega⟩;subst h13 h14 h15;cases hr;have key:=ZR (g:=g) (mo:=mo) (a:=a) (b:=b) (c:=c) (k1:=k1) (k2:=k2) (M:=d7 w1) (D:=d7 w2) (by rw[m7];exact h3) (by rw[m7];exact h4) h5 h6 h9 h10 h11 h12;rw[gV h1,gV h2]at key;exact⟨key,λx hx=>by cases hx⟩
 . cases he
end Go.Ev
