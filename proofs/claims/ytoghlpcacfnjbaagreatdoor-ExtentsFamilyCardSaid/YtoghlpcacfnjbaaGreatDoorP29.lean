import Derived.Test.YtoghlpcacfnjbaaGreatDoorP28
set_option linter.all false
set_option maxRecDepth 100000
set_option maxHeartbeats 4000000
namespace Go.Ev
open Go Go.Proofs
variable{x:aD}{S:aQ}
abbrev bB(ng lg:Bool)(s:List UInt8)(e g:Int)(mo da:List UInt8)(a b c:Int):aD:=.a [.b ng,.b lg,.d s,.a .i64 e,.a .i64 g,.d mo,.d da,.a .u8 a,.a .u8 b,.a .u8 c] true none
def tu(b0:aD):List Int->aB
 | []=>⟨1,[b0],[]⟩
 | x::xs=>⟨2,[.a ((x::xs).map (AV.a .i64)) true (some 1),b0],[]⟩
def S_:dW:=λvs o=>match vs,o with
 | [.g 14 0,.f,.a .i64 m],⟨1,[.a [.b ng,.b lg,.d s,.a .i64 e,.a .i64 g,.d [m0,m1],.d da,.a .u8 a,.a .u8 b,.a .u8 c] true none],[]⟩=>some (aH [cr m0,cr m1,aa m 1] (.a0 (.b 0,[.g 14 0,iC 15 (ay m0 m1 12),.a .i64 13],tu (bB ng lg s e g [m0,m1] da a b c) (ay m0 m1 12))))
 | _,_=>none
def ZH:cx:=iz jE 0 (d9 29 [1,3,4] S_)
def Ta:kS:=λargs ws=>match args,ws with
 | [.h [.b ng,.b lg,.d s,.a .i64 e,.a .i64 g,.d [m0,m1],.d da,.a .u8 a,.a .u8 b,.a .u8 c]],[]=>some (aH [cr m0,cr m1,aa (aR [m0,m1]) 0,!(gU (ay m0 m1 12))] (.a0 (.c 14 0 (dG (ay m0 m1 12)) (.a 0),[.a (aI (ay m0 m1 12)) true (some 1)])))
 | _,_=>none
def SF:dP:=λargs=>match args with
 | [.a .i64 y,.a .i64 m]=>some (aH [af .i64 y] (.a0 (.a .i64 (bP y m))))
 | _=>none
def O9:bj tab 138=some (dH 138,aL 138):=by kernel_rfl
def Mk:(bz (aL 138)).map (·.1)=[0]:=by kernel_rfl
theorem aO{cs:List AV}{rw:Bool}{g:Option Nat}{b:Nat}(h:bw cs=[]):cR b (.a cs rw g):=⟨rfl,λi hi=>by
 exfalso;have hi:i∈bw cs:=hi;rw[h]at hi;cases hi⟩
theorem fx{tn:Nat}{rel:List Nat}{vs vs':List AV}{mid B:List aD}{k kb n:Nat}(hk:mid.length=k)(hB:B.length=kb)(hn:n=kb+k+1)(hlow:∀b∈B,cR (14+kb) b)(hx:cR (14+kb) x)(hvs:yw (kG (14+kb) [(14+(kb+k),14+(kb+0))] 20) vs=some vs') :
 VW cfg (Cw cfg []) kb tn rel vs ⟨n,x::(mid++B),[]⟩ vs' ⟨kb+1,x::B,[]⟩:=by
 subst hn;have at0:∀(os:List aD) (n i:Nat),(⟨n,os,[]⟩:aB).at i=os.getD (n-1-i) .b:=λos n i=>rfl;refine VW.d0 dI.lv (C:=Cw cfg []) (kb:=kb) (sel:=[kb+k]) zW (by show kb<=kb+k+1;omega) (λs hs=>?_) (by simp) (λp hp=>by cases hp) rfl rfl (by simp[hB]) (λi hi=>?_) (λt ht=>?_) hvs
 . simp only[zAe]at hs;subst hs;exact⟨by omega,by show kb+k<kb+k+1;omega⟩
 . have e1:(⟨kb+1,x::B,[]⟩:aB).at i=B.getD (kb-1-i) .b:=by
    rw[at0];rw[show kb+1-1-i=(kb-1-i)+1 by omega,List.getD_cons_succ]
   have e2:(⟨kb+k+1,x::(mid++B),[]⟩:aB).at i=B.getD (kb-1-i) .b:=by
    rw[at0];rw[show kb+k+1-1-i=(k+(kb-1-i))+1 by omega,List.getD_cons_succ,zAd,List.getElem?_append_right (by omega),zAd];rw[hk,show k+(kb-1-i)-k=kb-1-i by omega]
   rw[e1,e2];refine⟨rfl,?_⟩;have hlt:kb-1-i<B.length:=by omega
   rw[zAd,List.getElem?_eq_getElem hlt];exact hlow _ (List.getElem_mem hlt)
 . have:t=0:=by simp at ht;omega
   subst this;refine .inl ⟨?_,?_⟩
   . show(⟨kb+1,x::B,[]⟩:aB).at (kb+0)=(⟨kb+k+1,x::(mid++B),[]⟩:aB).at (kb+k);rw[at0,at0,show kb+1-1-(kb+0)=0 by omega,show kb+k+1-1-(kb+k)=0 by omega];rfl
   . show cR (14+kb) ((⟨kb+k+1,x::(mid++B),[]⟩:aB).at (kb+k));rw[at0,show kb+k+1-1-(kb+k)=0 by omega];exact hx
theorem dL.last{v v':AV}{rest:List aD}{k n:Nat}(hk:rest.length=k)(hn:n=k+1)(hx:cR 14 x)(hv:kG 14 [(14+k,14)] 20 v'=some v):dL [] v [x] (v',⟨n,x::rest,[]⟩):=by
 subst hn;have hv':kG ((Cw cfg []).lo+0) (io (Cw cfg []).lo 0 [k]) 20 v'=some v:=hv;refine(oX dI.lv (C:=Cw cfg []) (st:=⟨.c0 v' .b0 .b0,1,⟨k+1,x::rest,[]⟩,[],none⟩) (kb:=0) (sel:=[k]) (ts':=.c0 v .b0 .b0) (o':=⟨1,[x],[]⟩) zW (Nat.zero_le _) (λs hs=>?_) (by simp) (λp hp=>by cases hp) rfl rfl rfl (λi hi=>absurd hi (Nat.not_lt_zero i)) (λt ht=>?_) ?_ (λd hd=>by cases hd) (λi hi=>by cases hi)).b0 λs hs=>?_
 . simp only[zAe]at hs;subst hs;exact⟨Nat.zero_le _,Nat.lt_succ_self _⟩
 . have:t=0:=by simp at ht;omega
   subst this;refine .inl ⟨?_,?_⟩
   . show(⟨1,[x],[]⟩:aB).at 0=(⟨k+1,x::rest,[]⟩:aB).at k;unfold aB.at;simp
   . show cR 14 ((⟨k+1,x::rest,[]⟩:aB).at k);unfold aB.at;simpa using hx
 . simp only[xB,hv',ob]
 . rw[hs];exact⟨rfl,rfl⟩
theorem WT{y m:Int}(hy : -9223372036854775808<=y/\y<=9223372036854775807):bu Tryz.prog cfg 139 [.a .i64 y,.a .i64 m] [] (.a .i64 (bP y m)) []:=by
 refine jD gx ai (bE 110330008107331142322024220240414124124124) (R:=λQ=>(λ(A F G H I O:Bool)(C P T:Prop)=>(λ(E:Bool)(B:Prop)=>(λ(N:Prop)=>(F->F/\C)/\(F=false->(G->G/\C)/\(G=false->(H->H/\C)/\(H=false->(aa m 11->C)/\(aa m 11=false->(aa m 2->(A->A/\A/\A/\(E->E/\E/\A/\I=false/\A/\(O->P)/\(O=false->T))/\(N->N/\N/\A/\I/\A/\P))/\(B->B/\B/\B/\B/\B/\T))/\(aa m 2=false->Q (.a .i64 31))))))) (E=false)) (not I) (A=false)) (aa (Int.tmod y 4) 0) (aa m 4) (aa m 6) (aa m 9) (not (aa (Int.tmod y 100) 0)) (aa (Int.tmod y 400) 0) (Q (.a .i64 30)) (Q (.a .i64 29)) (Q (.a .i64 28))) (λ_=>by kernel_rfl) λQ' hQ=>?_;try dsimp only
 have z:∀k:Int,y.tmod k=0↔y%k=0:=λk=>by rw[<-Int.dvd_iff_tmod_eq_zero,<-Int.dvd_iff_emod_eq_zero]
 have fin:∀n:Int,n=bP y m->Q' (.a .i64 n):=λn h=>hQ _ (by rw[h]);clear hQ;simp only[az,reduceCtorEq];simp only[z]
 (repeat' first|exact trivial|refine⟨?_,?_⟩|intro)<;>first|omega|(refine fin _ ?_;unfold bP Go.Proofs.YtoghlpcacfnjbaaGreatDoor.mlen Go.Proofs.YtoghlpcacfnjbaaGreatDoor.lp;(repeat' split)<;>omega)
theorem rS{b0:aD}{L:List Int}(h:L≠[]):tu b0 L=⟨2,[.a (L.map (AV.a .i64)) true (some 1),b0],[]⟩:=by cases L with|nil=>exact absurd rfl h|cons x xs=>rfl
theorem Vu:cu Tryz.prog (cH cfg T9) (Cw cfg []) (lb 138 0) 29 [1,3,4] S_:=by
 intro vs o t Q hv hq J;unfold S_ at hv;split at hv
 . rename_i m ng lg s e g m0 m1 da a b c;cases hv;replace hq:=cO hq;obtain⟨⟨h1,h2,h3,-⟩,hq⟩:=hq;rw[ao]at h3;subst h3;have hq:Q (.b 0,[.g 14 0,iC 15 (ay m0 m1 12),.a .i64 13],tu (bB ng lg s e g [m0,m1] da a b c) (ay m0 m1 12)):=hq;refine ia gx rfl rfl ai (ι:={i:Nat // i<=12}) (λx=>[.g 14 0,iC 15 (ay m0 m1 x.1),.a .i64 ((x.1:Int)+1)]) (λx=>tu (bB ng lg s e g [m0,m1] da a b c) (ay m0 m1 x.1)) (λx=>12-x.1) 1 (λx=>by cases h:ay m0 m1 x.1<;>exact Nat.succ_le_succ (Nat.zero_le _)) (λx J=>?_) (Nat.le_refl _) (λJ=>Wk.a0 ⟨⟨0,Nat.zero_le _⟩,J,rfl⟩) J;obtain⟨i,hi⟩:=x;dsimp only;have hlen:=eV m0 m1 i;have hs:=iV m0 m1 i;have blow:cR (14+1) (bB ng lg s e g [m0,m1] da a b c):=aO (by simp[bw,aC]);have blow2:∀z∈[bB ng lg s e g [m0,m1] da a b c],cR (14+1) z:=λz hz=>by
    simp only[zAe]at hz;subst hz;exact blow
   have fin:i=12->∃vs2 o2,VW cfg (Cw cfg []) 1 29 [1,3,4] [.g 14 0,iC 15 (ay m0 m1 i),.a .i64 ((i:Int)+1)] (tu (bB ng lg s e g [m0,m1] da a b c) (ay m0 m1 i)) vs2 o2/\Q (.b 0,vs2,o2):=λh=>by
    subst h;exact⟨_,_,VW.a0 rfl rfl,hq⟩
   have bi:∀b:Bool,bI b=1↔b=true:=λb=>by cases b<;>decide
   by_cases hL:ay m0 m1 i=[]
   . rw[hL]at hs fin ⊢;refine jJ (bE 1121205422004) (R:=λQ=>(λ(F:aD)(A E:AV)(B:Bool)(C:Int)=>(λ(H:AV)(G:Bool)=>(ab ((i:Int)+1) 12->ab 0 ((i:Int)+1)/\ab ((i:Int)+1) 99/\(B->G/\Q (.a,[A,.c 16 0 1 (fg.a 0),H],⟨3,[.a [E] true (some 1),.a [E] true none,F],[]⟩))/\(B=false->G/\Q (.a,[A,.f,H],⟨1,[F],[]⟩)))/\(ab ((i:Int)+1) 12=false->Q (.b 0,[A,.f,E],⟨1,[F],[]⟩))) (.a .i64 C) (af .i64 C)) (.a [.b ng,.b lg,.d s,.a .i64 e,.a .i64 g,.d [m0,m1],.d da,.a .u8 a,.a .u8 b,.a .u8 c] true none) (.g 14 0) (.a .i64 ((i:Int)+1)) (aa (cond (agr [m0,m1] ((i:Int)+1)) 1 0) 1) (Int.add ((i:Int)+1) 1)) (λ_=>by kernel_rfl) λQ' hQ=>?_;try dsimp only
     cases ha:agr [m0,m1] ((i:Int)+1)with
     | true=>
       rw[ha]at hs;have next:i<12->∃y:{i:Nat // i<=12},12-y.1<12-i/\VW cfg (Cw cfg []) 1 29 [1,3,4] [.g 14 0,.c 16 0 1 (.a 0),.a .i64 ((i:Int)+1+1)] ⟨3,[.a [.a .i64 ((i:Int)+1)] true (some 1),.a [.a .i64 ((i:Int)+1)] true none,bB ng lg s e g [m0,m1] da a b c],[]⟩ [.g 14 0,iC 15 (ay m0 m1 y.1),.a .i64 ((y.1:Int)+1)] (tu (bB ng lg s e g [m0,m1] da a b c) (ay m0 m1 y.1)):=λh=>by
        refine⟨⟨i+1,by omega⟩,by dsimp only;omega,?_⟩;dsimp only;rw[hs];exact fx (x:=.a [.a .i64 ((i:Int)+1)] true (some 1)) (mid:=[.a [.a .i64 ((i:Int)+1)] true none]) (B:=[bB ng lg s e g [m0,m1] da a b c]) rfl rfl rfl blow2 (aO rfl) rfl
       clear hs hq;simp only[az,reduceCtorEq]
       (repeat' first|exact trivial|refine⟨?_,?_⟩|intro)<;>first|contradiction|omega|assumption|exact hQ _ (fin (by omega))|exact hQ _ (next (by omega))|skip
     | false=>
       rw[ha]at hs;have next:i<12->∃y:{i:Nat // i<=12},12-y.1<12-i/\VW cfg (Cw cfg []) 1 29 [1,3,4] [.g 14 0,.f,.a .i64 ((i:Int)+1+1)] ⟨1,[bB ng lg s e g [m0,m1] da a b c],[]⟩ [.g 14 0,iC 15 (ay m0 m1 y.1),.a .i64 ((y.1:Int)+1)] (tu (bB ng lg s e g [m0,m1] da a b c) (ay m0 m1 y.1)):=λh=>by
        refine⟨⟨i+1,by omega⟩,by dsimp only;omega,?_⟩;dsimp only;rw[hs];exact VW.b0
       clear hs hq;simp only[az,reduceCtorEq]
       (repeat' first|exact trivial|refine⟨?_,?_⟩|intro)<;>first|contradiction|omega|assumption|exact hQ _ (fin (by omega))|exact hQ _ (next (by omega))|skip
   . rw[jr hL,rS hL]at fin ⊢;refine jJ (bE 1121124520422004) (R:=λQ=>(λ(H:aD)(A G I:AV)(B E:Bool)(F:Int)(C:Nat)=>(λ(O:AV)(N:Bool)=>(ab ((i:Int)+1) 12->ab 0 ((i:Int)+1)/\ab ((i:Int)+1) 99/\(B->and (and (Nat.ble C 1000000) true) true/\(E->N/\Q (.a,[A,.c 17 0 C (fg.a 0),O],⟨4,[.a (((ay m0 m1 i).map (AV.a .i64))++[G]) true (some 1),.a [G] true none,aD.b,H],[]⟩))/\(E=false->False))/\(B=false->N/\Q (.a,[A,I,O],⟨2,[.a ((ay m0 m1 i).map (AV.a .i64)) true (some 1),H],[]⟩)))/\(ab ((i:Int)+1) 12=false->Q (.b 0,[A,I,G],⟨2,[.a ((ay m0 m1 i).map (AV.a .i64)) true (some 1),H],[]⟩))) (.a .i64 F) (af .i64 F)) (.a [.b ng,.b lg,.d s,.a .i64 e,.a .i64 g,.d [m0,m1],.d da,.a .u8 a,.a .u8 b,.a .u8 c] true none) (.g 14 0) (.a .i64 ((i:Int)+1)) (.c 15 0 (ay m0 m1 i).length (fg.a 0)) (aa (cond (agr [m0,m1] ((i:Int)+1)) 1 0) 1) (and true (Nat.beq ((ay m0 m1 i).map (AV.a .i64)).length (HMul.hMul (ay m0 m1 i).length 1))) (Int.add ((i:Int)+1) 1) (HAdd.hAdd (ay m0 m1 i).length 1)) (λ_=>by kernel_rfl) λQ' hQ=>?_;try dsimp only
     have aX:∀n:Nat,Nat.beq n (n*1)=true:=λn=>by rw[Nat.mul_one];exact gm rfl
     have hcl:((ay m0 m1 i).map (AV.a .i64)).length=(ay m0 m1 i).length:=List.length_map _;cases ha:agr [m0,m1] ((i:Int)+1)with
     | true=>
       rw[ha]at hs;have he:ay m0 m1 (i+1)=ay m0 m1 i++[(i:Int)+1]:=hs;have hne:ay m0 m1 (i+1)≠[]:=by rw[he];simp
       have next:i<12->∃y:{i:Nat // i<=12},12-y.1<12-i/\VW cfg (Cw cfg []) 1 29 [1,3,4] [.g 14 0,.c 17 0 ((ay m0 m1 i).length+1) (.a 0),.a .i64 ((i:Int)+1+1)] ⟨4,[.a ((ay m0 m1 i).map (AV.a .i64)++[.a .i64 ((i:Int)+1)]) true (some 1),.a [.a .i64 ((i:Int)+1)] true none,.b,bB ng lg s e g [m0,m1] da a b c],[]⟩ [.g 14 0,iC 15 (ay m0 m1 y.1),.a .i64 ((y.1:Int)+1)] (tu (bB ng lg s e g [m0,m1] da a b c) (ay m0 m1 y.1)):=λh=>by
        refine⟨⟨i+1,by omega⟩,by dsimp only;omega,?_⟩;dsimp only;rw[jr hne,rS hne,he,List.map_append,zAg];refine fx (x:=.a ((ay m0 m1 i).map (AV.a .i64)++[.a .i64 ((i:Int)+1)]) true (some 1)) (mid:=[.a [.a .i64 ((i:Int)+1)] true none,.b]) (B:=[bB ng lg s e g [m0,m1] da a b c]) (k:=2) (kb:=1) rfl rfl rfl blow2 ?_ ?_
        . have:=@lV (ay m0 m1 i++[(i:Int)+1]) true (some 1) 15
          rwa [List.map_append]at this
        . rfl
       clear hs hq he hne;generalize (ay m0 m1 i).map (AV.a .i64)=cs at *;generalize (ay m0 m1 i).length=n at *;simp only[az,reduceCtorEq];try simp only[aX,Bool.and_true,Bool.true_and,aJ,b9,al]
       (repeat' first|exact trivial|refine⟨?_,?_⟩|intro)<;>first|contradiction|omega|assumption|exact hQ _ (fin (by omega))|exact hQ _ (next (by omega))|(exfalso;simp_all;done)|(exfalso;simp_all;omega)
     | false=>
       rw[ha]at hs;have he:ay m0 m1 (i+1)=ay m0 m1 i:=by rw[hs];simp
       have next:i<12->∃y:{i:Nat // i<=12},12-y.1<12-i/\VW cfg (Cw cfg []) 1 29 [1,3,4] [.g 14 0,.c 15 0 (ay m0 m1 i).length (.a 0),.a .i64 ((i:Int)+1+1)] ⟨2,[.a ((ay m0 m1 i).map (AV.a .i64)) true (some 1),bB ng lg s e g [m0,m1] da a b c],[]⟩ [.g 14 0,iC 15 (ay m0 m1 y.1),.a .i64 ((y.1:Int)+1)] (tu (bB ng lg s e g [m0,m1] da a b c) (ay m0 m1 y.1)):=λh=>by
        refine⟨⟨i+1,by omega⟩,by dsimp only;omega,?_⟩;dsimp only;rw[he,jr hL,rS hL];exact VW.b0
       clear hs hq he;generalize (ay m0 m1 i).map (AV.a .i64)=cs at *;generalize (ay m0 m1 i).length=n at *;simp only[az,reduceCtorEq];try simp only[aX,Bool.and_true,Bool.true_and,aJ,b9,al]
       (repeat' first|exact trivial|refine⟨?_,?_⟩|intro)<;>first|contradiction|omega|assumption|exact hQ _ (fin (by omega))|exact hQ _ (next (by omega))|(exfalso;simp_all;done)|(exfalso;simp_all;omega)
 . cases hv
theorem Wf{ng lg:Bool}{s:List UInt8}{e g:Int}{m0 m1:UInt8}{da:List UInt8}{a b c:Int}(h0:cr m0)(h1:cr m1)(hse:aR [m0,m1]=0)(hL:ay m0 m1 12≠[]) :
 bu Tryz.prog cfg 138 [.h [.b ng,.b lg,.d s,.a .i64 e,.a .i64 g,.d [m0,m1],.d da,.a .u8 a,.a .u8 b,.a .u8 c]] [] (.c 14 0 (dG (ay m0 m1 12)) (.a 0)) [.a (aI (ay m0 m1 12)) true (some 1)]:=by
 refine Bu gx (L:=ZH) O9 (by simp) (dv Mk λi hi e he st Q hw=>?_) (jJ (bE 1022356) (R:=λQ=>(λ(A:List Int)=>not (ab (aR [m0,m1]) 0)=false/\cr m0/\cr m1/\(∀J1:Nat->Value,Q (Prod.fst (Prod.fst (iC 15 A,Prod.snd ([.g 14 0,iC 15 A,.a .i64 13],tu (.a [.b ng,.b lg,.d s,.a .i64 e,.a .i64 g,.d [m0,m1],.d da,.a .u8 a,.a .u8 b,.a .u8 c] true none) A)),Prod.snd (iC 15 A,Prod.snd ([.g 14 0,iC 15 A,.a .i64 13],tu (.a [.b ng,.b lg,.d s,.a .i64 e,.a .i64 g,.d [m0,m1],.d da,.a .u8 a,.a .u8 b,.a .u8 c] true none) A))),Prod.snd (Prod.fst (iC 15 A,Prod.snd ([.g 14 0,iC 15 A,.a .i64 13],tu (.a [.b ng,.b lg,.d s,.a .i64 e,.a .i64 g,.d [m0,m1],.d da,.a .u8 a,.a .u8 b,.a .u8 c] true none) A)),Prod.snd (iC 15 A,Prod.snd ([.g 14 0,iC 15 A,.a .i64 13],tu (.a [.b ng,.b lg,.d s,.a .i64 e,.a .i64 g,.d [m0,m1],.d da,.a .u8 a,.a .u8 b,.a .u8 c] true none) A)))))) (ay m0 m1 12)) (λ_=>by kernel_rfl) λQ' hQ=>?_)
 . have hi:i=0:=by simp at hi;omega
   subst hi;cases he;exact bR (cC.a0 gx) (by decide) rfl Vu hw
 . try dsimp only
   rw[jr hL,rS hL];have fin:=hQ (_,_) (dL.last (v:=.c 14 0 (dG (ay m0 m1 12)) (.a 0)) (v':=.c 15 0 (dG (ay m0 m1 12)) (.a 0)) (x:=.a (aI (ay m0 m1 12)) true (some 1)) (rest:=[bB ng lg s e g [m0,m1] da a b c]) (k:=1) (n:=2) rfl rfl lV rfl);have fin:Q' (.c 15 0 (ay m0 m1 12).length (.a 0),⟨2,[.a ((ay m0 m1 12).map (AV.a .i64)) true (some 1),bB ng lg s e g [m0,m1] da a b c],[]⟩):=fin;clear hQ;generalize (ay m0 m1 12).map (AV.a .i64)=cs at *;generalize (ay m0 m1 12).length=n at *;generalize ay m0 m1 12=M at *;generalize aR [m0,m1]=sr at *;simp only[az,reduceCtorEq]
   (repeat' first|exact trivial|refine⟨?_,?_⟩|intro)<;>first|contradiction|omega|assumption
theorem Sk(hS:ak Tryz.prog cfg S):ak Tryz.prog cfg (eQ S 138 (fl 14 [] Ta)):=by
 refine bm hS (fW dI.lv Az λargs ws t r he hr=>?_);unfold Ta at he;split at he
 . cases he;replace hr:=aF hr;obtain⟨⟨h1,h2,h3,h4,-⟩,hr⟩:=hr;rw[ao]at h3;cases hr;refine⟨Wf h1 h2 h3 λhn=>?_,λx hx=>?_⟩
   . rw[hn]at h4;cases h4
   . simp only[zAe]at hx;subst hx;exact lV
 . cases he
theorem Sh(hS:ak Tryz.prog cfg S):ak Tryz.prog cfg (bb S 139 SF):=au hS λargs t v he hv=>by
 unfold SF at he;split at he
 . cases he;obtain⟨h1,hv⟩:=bO hv;rw[aE]at h1;cases hv;exact WT h1
 . cases he
end Go.Ev
