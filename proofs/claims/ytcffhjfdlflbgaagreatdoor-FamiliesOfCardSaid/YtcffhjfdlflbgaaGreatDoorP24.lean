import Derived.Test.YtcffhjfdlflbgaaGreatDoorP23
set_option linter.all false
open Int renaming ofNat->ν
open Bool renaming and_true->ξ,true_and->ο
open Nat renaming zero_le->π,le_refl->ς
open HMul renaming hMul->σ
open HAdd renaming hAdd->τ
open Prod renaming snd->υ
open List renaming not_mem_nil->χ
set_option linter.all false
set_option maxRecDepth 100000
set_option maxHeartbeats 4000000
namespace Go.Ev
open Go Go.Proofs
variable{x:cD}{k n nM:Nat}{y g a c:Int}{ng lg:Bool}{S:aQ}
abbrev bB(ng lg:Bool)(s:List UInt8)(e g:Int)(mo da:List UInt8)(a b c:Int):cD:=.a [ng,lg,s,e,g,mo,da,.a .u8 a,.a .u8 b,.a .u8 c] true none
def tu(b0:cD):List Int->aB
 | []=>⟨1,[b0],[]⟩
 | x::xs=>⟨2,[.a ((x::xs).map (AV.a .i64)) true (some 1),b0],[]⟩
def S_:dW:=λ
 | [.h 14 0,.d,.a .i64 m],⟨1,[.a [.e ng,.e lg,.f s,.a .i64 e,.a .i64 g,.f [m0,m1],.f da,.a .u8 a,.a .u8 b,.a .u8 c] true none],[]⟩=>some (aH [fC m0,fC m1,aa m 1] (.a0 (.b 0,[.h 14 0,iC 15 (ay m0 m1 12),.a .i64 13],tu (bB ng lg s e g [m0,m1] da a b c) (ay m0 m1 12))))
 | _,_=>none
def ZH:cx:=iz jE 0 (d9 29 [1,3,4] S_)
def Ta:aav:=λ
 | [.g [.e ng,.e lg,.f s,.a .i64 e,.a .i64 g,.f [m0,m1],.f da,.a .u8 a,.a .u8 b,.a .u8 c]],[]=>some (aH [fC m0,fC m1,aa (aR [m0,m1]) 0,!(gU (ay m0 m1 12))] (.a0 (.b 14 0 (dG (ay m0 m1 12)) (.a 0),[.a (aI (ay m0 m1 12)) true (some 1)])))
 | _,_=>none
def SF:dP:=λ
 | [.a .i64 y,.a .i64 m]=>some (aH [af .i64 y] (.a0 (bP y m)))
 | _=>none
theorem O9:ec eS 250=some (dH 250,aL 250):=by rfl
theorem Mk:(bz (aL 250)).map (·.1)=[0]:=by rfl
theorem aO{cs:List AV}{rw:Bool}{g:Option Nat}{b:Nat}(h:bw cs=[]):cR b (.a cs rw g):=⟨rfl,λi hi=>by
 exfalso;have hi:i∈bw cs:=hi;grind⟩
theorem fx{tn:Nat}{rel:List Nat}{vs vs':List AV}{mid B:List cD}{kb:Nat}(hk:mid.length=k)(hB:B.length=kb)(hn:n=kb+k+1)(hlow:∀b∈B,cR (14+kb) b)(hx:cR (14+kb) x)(hvs:yw (kG (14+kb) [(14+(kb+k),14+(kb+0))] 20) vs=some vs') :
 VW cfg (Cw cfg []) kb tn rel vs ⟨n,x::(mid++B),[]⟩ vs' ⟨kb+1,x::B,[]⟩:=by
 subst hn;have at0:∀(os:List cD) (n i:Nat),(⟨n,os,[]⟩:aB).at i=os.getD (n-1-i) .b:=λos n i=>rfl;refine VW.d0 dI.lv (C:=Cw cfg []) (kb:=kb) (sel:=[kb+k]) zW (by grind) (λs hs=>?_) (by simp) (λp hp=>by grind) rfl rfl (by grind) (λi hi=>?_) (λt ht=>?_) hvs
 . grind
 . have e1:(⟨kb+1,x::B,[]⟩:aB).at i=B.getD (kb-1-i) .b:=by
    grind
   have e2:(⟨kb+k+1,x::(mid++B),[]⟩:aB).at i=B.getD (kb-1-i) .b:=by
    grind
   rw[e1,e2];refine⟨rfl,?_⟩;have hlt:kb-1-i<B.length:=by omega
   rw[zAf,List.getElem?_eq_getElem hlt];exact hlow _ (List.getElem_mem hlt)
 . have:t=0:=by grind
   subst this;refine .inl ⟨?_,?_⟩
   . grind
   . show cR (14+kb) ((⟨kb+k+1,x::(mid++B),[]⟩:aB).at (kb+k));grind
theorem dL.last{v v':AV}{rest:List cD}(hk:rest.length=k)(hn:n=k+1)(hx:cR 14 x)(hv:kG 14 [(14+k,14)] 20 v'=some v):dL [] v [x] (v',⟨n,x::rest,[]⟩):=by
 subst hn;have hv':kG ((Cw cfg []).lo+0) (eM (Cw cfg []).lo 0 [k]) 20 v'=some v:=hv;refine(oX dI.lv (C:=Cw cfg []) (st:=⟨.c0 v' .a0 .a0,1,⟨k+1,x::rest,[]⟩,[],none⟩) (kb:=0) (sel:=[k]) (ts':=.c0 v .a0 .a0) (o':=⟨1,[x],[]⟩) zW (π _) (λs hs=>?_) (by simp) (λp hp=>by grind) rfl rfl rfl (λi hi=>absurd hi (Nat.not_lt_zero i)) (λt ht=>?_) ?_ (λd hd=>by grind) (λi hi=>by grind)).b0 λs hs=>?_
 . grind
 . have:t=0:=by grind
   subst this;refine .inl ⟨?_,?_⟩
   . grind [aB.at]
   . show cR 14 ((⟨k+1,x::rest,[]⟩:aB).at k);grind [aB.at]
 . grind [xB,ob]
 . rw[hs];exact⟨rfl,rfl⟩
theorem WT{m:Int}(hy : -9223372036854775808<=y/\y<=9223372036854775807):bu Tryz.prog cfg 203 [y,m] [] (bP y m) []:=by
 refine jD gx ai (bE 110330008107331142322024220240414124124124) (R:=λQ=>(λ(A F G H I O:Bool)(C P T:Prop)=>(λ(E:Bool)(B:Prop)=>(λ(N:Prop)=>(F->F/\C)/\(F=false->(G->G/\C)/\(G=false->(H->H/\C)/\(H=false->(aa m 11->C)/\(aa m 11=false->(aa m 2->(A->A/\A/\A/\(E->E/\E/\A/\I=false/\A/\(O->P)/\(O=false->T))/\(N->N/\N/\A/\I/\A/\P))/\(B->B/\B/\B/\B/\B/\T))/\(aa m 2=false->Q (.a .i64 31))))))) (E=false)) (not I) (A=false)) (aa (Int.tmod y 4) 0) (aa m 4) (aa m 6) (aa m 9) (not (aa (Int.tmod y 100) 0)) (aa (Int.tmod y 400) 0) (Q (.a .i64 30)) (Q (.a .i64 29)) (Q (.a .i64 28))) (λ_=>by rfl) λQ' hQ=>?_;try dsimp only
 have z:∀k:Int,y.tmod k=0↔y%k=0:=λk=>by grind [Int.dvd_iff_tmod_eq_zero,Int.dvd_iff_emod_eq_zero]
 have fin:∀n:Int,n=bP y m->Q' n:=λn h=>hQ _ (by rw[h]);clear hQ;simp only[az,reduceCtorEq];simp only[z]
 (repeat' first|exact trivial|refine⟨?_,?_⟩|intro)<;>first|omega|grind [bP,Go.Proofs.YtcffhjfdlflbgaaGreatDoor.mlen,Go.Proofs.YtcffhjfdlflbgaaGreatDoor.lp]
theorem acf{b0:cD}{L:List Int}(h:L≠[]):tu b0 L=⟨2,[.a (L.map (AV.a .i64)) true (some 1),b0],[]⟩:=by cases L with|nil=>grind|cons x xs=>rfl
theorem Vu:cu Tryz.prog (cH cfg T9) (Cw cfg []) (lb 250 0) 29 [1,3,4] S_:=by
 intro vs o t Q hv hq J;unfold S_ at hv;split at hv
 . rename_i m ng lg s e g m0 m1 da a b c;cases hv;replace hq:=cO hq;obtain⟨⟨h1,h2,h3,-⟩,hq⟩:=hq;rw[ao]at h3;subst h3;have hq:Q (.b 0,[.h 14 0,iC 15 (ay m0 m1 12),.a .i64 13],tu (bB ng lg s e g [m0,m1] da a b c) (ay m0 m1 12)):=hq;refine ia gx rfl rfl ai (ι:={i:Nat // i<=12}) (λx=>[.h 14 0,iC 15 (ay m0 m1 x.1),.a .i64 ((x.1:Int)+1)]) (λx=>tu (bB ng lg s e g [m0,m1] da a b c) (ay m0 m1 x.1)) (λx=>12-x.1) 1 (λx=>by cases h:ay m0 m1 x.1<;>exact Nat.succ_le_succ (π _)) (λx J=>?_) (ς _) (λJ=>Wk.a0 ⟨⟨0,π _⟩,J,rfl⟩) J;obtain⟨i,hi⟩:=x;dsimp only;have hlen:=eV m0 m1 i;have hs:=aam m0 m1 i;have blow:cR (14+1) (bB ng lg s e g [m0,m1] da a b c):=aO (by rfl);have blow2:∀z∈[bB ng lg s e g [m0,m1] da a b c],cR (14+1) z:=λz hz=>by
    grind
   have fin:i=12->∃vs2 o2,VW cfg (Cw cfg []) 1 29 [1,3,4] [.h 14 0,iC 15 (ay m0 m1 i),.a .i64 ((i:Int)+1)] (tu (bB ng lg s e g [m0,m1] da a b c) (ay m0 m1 i)) vs2 o2/\Q (.b 0,vs2,o2):=λh=>by
    grind [VW.b0]
   have bi:∀b:Bool,bI b=1↔b=true:=λb=>by cases b<;>decide
   by_cases hL:ay m0 m1 i=[]
   . rw[hL]at hs fin ⊢;refine jJ (bE 1121205422004) (R:=λQ=>(λ(F:cD)(A E:AV)(B:Bool)(C:Int)=>(λ(H:AV)(G:Bool)=>(ab ((i:Int)+1) 12->ab 0 ((i:Int)+1)/\ab ((i:Int)+1) 99/\(B->G/\Q (.a,[A,.b 16 0 1 (fg.a 0),H],⟨3,[.a [E] true (some 1),.a [E] true none,F],[]⟩))/\(B=false->G/\Q (.a,[A,.d,H],⟨1,[F],[]⟩)))/\(ab ((i:Int)+1) 12=false->Q (.b 0,[A,.d,E],⟨1,[F],[]⟩))) (.a .i64 C) (af .i64 C)) (.a [.e ng,.e lg,.f s,.a .i64 e,.a .i64 g,.f [m0,m1],.f da,.a .u8 a,.a .u8 b,.a .u8 c] true none) (.h 14 0) (.a .i64 ((i:Int)+1)) (aa (cond (agr [m0,m1] ((i:Int)+1)) 1 0) 1) (Int.add ((i:Int)+1) 1)) (λ_=>by rfl) λQ' hQ=>?_;try dsimp only
     cases ha:agr [m0,m1] ((i:Int)+1)with
     | true=>
       rw[ha]at hs;have next:i<12->∃y:{i:Nat // i<=12},12-y.1<12-i/\VW cfg (Cw cfg []) 1 29 [1,3,4] [.h 14 0,.b 16 0 1 (.a 0),.a .i64 ((i:Int)+1+1)] ⟨3,[.a [.a .i64 ((i:Int)+1)] true (some 1),.a [.a .i64 ((i:Int)+1)] true none,bB ng lg s e g [m0,m1] da a b c],[]⟩ [.h 14 0,iC 15 (ay m0 m1 y.1),.a .i64 ((y.1:Int)+1)] (tu (bB ng lg s e g [m0,m1] da a b c) (ay m0 m1 y.1)):=λh=>by
        refine⟨⟨i+1,by omega⟩,by dsimp only;omega,?_⟩;dsimp only;rw[hs];exact fx (x:=.a [.a .i64 ((i:Int)+1)] true (some 1)) (mid:=[.a [.a .i64 ((i:Int)+1)] true none]) (B:=[bB ng lg s e g [m0,m1] da a b c]) rfl rfl rfl blow2 (aO rfl) rfl
       clear hs hq;simp only[az,reduceCtorEq]
       (repeat' first|exact trivial|refine⟨?_,?_⟩|intro)<;>first|contradiction|omega|assumption|exact hQ _ (fin (by omega))|exact hQ _ (next (by omega))|skip
     | false=>
       rw[ha]at hs;have next:i<12->∃y:{i:Nat // i<=12},12-y.1<12-i/\VW cfg (Cw cfg []) 1 29 [1,3,4] [.h 14 0,.d,.a .i64 ((i:Int)+1+1)] ⟨1,[bB ng lg s e g [m0,m1] da a b c],[]⟩ [.h 14 0,iC 15 (ay m0 m1 y.1),.a .i64 ((y.1:Int)+1)] (tu (bB ng lg s e g [m0,m1] da a b c) (ay m0 m1 y.1)):=λh=>by
        refine⟨⟨i+1,by omega⟩,by dsimp only;omega,?_⟩;dsimp only;rw[hs];exact VW.a0
       clear hs hq;simp only[az,reduceCtorEq]
       (repeat' first|exact trivial|refine⟨?_,?_⟩|intro)<;>first|contradiction|omega|assumption|exact hQ _ (fin (by omega))|exact hQ _ (next (by omega))|skip
   . rw[jr hL,acf hL]at fin ⊢;refine jJ (bE 1121124520422004) (R:=λQ=>(λ(H:cD)(A G I:AV)(B E:Bool)(F:Int)(C:Nat)=>(λ(O:AV)(N:Bool)=>(ab ((i:Int)+1) 12->ab 0 ((i:Int)+1)/\ab ((i:Int)+1) 99/\(B->and (and (Nat.ble C 1000000) true) true/\(E->N/\Q (.a,[A,.b 17 0 C (fg.a 0),O],⟨4,[.a (((ay m0 m1 i).map (AV.a .i64))++[G]) true (some 1),.a [G] true none,cD.b,H],[]⟩))/\(E=false->False))/\(B=false->N/\Q (.a,[A,I,O],⟨2,[.a ((ay m0 m1 i).map (AV.a .i64)) true (some 1),H],[]⟩)))/\(ab ((i:Int)+1) 12=false->Q (.b 0,[A,I,G],⟨2,[.a ((ay m0 m1 i).map (AV.a .i64)) true (some 1),H],[]⟩))) (.a .i64 F) (af .i64 F)) (.a [.e ng,.e lg,.f s,.a .i64 e,.a .i64 g,.f [m0,m1],.f da,.a .u8 a,.a .u8 b,.a .u8 c] true none) (.h 14 0) (.a .i64 ((i:Int)+1)) (.b 15 0 (ay m0 m1 i).length (fg.a 0)) (aa (cond (agr [m0,m1] ((i:Int)+1)) 1 0) 1) (and true (Nat.beq ((ay m0 m1 i).map (AV.a .i64)).length (σ (ay m0 m1 i).length 1))) (Int.add ((i:Int)+1) 1) (τ (ay m0 m1 i).length 1)) (λ_=>by kernel_rfl) λQ' hQ=>?_;try dsimp only
     have aX:∀n:Nat,Nat.beq n (n*1)=true:=λn=>by rw[Nat.mul_one];exact gm rfl
     have hcl:((ay m0 m1 i).map (AV.a .i64)).length=(ay m0 m1 i).length:=List.length_map _;cases ha:agr [m0,m1] ((i:Int)+1)with
     | true=>
       rw[ha]at hs;have he:ay m0 m1 (i+1)=ay m0 m1 i++[(i:Int)+1]:=hs;have hne:ay m0 m1 (i+1)≠[]:=by rw[he];simp
       have next:i<12->∃y:{i:Nat // i<=12},12-y.1<12-i/\VW cfg (Cw cfg []) 1 29 [1,3,4] [.h 14 0,.b 17 0 ((ay m0 m1 i).length+1) (.a 0),.a .i64 ((i:Int)+1+1)] ⟨4,[.a ((ay m0 m1 i).map (AV.a .i64)++[.a .i64 ((i:Int)+1)]) true (some 1),.a [.a .i64 ((i:Int)+1)] true none,.b,bB ng lg s e g [m0,m1] da a b c],[]⟩ [.h 14 0,iC 15 (ay m0 m1 y.1),.a .i64 ((y.1:Int)+1)] (tu (bB ng lg s e g [m0,m1] da a b c) (ay m0 m1 y.1)):=λh=>by
        refine⟨⟨i+1,by omega⟩,by dsimp only;omega,?_⟩;dsimp only;rw[jr hne,acf hne,he,List.map_append,zAe];refine fx (x:=.a ((ay m0 m1 i).map (AV.a .i64)++[.a .i64 ((i:Int)+1)]) true (some 1)) (mid:=[.a [.a .i64 ((i:Int)+1)] true none,.b]) (B:=[bB ng lg s e g [m0,m1] da a b c]) (k:=2) (kb:=1) rfl rfl rfl blow2 ?_ ?_
        . have:=@lV (ay m0 m1 i++[(i:Int)+1]) true (some 1) 15
          rwa [List.map_append]at this
        . rfl
       clear hs hq he hne;generalize (ay m0 m1 i).map (AV.a .i64)=cs at *;generalize (ay m0 m1 i).length=n at *;simp only[az,reduceCtorEq];try simp only[aX,ξ,ο,aJ,b9,al]
       (repeat' first|exact trivial|refine⟨?_,?_⟩|intro)<;>first|contradiction|omega|assumption|exact hQ _ (fin (by omega))|exact hQ _ (next (by omega))|(exfalso;simp_all;done)|(exfalso;simp_all;omega)
     | false=>
       rw[ha]at hs;have he:ay m0 m1 (i+1)=ay m0 m1 i:=by rw[hs];simp
       have next:i<12->∃y:{i:Nat // i<=12},12-y.1<12-i/\VW cfg (Cw cfg []) 1 29 [1,3,4] [.h 14 0,.b 15 0 (ay m0 m1 i).length (.a 0),.a .i64 ((i:Int)+1+1)] ⟨2,[.a ((ay m0 m1 i).map (AV.a .i64)) true (some 1),bB ng lg s e g [m0,m1] da a b c],[]⟩ [.h 14 0,iC 15 (ay m0 m1 y.1),.a .i64 ((y.1:Int)+1)] (tu (bB ng lg s e g [m0,m1] da a b c) (ay m0 m1 y.1)):=λh=>by
        refine⟨⟨i+1,by omega⟩,by dsimp only;omega,?_⟩;dsimp only;rw[he,jr hL,acf hL];exact VW.a0
       clear hs hq he;generalize (ay m0 m1 i).map (AV.a .i64)=cs at *;generalize (ay m0 m1 i).length=n at *;simp only[az,reduceCtorEq];try simp only[aX,ξ,ο,aJ,b9,al]
       (repeat' first|exact trivial|refine⟨?_,?_⟩|intro)<;>first|contradiction|omega|assumption|exact hQ _ (fin (by omega))|exact hQ _ (next (by omega))|(exfalso;simp_all;done)|(exfalso;simp_all;omega)
 . cases hv
theorem Wf{s:List UInt8}{e:Int}{m0 m1:UInt8}{da:List UInt8}{b:Int}(h0:fC m0)(h1:fC m1)(hse:aR [m0,m1]=0)(hL:ay m0 m1 12≠[]) :
 bu Tryz.prog cfg 250 [.g [ng,lg,s,e,g,.f [m0,m1],da,.a .u8 a,.a .u8 b,.a .u8 c]] [] (.b 14 0 (dG (ay m0 m1 12)) (.a 0)) [.a (aI (ay m0 m1 12)) true (some 1)]:=by
 refine Bu gx (L:=ZH) O9 (by simp) (dv Mk λi hi e he st Q hw=>?_) (jJ (bE 1022356) (R:=λQ=>(λ(A:List Int)=>not (ab (aR [m0,m1]) 0)=false/\fC m0/\fC m1/\(∀J1:Nat->Value,Q (Prod.fst (Prod.fst (iC 15 A,υ ([.h 14 0,iC 15 A,.a .i64 13],tu (.a [ng,lg,s,e,g,.f [m0,m1],da,.a .u8 a,.a .u8 b,.a .u8 c] true none) A)),υ (iC 15 A,υ ([.h 14 0,iC 15 A,.a .i64 13],tu (.a [ng,lg,s,e,g,.f [m0,m1],da,.a .u8 a,.a .u8 b,.a .u8 c] true none) A))),υ (Prod.fst (iC 15 A,υ ([.h 14 0,iC 15 A,.a .i64 13],tu (.a [ng,lg,s,e,g,.f [m0,m1],da,.a .u8 a,.a .u8 b,.a .u8 c] true none) A)),υ (iC 15 A,υ ([.h 14 0,iC 15 A,.a .i64 13],tu (.a [ng,lg,s,e,g,.f [m0,m1],da,.a .u8 a,.a .u8 b,.a .u8 c] true none) A)))))) (ay m0 m1 12)) (λ_=>by kernel_rfl) λQ' hQ=>?_)
 . have hi:i=0:=by grind
   subst hi;cases he;exact bR (cC.a0 gx) (by decide) rfl Vu hw
 . try dsimp only
   rw[jr hL,acf hL];have fin:=hQ (_,_) (dL.last (v:=.b 14 0 (dG (ay m0 m1 12)) (.a 0)) (v':=.b 15 0 (dG (ay m0 m1 12)) (.a 0)) (x:=.a (aI (ay m0 m1 12)) true (some 1)) (rest:=[bB ng lg s e g [m0,m1] da a b c]) (k:=1) (n:=2) rfl rfl lV rfl);have fin:Q' (.b 15 0 (ay m0 m1 12).length (.a 0),⟨2,[.a ((ay m0 m1 12).map (AV.a .i64)) true (some 1),bB ng lg s e g [m0,m1] da a b c],[]⟩):=fin;simp_all [az]
theorem Sk(hS:ak Tryz.prog cfg S):ak Tryz.prog cfg (eQ S 250 (fl 14 [] Ta)):=by
 refine bm hS (fW dI.lv Az λargs ws t r he hr=>?_);unfold Ta at he;split at he
 . cases he;replace hr:=aF hr;obtain⟨⟨h1,h2,h3,h4,-⟩,hr⟩:=hr;rw[ao]at h3;cases hr;refine⟨Wf h1 h2 h3 λhn=>?_,λx hx=>?_⟩
   . rw[hn]at h4;cases h4
   . simp only[List.mem_singleton]at hx;subst hx;exact lV
 grind
theorem Sh(hS:ak Tryz.prog cfg S):ak Tryz.prog cfg (d5 S 203 SF):=au hS λargs t v he hv=>by
 unfold SF at he;split at he
 . cases he;obtain⟨h1,hv⟩:=eL hv;rw[aE]at h1;cases hv;exact WT h1
 grind
noncomputable def Z1:aQ:=eQ (d5 T9 203 SF) 250 (fl 14 [] Ta)
theorem q_:ak Tryz.prog cfg Z1:=Sk (Sh gx)
def cS(w:List AV)(i:Nat):Int:=dx (w.getD i (.c []))
def ki(d0 d1:UInt8)(y m:Int):List Int:=ay d0 d1 (bP y m).toNat
def dU(y m:Int):List Int->List AV
 | []=>[]
 | d::ds=>y::m::d::dU y m ds
def N1(n:Nat):AV:=match n with
 | 0=>.d
 | k+1=>.b 16 0 (k+1) (.a 0)
def g9(n:Nat)(cs:List AV)(mb b0:cD):aB:=match n with
 | 0=>⟨2,[mb,b0],[]⟩
 | _+1=>⟨3,[.a cs true (some 3),mb,b0],[]⟩
def iw(cs:List AV):Bool:=(bw cs).isEmpty
def Zs(y:Int)(nM:Nat)(i:Int)(mb b0:cD)(m:Int)(D:List Int):Tr (AX×List AV×aB):=.a0 (.b 2,[.a .i64 y,.h 14 0,N1 D.length,.b 15 0 nM (.a 0),.a .i64 i,.a .i64 (bP y m+1)],g9 D.length (dU y m D) mb b0)
def zH(n k:Nat):AV:=match k with
 | 0=>.b 16 0 n (.a 0)
 | k+1=>.b 17 0 (n+(k+1)) (.a 0)
def zL(k:Nat)(cs cs':List AV)(mb b0:cD):aB:=match k with
 | 0=>⟨3,[.a cs true (some 3),mb,b0],[]⟩
 | _+1=>⟨4,[.a cs' true (some 3),.b,mb,b0],[]⟩
def Yn(y:Int)(nM:Nat)(i:Int)(n:Nat)(cs:List AV)(mb b0:cD)(m:Int)(D:List Int):Tr (AX×List AV×aB):=.a0 (.b 2,[.a .i64 y,.h 14 0,zH n D.length,.b 15 0 nM (.a 0),.a .i64 i,.a .i64 (bP y m+1)],zL D.length cs (cs++dU y m D) mb b0)
def Lp:dW:=λ
 | [.a .i64 y,.h 14 0,.d,.b 15 0 nM (.a 0),.a .i64 i,.a .i64 d],⟨2,[.a w true (some 1),.a [.e ng,.e lg,.f s,.a .i64 e,.a .i64 g,.f mo,.f [d0,d1],.a .u8 a,.a .u8 b,.a .u8 c] true none],[]⟩=>
   some (aH [aa d 1,ab 0 i,aS i.toNat nM,Nat.ble nM 1000,ab1 y,fC d0,fC d1,eB .i64 (w.getD i.toNat (.c [])),iw w] (Zs y nM i (.a w true (some 1)) (bB ng lg s e g mo [d0,d1] a b c) (cS w i.toNat) (ki d0 d1 y (cS w i.toNat))))
 | [.a .i64 y,.h 14 0,.b 16 0 n (.a 0),.b 15 0 nM (.a 0),.a .i64 i,.a .i64 d],⟨3,[.a cs true (some 3),.a w true (some 1),.a [.e ng,.e lg,.f s,.a .i64 e,.a .i64 g,.f mo,.f [d0,d1],.a .u8 a,.a .u8 b,.a .u8 c] true none],[]⟩=>
   some (aH [aa d 1,ab 0 i,aS i.toNat nM,Nat.ble nM 1000,ab1 y,fC d0,fC d1,eB .i64 (w.getD i.toNat (.c [])),iw w,Nat.beq cs.length (n*3),aS 0 n,Nat.ble n 40000,iw cs] (Yn y nM i n cs (.a w true (some 1)) (bB ng lg s e g mo [d0,d1] a b c) (cS w i.toNat) (ki d0 d1 y (cS w i.toNat))))
 | _,_=>none
def W9:cx:=iz jE 2 (d9 55 [1,2,5,6,7,8] Lp)
theorem Py(ng lg:Bool)(s:List UInt8)(e g:Int)(mo da:List UInt8)(a b c y d:Int)(w cs:List AV)(nM i n:Nat)(J:Nat->Value){Q:VQ->Prop}:gG Q (rT Z1 jE [] 185 1 55 [1,2,5,6,7,8] [y,.h 14 0,.b 16 0 n (.a 0),.b 15 0 nM (.a 0),(ν i),d] J ⟨3,[.a cs true (some 3),.a w true (some 1),bB ng lg s e g mo da a b c],[]⟩) (bE 1112112452022042200420420)=((λ(U V:cD)(A B E H T:AV)(I O:Bool)(C:fg)(P:Int)(N:Nat)=>(λ(G Z u1:AV)(F W Y:Bool)(u0:List AV)=>aS i nM/\(F->af .i64 y/\(W->ab 0 d/\ab d 99/\(I->aS i nM/\F/\and (and (Nat.ble N 1000000) true) true/\(O->Y/\Q (.a,[A,B,.b 18 0 N C,G,E,Z],⟨5,[.a (cs++u0) true (some 3),.a u0 true none,cD.b,U,V],[]⟩))/\(O=false->False))/\(I=false->Y/\Q (.a,[A,B,u1,G,E,Z],⟨3,[.a cs true (some 3),U,V],[]⟩)))/\(W=false->Q (.b 2,[A,B,u1,G,E,T],⟨3,[.a cs true (some 3),U,V],[]⟩)))/\(F=false->False)) (.b 15 0 nM C) P (.b 16 0 n C) (eB .i64 H) (ab d (bP y (dx H))) (af .i64 P) [A,(dx H),T]) (.a w true (some 1)) (.a [ng,lg,s,e,g,mo,da,.a .u8 a,.a .u8 b,.a .u8 c] true none) y (.h 14 0) (ν i) (List.getD w (τ 0 (σ i 1)) (.c [])) d (aa (cond (agr da d) 1 0) 1) (and true (Nat.beq cs.length (σ n 3))) (fg.a 0) (Int.add d 1) (τ n 1)):=by rfl
theorem ag3:((bz (lb 185 0)).getD 0 (0,.skip)).2=lb 185 1:=by rfl
theorem IT:(bz (lb 185 0)).map (·.1)=[2]:=by rfl
theorem DE:(bz (aL 185)).map (·.1)=[0,2]:=by rfl
theorem Hm:ec eS 185=some (dH 185,aL 185):=by rfl
theorem gj{cs:List AV}:iw cs=true↔bw cs=[]:=by grind [iw]
theorem aar:∀{a b:List AV},bw (a++b)=bw a++bw b
 | [],b=>rfl
 | x::a,b=>by simp only[List.cons_append,bw,aar (a:=a) (b:=b),List.append_assoc]
theorem oK{y m:Int}:∀{D:List Int},bw (dU y m D)=[]
 | []=>rfl
 | d::ds=>by simp only[dU,bw,aC,List.nil_append];exact oK
theorem yA{y m:Int}:∀{a b:List Int},dU y m (a++b)=dU y m a++dU y m b
 | [],b=>rfl
 | x::a,b=>by simp only[List.cons_append,dU,yA (a:=a) (b:=b)]
theorem sB{y m:Int}:∀{D:List Int},(dU y m D).length=D.length*3
 | []=>rfl
 | d::ds=>by simp only[dU,zAd,sB (D:=ds)];omega
theorem fZ(h:0<n):N1 n=.b 16 0 n (.a 0):=by cases n with|zero=>omega|succ k=>rfl
theorem gd(h:0<n){cs:List AV}{mb b0:cD}:g9 n cs mb b0=⟨3,[.a cs true (some 3),mb,b0],[]⟩:=by cases n with|zero=>omega|succ k=>rfl
theorem E9{cs:List AV}{mb b0:cD}:2<=(g9 n cs mb b0).n:=by
 cases n with
 | zero=>exact ς _
 | succ k=>exact Nat.le_succ _
theorem Sg{cs cs':List AV}{mb b0:cD}:3<=(zL k cs cs' mb b0).n:=by
 cases k with
 | zero=>exact ς _
 | succ k=>exact Nat.le_succ _
theorem LQ{Q:VQ->Prop}{s:List UInt8}{e:Int}{mo:List UInt8}{d0 d1:UInt8}{b:Int}{w:List AV}{i:Nat}{J:Nat->Value}(hy : -10000000000000000<=y/\y<=10000000000000000)(hi:i<nM)(hM:nM<=1000)(hk:eB .i64 (w.getD i (.c [])))(hw:iw w)
 (hq:Q (.b 2,[.a .i64 y,.h 14 0,N1 (ki d0 d1 y (cS w i)).length,.b 15 0 nM (.a 0),.a .i64 (ν i),.a .i64 (bP y (cS w i)+1)],g9 (ki d0 d1 y (cS w i)).length (dU y (cS w i) (ki d0 d1 y (cS w i))) (.a w true (some 1)) (bB ng lg s e g mo [d0,d1] a b c))) :
 bN Tryz.prog (cH cfg Z1) (Cw cfg []) (.loop (lb 185 1)) (tr 55 [1,2,5,6,7,8] [.a .i64 y,.h 14 0,.d,.b 15 0 nM (.a 0),.a .i64 (ν i),.a .i64 (1)] J ⟨2,[.a w true (some 1),bB ng lg s e g mo [d0,d1] a b c],[]⟩) λr=>∃ax vs' o' J',Q (ax,vs',o')/\r=(ax,tr 55 [1,2,5,6,7,8] vs' J' o'):=by
 have hml:=mr y (cS w i);refine ia q_ rfl rfl ai (ι:={j:Nat // j<=(bP y (cS w i)).toNat}) (λx=>[.a .i64 y,.h 14 0,N1 (ay d0 d1 x.1).length,.b 15 0 nM (.a 0),.a .i64 (ν i),.a .i64 ((x.1:Int)+1)]) (λx=>g9 (ay d0 d1 x.1).length (dU y (cS w i) (ay d0 d1 x.1)) (.a w true (some 1)) (bB ng lg s e g mo [d0,d1] a b c)) (λx=>(bP y (cS w i)).toNat-x.1) 2 (λx=>E9) (λx J=>?_) (ς _) (λJ=>Wk.a0 ⟨⟨0,π _⟩,J,rfl⟩) J;obtain⟨j,hj⟩:=x;dsimp only;have hlen:=eV d0 d1 j;have hs:=aam d0 d1 j;have wl:cR (14+2) (.a w true (some 1)):=aO (gj.1 hw);have bl:cR (14+2) (bB ng lg s e g mo [d0,d1] a b c):=aO (by rfl);have fin:bP y (cS w i)<(j:Int)+1->∃vs2 o2,VW cfg (Cw cfg []) 2 55 [1,2,5,6,7,8] [.a .i64 y,.h 14 0,N1 (ay d0 d1 j).length,.b 15 0 nM (.a 0),.a .i64 (ν i),.a .i64 ((j:Int)+1)] (g9 (ay d0 d1 j).length (dU y (cS w i) (ay d0 d1 j)) (.a w true (some 1)) (bB ng lg s e g mo [d0,d1] a b c)) vs2 o2/\Q (.b 2,vs2,o2):=λh=>by
  have e:j=(bP y (cS w i)).toNat:=by omega
  have e2:(j:Int)+1=bP y (cS w i)+1:=by omega
  rw[e2];subst e;exact⟨_,_,VW.a0,hq⟩
 have hi0:0+i*1=i:=by omega
 have hA:cS w i=dx (w.getD i (.c [])):=rfl;have go:(j:Int)+1<=bP y (cS w i)->∀vs o,VW cfg (Cw cfg []) 2 55 [1,2,5,6,7,8] vs o [.a .i64 y,.h 14 0,N1 (ay d0 d1 (j+1)).length,.b 15 0 nM (.a 0),.a .i64 (ν i),.a .i64 ((j:Int)+1+1)] (g9 (ay d0 d1 (j+1)).length (dU y (cS w i) (ay d0 d1 (j+1))) (.a w true (some 1)) (bB ng lg s e g mo [d0,d1] a b c))->∃x:{j:Nat // j<=(bP y (cS w i)).toNat},(bP y (cS w i)).toNat-x.1<(bP y (cS w i)).toNat-j/\VW cfg (Cw cfg []) 2 55 [1,2,5,6,7,8] vs o [.a .i64 y,.h 14 0,N1 (ay d0 d1 x.1).length,.b 15 0 nM (.a 0),.a .i64 (ν i),.a .i64 ((x.1:Int)+1)] (g9 (ay d0 d1 x.1).length (dU y (cS w i) (ay d0 d1 x.1)) (.a w true (some 1)) (bB ng lg s e g mo [d0,d1] a b c)):=λhle vs o hv=>⟨⟨j+1,by omega⟩,by grind,hv⟩;have hids:bw (dU y (cS w i) (ay d0 d1 j))=[]:=by exact oK
 have hlenc:(dU y (cS w i) (ay d0 d1 j)).length=((ay d0 d1 j).length)*3:=by rw[sB]
 clear hq;by_cases hD:ay d0 d1 j=[]
 . . rw[hD]at fin ⊢
     refine jJ (bE 1112120522042200420420) (R:=λQ=>(λ(O P:cD)(A B C E G N:AV)(H:Bool)(I:Int)=>(λ(V:AV)(F T U:Bool)(W:List AV)=>aS i nM/\(F->af .i64 y/\(T->ab 0 ((j:Int)+1)/\ab ((j:Int)+1) 99/\(H->aS i nM/\F/\U/\Q (.a,[A,B,.b 17 0 1 (fg.a 0),C,E,V],⟨4,[.a W true (some 3),.a W true none,O,P],[]⟩))/\(H=false->U/\Q (.a,[A,B,.d,C,E,V],⟨2,[O,P],[]⟩)))/\(T=false->Q (.b 2,[A,B,.d,C,E,N],⟨2,[O,P],[]⟩)))/\(F=false->False)) (.a .i64 I) (eB .i64 G) (ab ((j:Int)+1) (bP y (dx G))) (af .i64 I) [A,.a .i64 (dx G),N]) (.a w true (some 1)) (.a [.e ng,.e lg,.f s,.a .i64 e,.a .i64 g,.f mo,.f [d0,d1],.a .u8 a,.a .u8 b,.a .u8 c] true none) (.a .i64 y) (.h 14 0) (.b 15 0 nM (fg.a 0)) (.a .i64 (ν i)) (List.getD w (τ 0 (σ i 1)) (.c [])) (.a .i64 ((j:Int)+1)) (aa (cond (agr [d0,d1] ((j:Int)+1)) 1 0) 1) (Int.add ((j:Int)+1) 1)) (λ_=>by rfl) λQ' hQ=>?_;try dsimp only
     have fin2:bP y (cS w i)<(j:Int)+1->Q' (.b 2,[.a .i64 y,.h 14 0,.d,.b 15 0 nM (.a 0),.a .i64 (ν i),.a .i64 ((j:Int)+1)],⟨2,[.a w true (some 1),bB ng lg s e g mo [d0,d1] a b c],[]⟩):=λh=>hQ _ (fin h);cases ha:agr [d0,d1] ((j:Int)+1)with
     | true=>
       rw[ha]at hs;have hs:ay d0 d1 (j+1)=ay d0 d1 j++[(j:Int)+1]:=hs;have go2:(j:Int)+1<=bP y (cS w i)->Q' (.a,[.a .i64 y,.h 14 0,.b 17 0 1 (.a 0),.b 15 0 nM (.a 0),.a .i64 (ν i),.a .i64 ((j:Int)+1+1)],⟨4,[.a [.a .i64 y,.a .i64 (cS w i),.a .i64 ((j:Int)+1)] true (some 3),.a [.a .i64 y,.a .i64 (cS w i),.a .i64 ((j:Int)+1)] true none,.a w true (some 1),bB ng lg s e g mo [d0,d1] a b c],[]⟩):=λh=>hQ (.a,_,_) (go h _ _ (by
        rw[hs,hD];exact fx (x:=.a [.a .i64 y,.a .i64 (cS w i),.a .i64 ((j:Int)+1)] true (some 3)) (mid:=[.a [.a .i64 y,.a .i64 (cS w i),.a .i64 ((j:Int)+1)] true none]) (B:=[.a w true (some 1),bB ng lg s e g mo [d0,d1] a b c]) (k:=1) (kb:=2) (n:=4) rfl rfl rfl (λz hz=>by
         grind) (aO rfl) rfl))
       simp_all [az];omega
     | false=>
       rw[ha]at hs;have hs:ay d0 d1 (j+1)=ay d0 d1 j:=by rw[hs];simp
       have go2:(j:Int)+1<=bP y (cS w i)->Q' (.a,[.a .i64 y,.h 14 0,.d,.b 15 0 nM (.a 0),.a .i64 (ν i),.a .i64 ((j:Int)+1+1)],⟨2,[.a w true (some 1),bB ng lg s e g mo [d0,d1] a b c],[]⟩):=λh=>hQ (.a,_,_) (go h _ _ (by
        rw[hs,hD];exact VW.a0))
       clear hQ go fin hs hids;rw[hi0,hk,<-hA];try simp only[zAj]
       clear hA hk;generalize cS w i=m at *;simp only[az,reduceCtorEq];try simp only[ο,ξ,aJ,b9,al]
       (repeat' first|exact trivial|refine⟨?_,?_⟩|intro)<;>first|contradiction|omega|assumption|exact go2 (by assumption)|exact fin2 (by omega)|(exfalso;simp_all;done)|(exfalso;simp_all;omega)
 . . have hpos:0<(ay d0 d1 j).length:=List.length_pos_iff.2 hD
     clear hD;have hD:True:=trivial;rw[fZ hpos,gd hpos]at fin;rw[fZ hpos,gd hpos];refine eD λQ' hQ=>cg ((Py ng lg s e g mo [d0,d1] a b c y ((j:Int)+1) w (dU y (cS w i) (ay d0 d1 j)) nM i (ay d0 d1 j).length J).mpr ?_);dsimp only;have fin2:bP y (cS w i)<(j:Int)+1->Q' (.b 2,[.a .i64 y,.h 14 0,.b 16 0 (ay d0 d1 j).length (.a 0),.b 15 0 nM (.a 0),.a .i64 (ν i),.a .i64 ((j:Int)+1)],⟨3,[.a (dU y (cS w i) (ay d0 d1 j)) true (some 3),.a w true (some 1),bB ng lg s e g mo [d0,d1] a b c],[]⟩):=λh=>hQ _ (fin h);cases ha:agr [d0,d1] ((j:Int)+1)with
     | true=>
       rw[ha]at hs;have hs:ay d0 d1 (j+1)=ay d0 d1 j++[(j:Int)+1]:=hs;have go2:(j:Int)+1<=bP y (cS w i)->Q' (.a,[.a .i64 y,.h 14 0,.b 18 0 ((ay d0 d1 j).length+1) (.a 0),.b 15 0 nM (.a 0),.a .i64 (ν i),.a .i64 ((j:Int)+1+1)],⟨5,[.a (dU y (cS w i) (ay d0 d1 j)++[.a .i64 y,.a .i64 (cS w i),.a .i64 ((j:Int)+1)]) true (some 3),.a [.a .i64 y,.a .i64 (cS w i),.a .i64 ((j:Int)+1)] true none,.b,.a w true (some 1),bB ng lg s e g mo [d0,d1] a b c],[]⟩):=λh=>hQ (.a,_,_) (go h _ _ (by
        rw[hs,zAe,yA];exact fx (tn:=55) (rel:=[1,2,5,6,7,8]) (vs:=[.a .i64 y,.h 14 0,.b 18 0 ((ay d0 d1 j).length+1) (.a 0),.b 15 0 nM (.a 0),.a .i64 (ν i),.a .i64 ((j:Int)+1+1)]) (vs':=[.a .i64 y,.h 14 0,.b 16 0 ((ay d0 d1 j).length+1) (.a 0),.b 15 0 nM (.a 0),.a .i64 (ν i),.a .i64 ((j:Int)+1+1)]) (x:=.a (dU y (cS w i) (ay d0 d1 j)++[.a .i64 y,.a .i64 (cS w i),.a .i64 ((j:Int)+1)]) true (some 3)) (mid:=[.a [.a .i64 y,.a .i64 (cS w i),.a .i64 ((j:Int)+1)] true none,.b]) (B:=[.a w true (some 1),bB ng lg s e g mo [d0,d1] a b c]) (k:=2) (kb:=2) (n:=5) rfl rfl rfl (λz hz=>by
         simp only[List.mem_cons,χ,or_false]at hz;rcases hz with rfl|rfl
         . exact wl
         . exact bl) (aO (by rw[aar,hids];rfl)) rfl))
       clear hQ go fin hs hids;rw[hi0,hk,<-hA];try simp only[zAj]
       clear hA hk;generalize cS w i=m at *;generalize dU y m (ay d0 d1 j)=C at *;generalize (ay d0 d1 j).length=N at *;simp only[az,reduceCtorEq];try simp only[ο,ξ,aJ,b9,al]
       (repeat' first|exact trivial|refine⟨?_,?_⟩|intro)<;>first|contradiction|omega|assumption|exact go2 (by assumption)|exact fin2 (by omega)|(exfalso;simp_all;done)|(exfalso;simp_all;omega)
     | false=>
       rw[ha]at hs;have hs:ay d0 d1 (j+1)=ay d0 d1 j:=by rw[hs];simp
       have go2:(j:Int)+1<=bP y (cS w i)->Q' (.a,[.a .i64 y,.h 14 0,.b 16 0 (ay d0 d1 j).length (.a 0),.b 15 0 nM (.a 0),.a .i64 (ν i),.a .i64 ((j:Int)+1+1)],⟨3,[.a (dU y (cS w i) (ay d0 d1 j)) true (some 3),.a w true (some 1),bB ng lg s e g mo [d0,d1] a b c],[]⟩):=λh=>hQ (.a,_,_) (go h _ _ (by
        rw[hs,fZ hpos,gd hpos];exact VW.a0))
       clear hQ go fin hs hids;rw[hi0,hk,<-hA];try simp only[zAj]
       clear hA hk;generalize cS w i=m at *;generalize dU y m (ay d0 d1 j)=C at *;generalize (ay d0 d1 j).length=N at *;simp only[az,reduceCtorEq];try simp only[ο,ξ,aJ,b9,al]
       (repeat' first|exact trivial|refine⟨?_,?_⟩|intro)<;>first|contradiction|omega|assumption|exact go2 (by assumption)|exact fin2 (by omega)|(exfalso;simp_all;done)|(exfalso;simp_all;omega)
theorem ac1(h:0<k):zH n k=.b 17 0 (n+k) (.a 0):=by cases k with|zero=>omega|succ k=>rfl
theorem zp(h:0<k){cs cs':List AV}{mb b0:cD}:zL k cs cs' mb b0=⟨4,[.a cs' true (some 3),.b,mb,b0],[]⟩:=by cases k with|zero=>omega|succ k=>rfl
theorem Ko{Q:VQ->Prop}{s:List UInt8}{e:Int}{mo:List UInt8}{d0 d1:UInt8}{b:Int}{w cs:List AV}{i:Nat}{J:Nat->Value}(hy : -10000000000000000<=y/\y<=10000000000000000)(hi:i<nM)(hM:nM<=1000)(hk:eB .i64 (w.getD i (.c [])))(hw:iw w)(hc:cs.length=n*3)(hn:n<=40000)(hcs:iw cs)
 (hq:Q (.b 2,[.a .i64 y,.h 14 0,zH n (ki d0 d1 y (cS w i)).length,.b 15 0 nM (.a 0),.a .i64 (ν i),.a .i64 (bP y (cS w i)+1)],zL (ki d0 d1 y (cS w i)).length cs (cs++dU y (cS w i) (ki d0 d1 y (cS w i))) (.a w true (some 1)) (bB ng lg s e g mo [d0,d1] a b c))) :
 bN Tryz.prog (cH cfg Z1) (Cw cfg []) (.loop (lb 185 1)) (tr 55 [1,2,5,6,7,8] [.a .i64 y,.h 14 0,.b 16 0 n (.a 0),.b 15 0 nM (.a 0),.a .i64 (ν i),.a .i64 (1)] J ⟨3,[.a cs true (some 3),.a w true (some 1),bB ng lg s e g mo [d0,d1] a b c],[]⟩) λr=>∃ax vs' o' J',Q (ax,vs',o')/\r=(ax,tr 55 [1,2,5,6,7,8] vs' J' o'):=by
 have hml:=mr y (cS w i);refine ia q_ rfl rfl ai (ι:={j:Nat // j<=(bP y (cS w i)).toNat}) (λx=>[.a .i64 y,.h 14 0,zH n (ay d0 d1 x.1).length,.b 15 0 nM (.a 0),.a .i64 (ν i),.a .i64 ((x.1:Int)+1)]) (λx=>zL (ay d0 d1 x.1).length cs (cs++dU y (cS w i) (ay d0 d1 x.1)) (.a w true (some 1)) (bB ng lg s e g mo [d0,d1] a b c)) (λx=>(bP y (cS w i)).toNat-x.1) 3 (λx=>Sg) (λx J=>?_) (ς _) (λJ=>Wk.a0 ⟨⟨0,π _⟩,J,rfl⟩) J;obtain⟨j,hj⟩:=x;dsimp only;have hlen:=eV d0 d1 j;have hs:=aam d0 d1 j;have wl:cR (14+3) (.a w true (some 1)):=aO (gj.1 hw);have bl:cR (14+3) (bB ng lg s e g mo [d0,d1] a b c):=aO (by simp[bw,aC]);have fin:bP y (cS w i)<(j:Int)+1->∃vs2 o2,VW cfg (Cw cfg []) 3 55 [1,2,5,6,7,8] [.a .i64 y,.h 14 0,zH n (ay d0 d1 j).length,.b 15 0 nM (.a 0),.a .i64 (ν i),.a .i64 ((j:Int)+1)] (zL (ay d0 d1 j).length cs (cs++dU y (cS w i) (ay d0 d1 j)) (.a w true (some 1)) (bB ng lg s e g mo [d0,d1] a b c)) vs2 o2/\Q (.b 2,vs2,o2):=λh=>by
  have e:j=(bP y (cS w i)).toNat:=by omega
  have e2:(j:Int)+1=bP y (cS w i)+1:=by omega
  rw[e2];subst e;exact⟨_,_,VW.a0,hq⟩
 have hi0:0+i*1=i:=by omega
 have hA:cS w i=dx (w.getD i (.c [])):=rfl;have go:(j:Int)+1<=bP y (cS w i)->∀vs o,VW cfg (Cw cfg []) 3 55 [1,2,5,6,7,8] vs o [.a .i64 y,.h 14 0,zH n (ay d0 d1 (j+1)).length,.b 15 0 nM (.a 0),.a .i64 (ν i),.a .i64 ((j:Int)+1+1)] (zL (ay d0 d1 (j+1)).length cs (cs++dU y (cS w i) (ay d0 d1 (j+1))) (.a w true (some 1)) (bB ng lg s e g mo [d0,d1] a b c))->∃x:{j:Nat // j<=(bP y (cS w i)).toNat},(bP y (cS w i)).toNat-x.1<(bP y (cS w i)).toNat-j/\VW cfg (Cw cfg []) 3 55 [1,2,5,6,7,8] vs o [.a .i64 y,.h 14 0,zH n (ay d0 d1 x.1).length,.b 15 0 nM (.a 0),.a .i64 (ν i),.a .i64 ((x.1:Int)+1)] (zL (ay d0 d1 x.1).length cs (cs++dU y (cS w i) (ay d0 d1 x.1)) (.a w true (some 1)) (bB ng lg s e g mo [d0,d1] a b c)):=λhle vs o hv=>⟨⟨j+1,by omega⟩,by dsimp only;omega,hv⟩;have hids:bw (cs++dU y (cS w i) (ay d0 d1 j))=[]:=by rw[aar,gj.1 hcs,oK];rfl
 have hids0:bw cs=[]:=gj.1 hcs;have hlenc:(cs++dU y (cS w i) (ay d0 d1 j)).length=(n+(ay d0 d1 j).length)*3:=by rw[zAe,hc,sB];omega
 clear hq;by_cases hD:ay d0 d1 j=[]
 . rw[hD]at fin ⊢;refine eD λQ' hQ=>cg ((Py ng lg s e g mo [d0,d1] a b c y ((j:Int)+1) w cs nM i n J).mpr ?_);dsimp only;have fin2:bP y (cS w i)<(j:Int)+1->Q' (.b 2,[.a .i64 y,.h 14 0,.b 16 0 n (.a 0),.b 15 0 nM (.a 0),.a .i64 (ν i),.a .i64 ((j:Int)+1)],⟨3,[.a cs true (some 3),.a w true (some 1),bB ng lg s e g mo [d0,d1] a b c],[]⟩):=λh=>hQ _ (fin h);cases ha:agr [d0,d1] ((j:Int)+1)with
   | true=>
     rw[ha]at hs;have hs:ay d0 d1 (j+1)=ay d0 d1 j++[(j:Int)+1]:=hs;have go2:(j:Int)+1<=bP y (cS w i)->Q' (.a,[.a .i64 y,.h 14 0,.b 18 0 (n+1) (.a 0),.b 15 0 nM (.a 0),.a .i64 (ν i),.a .i64 ((j:Int)+1+1)],⟨5,[.a (cs++[.a .i64 y,.a .i64 (cS w i),.a .i64 ((j:Int)+1)]) true (some 3),.a [.a .i64 y,.a .i64 (cS w i),.a .i64 ((j:Int)+1)] true none,.b,.a w true (some 1),bB ng lg s e g mo [d0,d1] a b c],[]⟩):=λh=>hQ (.a,_,_) (go h _ _ (by
      rw[hs,hD];exact fx (tn:=55) (rel:=[1,2,5,6,7,8]) (vs:=[.a .i64 y,.h 14 0,.b 18 0 (n+1) (.a 0),.b 15 0 nM (.a 0),.a .i64 (ν i),.a .i64 ((j:Int)+1+1)]) (vs':=[.a .i64 y,.h 14 0,.b 17 0 (n+1) (.a 0),.b 15 0 nM (.a 0),.a .i64 (ν i),.a .i64 ((j:Int)+1+1)]) (x:=.a (cs++[.a .i64 y,.a .i64 (cS w i),.a .i64 ((j:Int)+1)]) true (some 3)) (mid:=[.a [.a .i64 y,.a .i64 (cS w i),.a .i64 ((j:Int)+1)] true none]) (B:=[.b,.a w true (some 1),bB ng lg s e g mo [d0,d1] a b c]) (k:=1) (kb:=3) (n:=5) rfl rfl rfl (λz hz=>by
       simp only[List.mem_cons,χ,or_false]at hz;rcases hz with rfl|rfl|rfl
       . exact⟨rfl,λi hi=>by cases hi⟩
       . exact wl
       . exact bl) (aO (by rw[aar,hids0];rfl)) rfl))
     clear hQ go fin hs hids;rw[hi0,hk,<-hA];try simp only[zAj]
     clear hA hk;generalize cS w i=m at *;simp only[az,reduceCtorEq];try simp only[ο,ξ,aJ,b9,al]
     (repeat' first|exact trivial|refine⟨?_,?_⟩|intro)<;>first|contradiction|omega|assumption|exact go2 (by assumption)|exact fin2 (by omega)|(exfalso;simp_all;done)|(exfalso;simp_all;omega)
   | false=>
     rw[ha]at hs;have hs:ay d0 d1 (j+1)=ay d0 d1 j:=by rw[hs];simp
     have go2:(j:Int)+1<=bP y (cS w i)->Q' (.a,[.a .i64 y,.h 14 0,.b 16 0 n (.a 0),.b 15 0 nM (.a 0),.a .i64 (ν i),.a .i64 ((j:Int)+1+1)],⟨3,[.a cs true (some 3),.a w true (some 1),bB ng lg s e g mo [d0,d1] a b c],[]⟩):=λh=>hQ (.a,_,_) (go h _ _ (by
      rw[hs,hD];exact VW.a0))
     clear hQ go fin hs hids;rw[hi0,hk,<-hA];try simp only[zAj]
     clear hA hk;generalize cS w i=m at *;simp only[az,reduceCtorEq];try simp only[ο,ξ,aJ,b9,al]
     (repeat' first|exact trivial|refine⟨?_,?_⟩|intro)<;>first|contradiction|omega|assumption|exact go2 (by assumption)|exact fin2 (by omega)|(exfalso;simp_all;done)|(exfalso;simp_all;omega)
 . have hpos:0<(ay d0 d1 j).length:=List.length_pos_iff.2 hD;clear hD;rw[ac1 hpos,zp hpos]at fin;rw[ac1 hpos,zp hpos];refine jJ (bE 1112112452022042200420420) (R:=λQ=>(λ(U V:cD)(A B E H T:AV)(I O:Bool)(C:fg)(P:Int)(N:Nat)=>(λ(G Z u1:AV)(F W Y:Bool)(u0:List AV)=>aS i nM/\(F->af .i64 y/\(W->ab 0 ((j:Int)+1)/\ab ((j:Int)+1) 99/\(I->aS i nM/\F/\and (and (Nat.ble N 1000000) true) true/\(O->Y/\Q (.a,[A,B,.b 19 0 N C,G,E,Z],⟨6,[.a ((cs++dU y (cS w i) (ay d0 d1 j))++u0) true (some 3),.a u0 true none,cD.b,cD.b,U,V],[]⟩))/\(O=false->False))/\(I=false->Y/\Q (.a,[A,B,u1,G,E,Z],⟨4,[.a (cs++dU y (cS w i) (ay d0 d1 j)) true (some 3),cD.b,U,V],[]⟩)))/\(W=false->Q (.b 2,[A,B,u1,G,E,T],⟨4,[.a (cs++dU y (cS w i) (ay d0 d1 j)) true (some 3),cD.b,U,V],[]⟩)))/\(F=false->False)) (.b 15 0 nM C) (.a .i64 P) (.b 17 0 (n+(ay d0 d1 j).length) C) (eB .i64 H) (ab ((j:Int)+1) (bP y (dx H))) (af .i64 P) [A,.a .i64 (dx H),T]) (.a w true (some 1)) (.a [.e ng,.e lg,.f s,.a .i64 e,.a .i64 g,.f mo,.f [d0,d1],.a .u8 a,.a .u8 b,.a .u8 c] true none) (.a .i64 y) (.h 14 0) (.a .i64 (ν i)) (List.getD w (τ 0 (σ i 1)) (.c [])) (.a .i64 ((j:Int)+1)) (aa (cond (agr [d0,d1] ((j:Int)+1)) 1 0) 1) (and true (Nat.beq (cs++dU y (cS w i) (ay d0 d1 j)).length (σ (n+(ay d0 d1 j).length) 3))) (fg.a 0) (Int.add ((j:Int)+1) 1) (τ (n+(ay d0 d1 j).length) 1)) (λ_=>by kernel_rfl) λQ' hQ=>?_;try dsimp only
   have fin2:bP y (cS w i)<(j:Int)+1->Q' (.b 2,[.a .i64 y,.h 14 0,.b 17 0 (n+(ay d0 d1 j).length) (.a 0),.b 15 0 nM (.a 0),.a .i64 (ν i),.a .i64 ((j:Int)+1)],⟨4,[.a (cs++dU y (cS w i) (ay d0 d1 j)) true (some 3),.b,.a w true (some 1),bB ng lg s e g mo [d0,d1] a b c],[]⟩):=λh=>hQ _ (fin h);cases ha:agr [d0,d1] ((j:Int)+1)with
   | true=>
     rw[ha]at hs;have hs:ay d0 d1 (j+1)=ay d0 d1 j++[(j:Int)+1]:=hs;have go2:(j:Int)+1<=bP y (cS w i)->Q' (.a,[.a .i64 y,.h 14 0,.b 19 0 (n+(ay d0 d1 j).length+1) (.a 0),.b 15 0 nM (.a 0),.a .i64 (ν i),.a .i64 ((j:Int)+1+1)],⟨6,[.a (cs++dU y (cS w i) (ay d0 d1 j)++[.a .i64 y,.a .i64 (cS w i),.a .i64 ((j:Int)+1)]) true (some 3),.a [.a .i64 y,.a .i64 (cS w i),.a .i64 ((j:Int)+1)] true none,.b,.b,.a w true (some 1),bB ng lg s e g mo [d0,d1] a b c],[]⟩):=λh=>hQ (.a,_,_) (go h _ _ (by
      rw[hs,zAe,yA,<-List.append_assoc];exact fx (tn:=55) (rel:=[1,2,5,6,7,8]) (vs:=[.a .i64 y,.h 14 0,.b 19 0 (n+(ay d0 d1 j).length+1) (.a 0),.b 15 0 nM (.a 0),.a .i64 (ν i),.a .i64 ((j:Int)+1+1)]) (vs':=[.a .i64 y,.h 14 0,.b 17 0 (n+(ay d0 d1 j).length+1) (.a 0),.b 15 0 nM (.a 0),.a .i64 (ν i),.a .i64 ((j:Int)+1+1)]) (x:=.a (cs++dU y (cS w i) (ay d0 d1 j)++[.a .i64 y,.a .i64 (cS w i),.a .i64 ((j:Int)+1)]) true (some 3)) (mid:=[.a [.a .i64 y,.a .i64 (cS w i),.a .i64 ((j:Int)+1)] true none,.b]) (B:=[.b,.a w true (some 1),bB ng lg s e g mo [d0,d1] a b c]) (k:=2) (kb:=3) (n:=6) rfl rfl rfl (λz hz=>by
       simp only[List.mem_cons,χ,or_false]at hz;rcases hz with rfl|rfl|rfl
       . exact⟨rfl,λi hi=>by cases hi⟩
       . exact wl
       . exact bl) (aO (by rw[aar,hids];rfl)) rfl))
     clear hQ go fin hs hids;rw[hi0,hk,<-hA];try simp only[zAj]
     clear hA hk;generalize cS w i=m at *;generalize cs++dU y m (ay d0 d1 j)=C at *;generalize (ay d0 d1 j).length=N at *;simp only[az,reduceCtorEq];try simp only[ο,ξ,aJ,b9,al]
     (repeat' first|exact trivial|refine⟨?_,?_⟩|intro)<;>first|contradiction|omega|assumption|exact go2 (by assumption)|exact fin2 (by omega)|(exfalso;simp_all;done)|(exfalso;simp_all;omega)
   | false=>
     rw[ha]at hs;have hs:ay d0 d1 (j+1)=ay d0 d1 j:=by rw[hs];simp
     have go2:(j:Int)+1<=bP y (cS w i)->Q' (.a,[.a .i64 y,.h 14 0,.b 17 0 (n+(ay d0 d1 j).length) (.a 0),.b 15 0 nM (.a 0),.a .i64 (ν i),.a .i64 ((j:Int)+1+1)],⟨4,[.a (cs++dU y (cS w i) (ay d0 d1 j)) true (some 3),.b,.a w true (some 1),bB ng lg s e g mo [d0,d1] a b c],[]⟩):=λh=>hQ (.a,_,_) (go h _ _ (by
      rw[hs,ac1 hpos,zp hpos];exact VW.a0))
     clear hQ go fin hs hids;rw[hi0,hk,<-hA];try simp only[zAj]
     clear hA hk;generalize cS w i=m at *;generalize cs++dU y m (ay d0 d1 j)=C at *;generalize (ay d0 d1 j).length=N at *;simp only[az,reduceCtorEq];try simp only[ο,ξ,aJ,b9,al]
     (repeat' first|exact trivial|refine⟨?_,?_⟩|intro)<;>first|contradiction|omega|assumption|exact go2 (by assumption)|exact fin2 (by omega)|(exfalso;simp_all;done)|(exfalso;simp_all;omega)
end Go.Ev
