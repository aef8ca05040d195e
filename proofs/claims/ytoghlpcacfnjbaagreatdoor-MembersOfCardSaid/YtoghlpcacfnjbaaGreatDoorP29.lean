import Derived.Test.YtoghlpcacfnjbaaGreatDoorP28
set_option linter.all false
set_option maxRecDepth 100000
set_option maxHeartbeats 4000000
namespace Go.Ev
open Go Go.Proofs
variable{x:aE}{S:aR}
abbrev bx(ng lg:Bool)(s:List UInt8)(e g:Int)(mo da:List UInt8)(a b c:Int):aE:=.cells [.bool ng,.bool lg,.str s,.int .i64 e,.int .i64 g,.str mo,.str da,.int .u8 a,.int .u8 b,.int .u8 c] true none
def sT(b0:aE):List Int->aC
 | []=>⟨1,[b0],[]⟩
 | x::xs=>⟨2,[.cells ((x::xs).map (AV.int .i64)) true (some 1),b0],[]⟩
def P3:d9:=λvs o=>match vs,o with
 | [.ptr 14 0,.nilslice,.int .i64 m],⟨1,[.cells [.bool ng,.bool lg,.str s,.int .i64 e,.int .i64 g,.str [m0,m1],.str da,.int .u8 a,.int .u8 b,.int .u8 c] true none],[]⟩=>some (aH [cg m0,cg m1,aa m 1] (.ret (.exit 0,[.ptr 14 0,il 15 (aw m0 m1 12),.int .i64 13],sT (bx ng lg s e g [m0,m1] da a b c) (aw m0 m1 12))))
 | _,_=>none
def Yd:cz:=iz io 0 (eb 29 [1,3,4] P3)
def Pv:lB:=λargs ws=>match args,ws with
 | [.agg [.bool ng,.bool lg,.str s,.int .i64 e,.int .i64 g,.str [m0,m1],.str da,.int .u8 a,.int .u8 b,.int .u8 c]],[]=>some (aH [cg m0,cg m1,aa (aL [m0,m1]) 0,!(g9 (aw m0 m1 12))] (.ret (.slice 14 0 (dy (aw m0 m1 12)) (.rest 0),[.cells (aQ (aw m0 m1 12)) true (some 1)])))
 | _,_=>none
def QY:dJ:=λargs=>match args with
 | [.int .i64 y,.int .i64 m]=>some (aH [ae .i64 y] (.ret (.int .i64 (bP y m))))
 | _=>none
def Ob:bh tab 138=some (dC 138,aN 138):=by kernel_rfl
def LO:(bj (aN 138)).map (·.1)=[0]:=by kernel_rfl
theorem aO{cs:List AV}{rw:Bool}{g:Option Nat}{b:Nat}(h:bz cs=[]):cR b (.cells cs rw g):=⟨rfl,λi hi=>by
 exfalso;have hi:i∈bz cs:=hi;rw[h]at hi;cases hi⟩
theorem fu{tn:Nat}{rel:List Nat}{vs vs':List AV}{mid B:List aE}{k kb n:Nat}(hk:mid.length=k)(hB:B.length=kb)(hn:n=kb+k+1)(hlow:∀b∈B,cR (14+kb) b)(hx:cR (14+kb) x)(hvs:xE (kr (14+kb) [(14+(kb+k),14+(kb+0))] 20) vs=some vs') :
 VW cfg (Cw cfg []) kb tn rel vs ⟨n,x::(mid++B),[]⟩ vs' ⟨kb+1,x::B,[]⟩:=by
 subst hn;have at0:∀(os:List aE) (n i:Nat),(⟨n,os,[]⟩:aC).at i=os.getD (n-1-i) .dead:=λos n i=>rfl;refine VW.move dG.lv (C:=Cw cfg []) (kb:=kb) (sel:=[kb+k]) Aa (by show kb<=kb+k+1;omega) (λs hs=>?_) (by simp) (λp hp=>by cases hp) rfl rfl (by simp[hB]) (λi hi=>?_) (λt ht=>?_) hvs
 . simp only[zAf]at hs;subst hs;exact⟨by omega,by show kb+k<kb+k+1;omega⟩
 . have e1:(⟨kb+1,x::B,[]⟩:aC).at i=B.getD (kb-1-i) .dead:=by
    rw[at0];rw[show kb+1-1-i=(kb-1-i)+1 by omega,List.getD_cons_succ]
   have e2:(⟨kb+k+1,x::(mid++B),[]⟩:aC).at i=B.getD (kb-1-i) .dead:=by
    rw[at0];rw[show kb+k+1-1-i=(k+(kb-1-i))+1 by omega,List.getD_cons_succ,zAe,List.getElem?_append_right (by omega),zAe];rw[hk,show k+(kb-1-i)-k=kb-1-i by omega]
   rw[e1,e2];refine⟨rfl,?_⟩;have hlt:kb-1-i<B.length:=by omega
   rw[zAe,List.getElem?_eq_getElem hlt];exact hlow _ (List.getElem_mem hlt)
 . have:t=0:=by simp at ht;omega
   subst this;refine .inl ⟨?_,?_⟩
   . show(⟨kb+1,x::B,[]⟩:aC).at (kb+0)=(⟨kb+k+1,x::(mid++B),[]⟩:aC).at (kb+k);rw[at0,at0,show kb+1-1-(kb+0)=0 by omega,show kb+k+1-1-(kb+k)=0 by omega];rfl
   . show cR (14+kb) ((⟨kb+k+1,x::(mid++B),[]⟩:aC).at (kb+k));rw[at0,show kb+k+1-1-(kb+k)=0 by omega];exact hx
theorem dL.last{v v':AV}{rest:List aE}{k n:Nat}(hk:rest.length=k)(hn:n=k+1)(hx:cR 14 x)(hv:kr 14 [(14+k,14)] 20 v'=some v):dL [] v [x] (v',⟨n,x::rest,[]⟩):=by
 subst hn;have hv':kr ((Cw cfg []).lo+0) (ia (Cw cfg []).lo 0 [k]) 20 v'=some v:=hv;refine(pf dG.lv (C:=Cw cfg []) (st:=⟨.node v' .nil .nil,1,⟨k+1,x::rest,[]⟩,[],none⟩) (kb:=0) (sel:=[k]) (ts':=.node v .nil .nil) (o':=⟨1,[x],[]⟩) Aa (Nat.zero_le _) (λs hs=>?_) (by simp) (λp hp=>by cases hp) rfl rfl rfl (λi hi=>absurd hi (Nat.not_lt_zero i)) (λt ht=>?_) ?_ (λd hd=>by cases hd) (λi hi=>by cases hi)).mono λs hs=>?_
 . simp only[zAf]at hs;subst hs;exact⟨Nat.zero_le _,Nat.lt_succ_self _⟩
 . have:t=0:=by simp at ht;omega
   subst this;refine .inl ⟨?_,?_⟩
   . show(⟨1,[x],[]⟩:aC).at 0=(⟨k+1,x::rest,[]⟩:aC).at k;unfold aC.at;simp
   . show cR 14 ((⟨k+1,x::rest,[]⟩:aC).at k);unfold aC.at;simpa using hx
 . simp only[wy,hv',ob]
 . rw[hs];exact⟨rfl,rfl⟩
theorem Vz{y m:Int}(hy : -9223372036854775808<=y/\y<=9223372036854775807):bt Tryz.prog cfg 139 [.int .i64 y,.int .i64 m] [] (.int .i64 (bP y m)) []:=by
 refine iI gi ag (bA 110330008107331142322024220240414124124124) (R:=λQ=>(λ(A F G H I O:Bool)(C P T:Prop)=>(λ(E:Bool)(B:Prop)=>(λ(N:Prop)=>(F->F/\C)/\(F=false->(G->G/\C)/\(G=false->(H->H/\C)/\(H=false->(aa m 11->C)/\(aa m 11=false->(aa m 2->(A->A/\A/\A/\(E->E/\E/\A/\I=false/\A/\(O->P)/\(O=false->T))/\(N->N/\N/\A/\I/\A/\P))/\(B->B/\B/\B/\B/\B/\T))/\(aa m 2=false->Q (.int .i64 31))))))) (E=false)) (not I) (A=false)) (aa (Int.tmod y 4) 0) (aa m 4) (aa m 6) (aa m 9) (not (aa (Int.tmod y 100) 0)) (aa (Int.tmod y 400) 0) (Q (.int .i64 30)) (Q (.int .i64 29)) (Q (.int .i64 28))) (λ_=>by kernel_rfl) λQ' hQ=>?_;try dsimp only
 have z:∀k:Int,y.tmod k=0↔y%k=0:=λk=>by rw[<-Int.dvd_iff_tmod_eq_zero,<-Int.dvd_iff_emod_eq_zero]
 have fin:∀n:Int,n=bP y m->Q' (.int .i64 n):=λn h=>hQ _ (by rw[h]);clear hQ;simp only[az,reduceCtorEq];simp only[z]
 (repeat' first|exact trivial|refine⟨?_,?_⟩|intro)<;>first|omega|(refine fin _ ?_;unfold bP Go.Proofs.YtoghlpcacfnjbaaGreatDoor.mlen Go.Proofs.YtoghlpcacfnjbaaGreatDoor.lp;(repeat' split)<;>omega)
theorem re{b0:aE}{L:List Int}(h:L≠[]):sT b0 L=⟨2,[.cells (L.map (AV.int .i64)) true (some 1),b0],[]⟩:=by cases L with|nil=>exact absurd rfl h|cons x xs=>rfl
theorem Wg:cx Tryz.prog (cH cfg T9) (Cw cfg []) (lb 138 0) 29 [1,3,4] P3:=by
 intro vs o t Q hv hq J;unfold P3 at hv;split at hv
 . rename_i m ng lg s e g m0 m1 da a b c;cases hv;replace hq:=cL hq;obtain⟨⟨h1,h2,h3,-⟩,hq⟩:=hq;rw[al]at h3;subst h3;have hq:Q (.exit 0,[.ptr 14 0,il 15 (aw m0 m1 12),.int .i64 13],sT (bx ng lg s e g [m0,m1] da a b c) (aw m0 m1 12)):=hq;refine im gi rfl rfl ag (ι:={i:Nat // i<=12}) (λx=>[.ptr 14 0,il 15 (aw m0 m1 x.1),.int .i64 ((x.1:Int)+1)]) (λx=>sT (bx ng lg s e g [m0,m1] da a b c) (aw m0 m1 x.1)) (λx=>12-x.1) 1 (λx=>by cases h:aw m0 m1 x.1<;>exact Nat.succ_le_succ (Nat.zero_le _)) (λx J=>?_) (Nat.le_refl _) (λJ=>Wk.refl ⟨⟨0,Nat.zero_le _⟩,J,rfl⟩) J;obtain⟨i,hi⟩:=x;dsimp only;have hlen:=eU m0 m1 i;have hs:=fW m0 m1 i;have blow:cR (14+1) (bx ng lg s e g [m0,m1] da a b c):=aO (by simp[bz,aD]);have blow2:∀z∈[bx ng lg s e g [m0,m1] da a b c],cR (14+1) z:=λz hz=>by
    simp only[zAf]at hz;subst hz;exact blow
   have fin:i=12->∃vs2 o2,VW cfg (Cw cfg []) 1 29 [1,3,4] [.ptr 14 0,il 15 (aw m0 m1 i),.int .i64 ((i:Int)+1)] (sT (bx ng lg s e g [m0,m1] da a b c) (aw m0 m1 i)) vs2 o2/\Q (.exit 0,vs2,o2):=λh=>by
    subst h;exact⟨_,_,VW.of_eq rfl rfl,hq⟩
   have bi:∀b:Bool,bI b=1↔b=true:=λb=>by cases b<;>decide
   by_cases hL:aw m0 m1 i=[]
   . rw[hL]at hs fin ⊢;refine jT (bA 1121205422004) (R:=λQ=>(λ(F:aE)(A E:AV)(B:Bool)(C:Int)=>(λ(H:AV)(G:Bool)=>(ab ((i:Int)+1) 12->ab 0 ((i:Int)+1)/\ab ((i:Int)+1) 99/\(B->G/\Q (.normal,[A,.slice 16 0 1 (eZ.rest 0),H],⟨3,[.cells [E] true (some 1),.cells [E] true none,F],[]⟩))/\(B=false->G/\Q (.normal,[A,.nilslice,H],⟨1,[F],[]⟩)))/\(ab ((i:Int)+1) 12=false->Q (.exit 0,[A,.nilslice,E],⟨1,[F],[]⟩))) (.int .i64 C) (ae .i64 C)) (.cells [.bool ng,.bool lg,.str s,.int .i64 e,.int .i64 g,.str [m0,m1],.str da,.int .u8 a,.int .u8 b,.int .u8 c] true none) (.ptr 14 0) (.int .i64 ((i:Int)+1)) (aa (cond (agr [m0,m1] ((i:Int)+1)) 1 0) 1) (Int.add ((i:Int)+1) 1)) (λ_=>by kernel_rfl) λQ' hQ=>?_;try dsimp only
     cases ha:agr [m0,m1] ((i:Int)+1)with
     | true=>
       rw[ha]at hs;have next:i<12->∃y:{i:Nat // i<=12},12-y.1<12-i/\VW cfg (Cw cfg []) 1 29 [1,3,4] [.ptr 14 0,.slice 16 0 1 (.rest 0),.int .i64 ((i:Int)+1+1)] ⟨3,[.cells [.int .i64 ((i:Int)+1)] true (some 1),.cells [.int .i64 ((i:Int)+1)] true none,bx ng lg s e g [m0,m1] da a b c],[]⟩ [.ptr 14 0,il 15 (aw m0 m1 y.1),.int .i64 ((y.1:Int)+1)] (sT (bx ng lg s e g [m0,m1] da a b c) (aw m0 m1 y.1)):=λh=>by
        refine⟨⟨i+1,by omega⟩,by dsimp only;omega,?_⟩;dsimp only;rw[hs];exact fu (x:=.cells [.int .i64 ((i:Int)+1)] true (some 1)) (mid:=[.cells [.int .i64 ((i:Int)+1)] true none]) (B:=[bx ng lg s e g [m0,m1] da a b c]) rfl rfl rfl blow2 (aO rfl) rfl
       clear hs hq;simp only[az,reduceCtorEq]
       (repeat' first|exact trivial|refine⟨?_,?_⟩|intro)<;>first|contradiction|omega|assumption|exact hQ _ (fin (by omega))|exact hQ _ (next (by omega))|skip
     | false=>
       rw[ha]at hs;have next:i<12->∃y:{i:Nat // i<=12},12-y.1<12-i/\VW cfg (Cw cfg []) 1 29 [1,3,4] [.ptr 14 0,.nilslice,.int .i64 ((i:Int)+1+1)] ⟨1,[bx ng lg s e g [m0,m1] da a b c],[]⟩ [.ptr 14 0,il 15 (aw m0 m1 y.1),.int .i64 ((y.1:Int)+1)] (sT (bx ng lg s e g [m0,m1] da a b c) (aw m0 m1 y.1)):=λh=>by
        refine⟨⟨i+1,by omega⟩,by dsimp only;omega,?_⟩;dsimp only;rw[hs];exact VW.refl
       clear hs hq;simp only[az,reduceCtorEq]
       (repeat' first|exact trivial|refine⟨?_,?_⟩|intro)<;>first|contradiction|omega|assumption|exact hQ _ (fin (by omega))|exact hQ _ (next (by omega))|skip
   . rw[jC hL,re hL]at fin ⊢;refine jT (bA 1121124520422004) (R:=λQ=>(λ(H:aE)(A G I:AV)(B E:Bool)(F:Int)(C:Nat)=>(λ(O:AV)(N:Bool)=>(ab ((i:Int)+1) 12->ab 0 ((i:Int)+1)/\ab ((i:Int)+1) 99/\(B->and (and (Nat.ble C 1000000) true) true/\(E->N/\Q (.normal,[A,.slice 17 0 C (eZ.rest 0),O],⟨4,[.cells (((aw m0 m1 i).map (AV.int .i64))++[G]) true (some 1),.cells [G] true none,aE.dead,H],[]⟩))/\(E=false->False))/\(B=false->N/\Q (.normal,[A,I,O],⟨2,[.cells ((aw m0 m1 i).map (AV.int .i64)) true (some 1),H],[]⟩)))/\(ab ((i:Int)+1) 12=false->Q (.exit 0,[A,I,G],⟨2,[.cells ((aw m0 m1 i).map (AV.int .i64)) true (some 1),H],[]⟩))) (.int .i64 F) (ae .i64 F)) (.cells [.bool ng,.bool lg,.str s,.int .i64 e,.int .i64 g,.str [m0,m1],.str da,.int .u8 a,.int .u8 b,.int .u8 c] true none) (.ptr 14 0) (.int .i64 ((i:Int)+1)) (.slice 15 0 (aw m0 m1 i).length (eZ.rest 0)) (aa (cond (agr [m0,m1] ((i:Int)+1)) 1 0) 1) (and true (Nat.beq ((aw m0 m1 i).map (AV.int .i64)).length (HMul.hMul (aw m0 m1 i).length 1))) (Int.add ((i:Int)+1) 1) (HAdd.hAdd (aw m0 m1 i).length 1)) (λ_=>by kernel_rfl) λQ' hQ=>?_;try dsimp only
     have aX:∀n:Nat,Nat.beq n (n*1)=true:=λn=>by rw[Nat.mul_one];exact gb rfl
     have hcl:((aw m0 m1 i).map (AV.int .i64)).length=(aw m0 m1 i).length:=List.length_map _;cases ha:agr [m0,m1] ((i:Int)+1)with
     | true=>
       rw[ha]at hs;have he:aw m0 m1 (i+1)=aw m0 m1 i++[(i:Int)+1]:=hs;have hne:aw m0 m1 (i+1)≠[]:=by rw[he];simp
       have next:i<12->∃y:{i:Nat // i<=12},12-y.1<12-i/\VW cfg (Cw cfg []) 1 29 [1,3,4] [.ptr 14 0,.slice 17 0 ((aw m0 m1 i).length+1) (.rest 0),.int .i64 ((i:Int)+1+1)] ⟨4,[.cells ((aw m0 m1 i).map (AV.int .i64)++[.int .i64 ((i:Int)+1)]) true (some 1),.cells [.int .i64 ((i:Int)+1)] true none,.dead,bx ng lg s e g [m0,m1] da a b c],[]⟩ [.ptr 14 0,il 15 (aw m0 m1 y.1),.int .i64 ((y.1:Int)+1)] (sT (bx ng lg s e g [m0,m1] da a b c) (aw m0 m1 y.1)):=λh=>by
        refine⟨⟨i+1,by omega⟩,by dsimp only;omega,?_⟩;dsimp only;rw[jC hne,re hne,he,List.map_append,zAg];refine fu (x:=.cells ((aw m0 m1 i).map (AV.int .i64)++[.int .i64 ((i:Int)+1)]) true (some 1)) (mid:=[.cells [.int .i64 ((i:Int)+1)] true none,.dead]) (B:=[bx ng lg s e g [m0,m1] da a b c]) (k:=2) (kb:=1) rfl rfl rfl blow2 ?_ ?_
        . have:=@mf (aw m0 m1 i++[(i:Int)+1]) true (some 1) 15
          rwa [List.map_append]at this
        . rfl
       clear hs hq he hne;generalize (aw m0 m1 i).map (AV.int .i64)=cs at *;generalize (aw m0 m1 i).length=n at *;simp only[az,reduceCtorEq];try simp only[aX,Bool.and_true,Bool.true_and,aK,cr,aq]
       (repeat' first|exact trivial|refine⟨?_,?_⟩|intro)<;>first|contradiction|omega|assumption|exact hQ _ (fin (by omega))|exact hQ _ (next (by omega))|(exfalso;simp_all;done)|(exfalso;simp_all;omega)
     | false=>
       rw[ha]at hs;have he:aw m0 m1 (i+1)=aw m0 m1 i:=by rw[hs];simp
       have next:i<12->∃y:{i:Nat // i<=12},12-y.1<12-i/\VW cfg (Cw cfg []) 1 29 [1,3,4] [.ptr 14 0,.slice 15 0 (aw m0 m1 i).length (.rest 0),.int .i64 ((i:Int)+1+1)] ⟨2,[.cells ((aw m0 m1 i).map (AV.int .i64)) true (some 1),bx ng lg s e g [m0,m1] da a b c],[]⟩ [.ptr 14 0,il 15 (aw m0 m1 y.1),.int .i64 ((y.1:Int)+1)] (sT (bx ng lg s e g [m0,m1] da a b c) (aw m0 m1 y.1)):=λh=>by
        refine⟨⟨i+1,by omega⟩,by dsimp only;omega,?_⟩;dsimp only;rw[he,jC hL,re hL];exact VW.refl
       clear hs hq he;generalize (aw m0 m1 i).map (AV.int .i64)=cs at *;generalize (aw m0 m1 i).length=n at *;simp only[az,reduceCtorEq];try simp only[aX,Bool.and_true,Bool.true_and,aK,cr,aq]
       (repeat' first|exact trivial|refine⟨?_,?_⟩|intro)<;>first|contradiction|omega|assumption|exact hQ _ (fin (by omega))|exact hQ _ (next (by omega))|(exfalso;simp_all;done)|(exfalso;simp_all;omega)
 . cases hv
theorem WL{ng lg:Bool}{s:List UInt8}{e g:Int}{m0 m1:UInt8}{da:List UInt8}{a b c:Int}(h0:cg m0)(h1:cg m1)(hse:aL [m0,m1]=0)(hL:aw m0 m1 12≠[]) :
 bt Tryz.prog cfg 138 [.agg [.bool ng,.bool lg,.str s,.int .i64 e,.int .i64 g,.str [m0,m1],.str da,.int .u8 a,.int .u8 b,.int .u8 c]] [] (.slice 14 0 (dy (aw m0 m1 12)) (.rest 0)) [.cells (aQ (aw m0 m1 12)) true (some 1)]:=by
 refine Bp gi (L:=Yd) Ob (by simp) (dv LO λi hi e he st Q hw=>?_) (jT (bA 1022356) (R:=λQ=>(λ(A:List Int)=>not (ab (aL [m0,m1]) 0)=false/\cg m0/\cg m1/\(∀J1:Nat->Value,Q (Prod.fst (Prod.fst (il 15 A,Prod.snd ([.ptr 14 0,il 15 A,.int .i64 13],sT (.cells [.bool ng,.bool lg,.str s,.int .i64 e,.int .i64 g,.str [m0,m1],.str da,.int .u8 a,.int .u8 b,.int .u8 c] true none) A)),Prod.snd (il 15 A,Prod.snd ([.ptr 14 0,il 15 A,.int .i64 13],sT (.cells [.bool ng,.bool lg,.str s,.int .i64 e,.int .i64 g,.str [m0,m1],.str da,.int .u8 a,.int .u8 b,.int .u8 c] true none) A))),Prod.snd (Prod.fst (il 15 A,Prod.snd ([.ptr 14 0,il 15 A,.int .i64 13],sT (.cells [.bool ng,.bool lg,.str s,.int .i64 e,.int .i64 g,.str [m0,m1],.str da,.int .u8 a,.int .u8 b,.int .u8 c] true none) A)),Prod.snd (il 15 A,Prod.snd ([.ptr 14 0,il 15 A,.int .i64 13],sT (.cells [.bool ng,.bool lg,.str s,.int .i64 e,.int .i64 g,.str [m0,m1],.str da,.int .u8 a,.int .u8 b,.int .u8 c] true none) A)))))) (aw m0 m1 12)) (λ_=>by kernel_rfl) λQ' hQ=>?_)
 . have hi:i=0:=by simp at hi;omega
   subst hi;cases he;exact b7 (cF.good gi) (by decide) rfl Wg hw
 . try dsimp only
   rw[jC hL,re hL];have fin:=hQ (_,_) (dL.last (v:=.slice 14 0 (dy (aw m0 m1 12)) (.rest 0)) (v':=.slice 15 0 (dy (aw m0 m1 12)) (.rest 0)) (x:=.cells (aQ (aw m0 m1 12)) true (some 1)) (rest:=[bx ng lg s e g [m0,m1] da a b c]) (k:=1) (n:=2) rfl rfl mf rfl);have fin:Q' (.slice 15 0 (aw m0 m1 12).length (.rest 0),⟨2,[.cells ((aw m0 m1 12).map (AV.int .i64)) true (some 1),bx ng lg s e g [m0,m1] da a b c],[]⟩):=fin;clear hQ;generalize (aw m0 m1 12).map (AV.int .i64)=cs at *;generalize (aw m0 m1 12).length=n at *;generalize aw m0 m1 12=M at *;generalize aL [m0,m1]=sr at *;simp only[az,reduceCtorEq]
   (repeat' first|exact trivial|refine⟨?_,?_⟩|intro)<;>first|contradiction|omega|assumption
theorem PV(hS:ak Tryz.prog cfg S):ak Tryz.prog cfg (fw S 138 (fy 14 [] Pv)):=by
 refine bm hS (ga dG.lv AD λargs ws t r he hr=>?_);unfold Pv at he;split at he
 . cases he;replace hr:=aF hr;obtain⟨⟨h1,h2,h3,h4,-⟩,hr⟩:=hr;rw[al]at h3;cases hr;refine⟨WL h1 h2 h3 λhn=>?_,λx hx=>?_⟩
   . rw[hn]at h4;cases h4
   . simp only[zAf]at hx;subst hx;exact mf
 . cases he
theorem Rp(hS:ak Tryz.prog cfg S):ak Tryz.prog cfg (aY S 139 QY):=au hS λargs t v he hv=>by
 unfold QY at he;split at he
 . cases he;obtain⟨h1,hv⟩:=bK hv;rw[aB]at h1;cases hv;exact Vz h1
 . cases he
end Go.Ev
