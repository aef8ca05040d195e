import Derived.Test.YtcffhjfdlflbgaaGreatDoorP30
set_option linter.all false
open Int renaming ofNat->ν
open HAdd renaming hAdd->ξ
open List renaming getD->ο,mem_cons_self->ς,mem_cons_of_mem->σ,length_reverse->τ,reverse_cons->υ,length_take->χ
open Nat renaming ble->π,beq->ψ
set_option linter.all false
set_option maxRecDepth 100000
set_option maxHeartbeats 4000000
namespace Go.Ev
open Go Go.Proofs
variable{S:aQ}{R acc:List Rn}{r:Rn}{n:Nat}{ws:List cD}{x:cD}{K:fg}{v:AV}
def fD(q r:Rn):Rn:=⟨bif ab 0 (gc r.a r.b q.a q.b)then q.a else r.a,bif ab 0 (gc r.a r.b q.a q.b)then q.b else r.b,bif ab (gc r.c r.d q.c q.d) 0 then q.c else r.c,bif ab (gc r.c r.d q.c q.d) 0 then q.d else r.d⟩
def acE(q r:Rn):Bool:=vz q.a q.b q.c q.d r.a r.b r.c r.d
def Cy:dP:=λ
 | [.g [.a .i8 a,.a .i64 b,.a .i8 c,.a .i64 d],.g [.a .i8 e,.a .i64 f,.a .i8 g,.a .i64 h]]=>some (aH [af .i64 d,af .i64 h] (.d0 (vz a b c d e f g h) λt=>bif t then .a0 (.d [.g [.a .i8 (bif ab 0 (gc e f a b)then a else e),.a .i64 (bif ab 0 (gc e f a b)then b else f),.a .i8 (bif ab (gc g h c d) 0 then c else g),.a .i64 (bif ab (gc g h c d) 0 then d else h)],.b true])else .a0 (.d [.g [.a .i8 0,.a .i64 0,.a .i8 0,.a .i64 0],.b false])))
 | _=>none
def TJ:aQ:=pX (pX gZ 93 Sp) 92 FB
def TK:aQ:=aK gZ 152 Cy
def q8(acc:List Rn)(r:Rn):List Rn:=match acc with
 | []=>[r]
 | q::p=>bif acE q r then fD q r::p else r::q::p
def abL(R:List Rn):List Rn:=R.foldl q8 []
def aaO(R:List Rn):List Rn:=(abL R).reverse
def aaq(R:List Rn):Nat:=(aaO R).length
def DS(R:List Rn):dW:=λ
 | [.f,.f,.c 14 0 n K,.a .i64 n',.a .i64 i],⟨0,[],[]⟩=>some (aH [ψ R.length n,π 1 n,π n 1000,aa n' (ν n),aa i 0] (.a0 (.b 0,[.f,.c 15 0 (aaq R) (.b 0),.c 14 0 n K,.a .i64 n',.a .i64 (ν n)],⟨1,[.a (bh (aaO R)) true (some 4)],[]⟩)))
 | _,_=>none
def MJ(R:List Rn):cx:=iz jE 0 (d9 46 [2,3,9,10,11] (DS R))
def HN(a b c d e f g h:Int){Q:AV->Prop}:gG Q (pT TJ jE 152 [.g [.a .i8 a,.a .i64 b,.a .i8 c,.a .i64 d],.g [.a .i8 e,.a .i64 f,.a .i8 g,.a .i64 h]]) (bE 15154006151540064551042255)=((λ(A E F H I N O P T U V:AV)(B C G:Bool)=>(λ(W:Prop)=>af .i64 d/\af .i64 h/\(C->Q (.d [.g [E,F,E,F],.b false]))/\(C=false->(G->(B->Q (.d [.g [H,I,N,O],A]))/\(W->Q (.d [.g [H,I,P,T],A])))/\(G=false->(B->Q (.d [.g [U,V,N,O],A]))/\(W->Q (.d [.g [U,V,P,T],A]))))) (B=false)) (.b true) (.a .i8 0) (.a .i64 0) (.a .i8 e) (.a .i64 f) (.a .i8 g) (.a .i64 h) (.a .i8 c) (.a .i64 d) (.a .i8 a) (.a .i64 b) (not (ab (gc g h c d) 0)) (not (vz a b c d e f g h)) (not (ab 0 (gc e f a b)))):=ε
theorem ahk:aY tab 152=some (dH 152,aL 152):=κ
theorem alD:aY tab 82=some (dH 82,aL 82):=κ
theorem ajg:(bz (aL 82)).map (·.1)=[0]:=κ
theorem ajx:ak Tryz.prog cfg TJ:=eG (eG aW Nh) NE
theorem anZ(hS:ak Tryz.prog cfg S):ak Tryz.prog cfg (aK S 152 Cy):=by
 refine au hS λargs t v he hv=>?_;unfold Cy at he;split at he
 . rename_i a b c d e f g h;cases he;replace hv:=aF hv;obtain⟨⟨h1,h2,-⟩,hv⟩:=hv;simp only[Tr.b0]at hv;have ids:∀{x y z u:Int} {t:Bool},aC (.d [.g [.a .i8 x,.a .i64 y,.a .i8 z,.a .i64 u],.b t])=[]:=by grind [aC,bw]
   cases ht:vz a b c d e f g h with
   | false=>
     rw[ht,cond_false]at hv;cases hv;refine kA ajx (L:=jE) ahk θ ai (bb λQ' hQ=>cg ((HN a b c d e f g h).mpr ?_)) ids;grind
   | true=>
     rw[ht,cond_true]at hv;cases hv;refine kA ajx (L:=jE) ahk θ ai (bb λQ' hQ=>cg ((HN a b c d e f g h).mpr ?_)) ids;grind
 grind
theorem agO:ak Tryz.prog cfg TK:=anZ aW
theorem kC:∀{R:List Rn},(bh R).length=R.length*4
 | []=>rfl
 | r::R=>by simp only[bh,zAd,kC];omega
theorem tm{rw:Bool}{g:Option Nat}{b:Nat}:cR b (.a (bh R) rw g):=⟨rfl,λi hi=>by
 grind [HL,sR]⟩
theorem UA:∀{A B:List Rn},bh (A++B)=bh A++bh B
 | [],_=>rfl
 | r::A,B=>by simp only[List.cons_append,bh,UA]
theorem afA{B vs:List AV}:∀{A:List AV} {n:Nat},A.length=n->JL (A++B) n vs=A++JL B 0 vs
 | [],n,h=>by grind
 | c::A,n,h=>by
   subst h;simp only[List.cons_append,zAd,JL,afA (A:=A) rfl]
theorem afL{A B:List AV}(h:A.length=n*4):(A++(bh [r]++B)).getD (0+n*4) (.d [])=.a .i8 r.a/\(A++(bh [r]++B)).getD (0+n*4+1) (.d [])=.a .i64 r.b/\(A++(bh [r]++B)).getD (0+n*4+1+1) (.d [])=.a .i8 r.c/\(A++(bh [r]++B)).getD (0+n*4+1+1+1) (.d [])=.a .i64 r.d:=by
 rw[Nat.zero_add,<-h];have key:∀k,(A++(bh [r]++B)).getD (A.length+k) (.d [])=(bh [r]++B).getD k (.d []):=λk=>by
  grind
 exact⟨key 0,key 1,key 2,key 3⟩
theorem abI{i:Nat}(h:i<R.length):bh R=bh (R.take i)++(bh [R.getD i x9]++bh (R.drop (i+1))):=by
 conv=>lhs;rw[<-List.take_append_drop i R,UA,List.drop_eq_getElem_cons h]
 rw[show R.getD i x9=R[i]by grind];rfl
theorem adP{i:Nat}(h:i<R.length):abL (R.take (i+1))=q8 (abL (R.take i)) (R.getD i x9):=by
 grind [abL,List.take_succ]
theorem aeh(hw:∀x∈ws,cR 14 x){tn:Nat}{rel:List Nat}{vs vs':List AV}{k:Nat}{os:List cD}(hk:k<n)(h1:os.getD (n-1-k) .b=x)(hx:cR (14+ws.length) x)(hvs:yw (kG (14+ws.length) [(14+ws.length+k,14+ws.length)] 20) vs=some vs') :
 VW cfg (Cw cfg ws) 0 tn rel vs ⟨n,os,[]⟩ vs' ⟨1,[x],[]⟩:=by
 refine VW.d0 gR.lv (C:=Cw cfg ws) (kb:=0) (sel:=[k]) (B6 hw) (Nat.zero_le _) (λs hs=>?_) θ (λp hp=>by grind) rfl rfl rfl (λi hi=>absurd hi (Nat.not_lt_zero i)) (λt ht=>?_) hvs
 . grind
 . have:t=0:=η
   subst this;refine .inl ⟨?_,?_⟩
   . show(⟨1,[x],[]⟩:aB).at 0=os.getD (n-1-k) .b;rw[h1];rfl
   . show cR (14+ws.length) (os.getD (n-1-k) .b);grind
def ajI:List Rn->AV
 | []=>.f
 | x::xs=>.c 15 0 (xs.length+1) (.b 0)
def anc:List Rn->aB
 | []=>⟨0,[],[]⟩
 | x::xs=>⟨1,[.a (bh (x::xs).reverse) true (some 4)],[]⟩
theorem agQ:q8 acc r≠[]:=by
 cases acc with
 | nil=>nofun
 | cons q p=>
   show(bif acE q r then fD q r::p else r::q::p)≠[];grind
theorem agy:(q8 acc r).length<=acc.length+1:=by
 cases acc with
 | nil=>exact Nat.le_refl _
 | cons q p=>
   show(bif acE q r then fD q r::p else r::q::p).length<=_;grind
theorem adT:∀{R acc:List Rn},(R.foldl q8 acc).length<=acc.length+R.length
 | [],acc=>Nat.le_refl _
 | r::R,acc=>by
   have h1:=@adT R (q8 acc r);grind [agy]
theorem ahl(ha:∀x∈acc,IJ x.d)(hr:IJ r.d):∀x∈q8 acc r,IJ x.d:=by
 cases acc with
 | nil=>intro x hx;rw[List.mem_singleton.1 hx];omega
 | cons q p=>
   have hq:=ha q ς;have hp:∀x∈p,IJ x.d:=λx hx=>ha x (σ _ hx);show ∀x∈(bif acE q r then fD q r::p else r::q::p),IJ x.d;cases acE q r with
   | true=>
     intro x hx;rcases List.mem_cons.1 hx with rfl|hx
     . show IJ (bif ab (gc r.c r.d q.c q.d) 0 then q.d else r.d);grind
     grind
   | false=>
     grind
theorem aeu:∀{R acc:List Rn},(∀x∈acc,IJ x.d)->(∀x∈R,IJ x.d)->∀x∈R.foldl q8 acc,IJ x.d
 | [],acc,ha,_=>ha
 | r::R,acc,ha,hr=>aeu (R:=R) (acc:=q8 acc r) (ahl ha (hr r ς)) λx hx=>hr x (σ _ hx)
theorem aot(hR:∀i,i<R.length->IJ (R.getD i x9).d):cu Tryz.prog (cH cfg TK) (Cw cfg [.a (bh R) false none]) (lb 82 0) 46 [2,3,9,10,11] (DS R):=by
 have hw:=@jz R;intro vs o t Q hv hq J;unfold DS at hv;split at hv
 . rename_i n K n' i;cases hv;replace hq:=cO hq;obtain⟨⟨h1,h2,h3,h4,h5,-⟩,hq⟩:=hq;rw[aJ]at h1;rw[al]at h2 h3;rw[ao]at h4 h5;subst h1 h4 h5;simp only[aH,Tr.wp]at hq;refine ia agO rfl rfl ai (ι:={i:Nat // i<=R.length}) (λx=>[.f,ajI (abL (R.take x.1)),.c 14 0 R.length K,.a .i64 (ν R.length),.a .i64 (ν x.1)]) (λx=>anc (abL (R.take x.1))) (λx=>R.length-x.1) 0 (λ_=>Nat.zero_le _) (λx J=>?_) (Nat.le_refl _) (λJ=>Wk.a0 ⟨⟨0,Nat.zero_le _⟩,J,rfl⟩) J;obtain⟨i,hi⟩:=x;dsimp only;have kk:∀(a:IntKind) (n:Int),eB a (.a a n)=true:=λa n=>by cases a<;>rfl
   have io:∀(a:IntKind) (n:Int),dx (.a a n)=n:=λ_ _=>rfl;have nx:i<R.length->abL (R.take (i+1))=q8 (abL (R.take i)) (R.getD i x9):=adP;have nn:1<=i->abL (R.take i)≠[]:=λh=>by
    obtain⟨j,rfl⟩:∃j,i=j+1:=⟨i-1,by omega⟩;grind [adP,agQ]
   have facts:i<R.length->ab (ν R.length) (ν i)=false/\aS i R.length/\af .i64 (Int.add (ν i) 1)=true:=λh=>⟨by grind [bF],aU.2 h,by grind [aE,eH,eE]⟩;cases hacc:abL (R.take i)with
   | nil=>
     refine jJ (bE 11111120064444204) (R:=λQ=>(λ(A F:AV)(B C:Int)(E:Nat)=>(λ(H O:AV)(G:Bool)(N:Int)(I:Nat)=>(λ(T:AV)(P:Bool)(U:Nat)=>(λ(W Y:AV)(V:Bool)=>(λ(Z u0:Bool)(u1:List AV)=>(λ(u2:cD)=>(G->aS i R.length/\(P->(V->(Z->(u0->af .i64 N/\Q (.a,[.f,.c 17 0 1 (fg.b 0),F,O,.a .i64 N],⟨3,[.a u1 true (some 4),u2,u2],[]⟩))/\(u0=false->False))/\(Z=false->False))/\(V=false->False))/\(P=false->False))/\(G=false->Q (.b 0,[.f,.f,F,O,.a .i64 B],⟨0,[],[]⟩))) (.a u1 true none)) (eB .i8 W) (eB .i64 Y) [.a .i8 (dx H),.a .i64 (dx T),.a .i8 (dx W),.a .i64 (dx Y)]) (ο (bh R) U A) (ο (bh R) (ξ U 1) A) (eB .i64 T)) (ο (bh R) I A) (eB .i8 H) (ξ I 1)) (ο (bh R) E A) (.a .i64 C) (not (ab C B)) (Int.add B 1) (ξ E 1)) (.d []) (.c 14 0 R.length K) (ν i) (ν R.length) (ξ 0 (HMul.hMul i 4))) (λ_=>by rfl) λQ' hQ=>?_;try dsimp only
     by_cases hlt:i<R.length
     . obtain⟨j1,j2,j3⟩:=facts hlt;obtain⟨f1,f2,f3,f4⟩:=afL (A:=bh (R.take i)) (B:=bh (R.drop (i+1))) (r:=R.getD i x9) (n:=i) (by rw[kC,χ,Nat.min_eq_left hi]);rw[<-abI hlt]at f1 f2 f3 f4;simp only[f1,f2,f3,f4,kk,io,j1,j2,j3,Bool.not_true,Bool.not_false,true_and,and_true,true_imp_iff,reduceCtorEq,false_imp_iff];refine hQ _ ⟨⟨i+1,hlt⟩,by dsimp only;omega,?_⟩;dsimp only;rw[nx hlt,hacc];exact aeh (k:=2) hw ζ rfl tm rfl
     . exfalso;exact nn δ hacc
   | cons q p=>
     refine jJ (bE 11225200051275200422052277022704) (R:=λQ=>(λ(A N u2 u4 u5:AV)(I Y u0:Int)(Z u1 u3:Nat)=>(λ(P u7:AV)(u6:Bool)(O u9:Int)(u8:Nat)=>(λ(ua uf:AV)(uc ue:Bool)(C:Int)(ub ud:Nat)=>(λ(ug uh:AV)(F:Int)(E:Nat)=>(λ(ui:AV)(B G:Int)(uj:Nat)=>(λ(uk:AV)(T:Int)(um:List AV)(ul:Nat)=>(λ(V:cD)(un uo:AV)(U:Int)=>(λ(up:Bool)(H W:Int)=>(λ(uq ur:Bool)=>(λ(us:List AV)=>(λ(ut:Prop->Prop)=>(u6->aS i R.length/\eB .i8 u7/\eB .i64 ua/\eB .i8 ug/\eB .i64 uh/\not (ab u0 0)/\ut (eB .i8 ui/\eB .i64 uk/\eB .i8 un/\eB .i64 uo/\af .i64 H/\af .i64 B/\(uq->ut (π (ξ E 4) u1/\ue/\Q (.a,[.f,u2,N,P,uf],⟨3,[.a us true none,V,.a (JL (bh (q::p).reverse) E us) true (some 4)],[]⟩)))/\(uq=false->and (and (π u3 1000000) true) true/\and true (ψ u1 (HMul.hMul (p.length+1) 4))/\ue/\Q (.a,[.f,.c 19 0 u3 (fg.b 0),N,P,uf],⟨5,[.a ((bh (q::p).reverse)++um) true (some 4),V,.a [u4,u5,u4,u5] true none,V,cD.b],[]⟩))))/\(u6=false->Q (.b 0,[.f,u2,N,P,.a .i64 I],⟨1,[.a (bh (q::p).reverse) true (some 4)],[]⟩))) (λuu=>uc/\ab 0 O/\aS ud (p.length+1)/\uu)) [.a .i8 (cond up T C),.a .i64 (cond up U F),.a .i8 (cond ur W G),.a .i64 (cond ur H B)]) (vz T U W H C F G B) (ab (gc G B W H) 0)) (ab 0 (gc C F T U)) (dx uo) (dx un)) (.a um true none) (ο (bh (q::p).reverse) ul A) (ο (bh (q::p).reverse) (ξ ul 1) A) (dx uk)) (ο (bh (q::p).reverse) uj A) (dx ui) [.a .i8 C,.a .i64 F,.a .i8 G,.a .i64 B] (ξ uj 1)) (ο (bh (q::p).reverse) E A) (dx uh) (dx ug) (ξ E 1)) (ο (bh R) ub A) (ο (bh R) (ξ ub 1) A) (dx ua) (ξ 0 (HMul.hMul ud 4))) (ο (bh R) u8 A) (.a .i64 u9) (af .i64 O) (af .i64 u9) (dx u7) (ξ u8 1) O.toNat) (.a .i64 Y) (ο (bh R) Z A) (not (ab Y I)) (Int.sub u0 1) (Int.add I 1) (ξ Z 1)) (.d []) (.c 14 0 R.length K) (.c 15 0 (p.length+1) (fg.b 0)) (.a .i8 0) (.a .i64 0) (ν i) (ν R.length) (ν (p.length+1)) (ξ 0 (HMul.hMul i 4)) (bh (q::p).reverse).length (ξ (p.length+1) 1)) (λ_=>by kernel_rfl) λQ' hQ=>?_;try dsimp only
     have e0:bh (q::p).reverse=bh p.reverse++(bh [q]++[]):=by rw[υ,UA,List.append_nil]
     have lp:(bh p.reverse).length=p.length*4:=by rw[kC,τ]
     by_cases hlt:i<R.length
     . obtain⟨j1,j2,j3⟩:=facts hlt;obtain⟨f1,f2,f3,f4⟩:=afL (A:=bh (R.take i)) (B:=bh (R.drop (i+1))) (r:=R.getD i x9) (n:=i) (by rw[kC,χ,Nat.min_eq_left hi]);rw[<-abI hlt]at f1 f2 f3 f4;obtain⟨g1,g2,g3,g4⟩:=afL (A:=bh p.reverse) (B:=[]) (r:=q) lp;rw[<-e0]at g1 g2 g3 g4;have hl:p.length+1<=i:=by
        have h:(abL (R.take i)).length<=([]:List Rn).length+(R.take i).length:=adT;rw[hacc,χ,Nat.min_eq_left hi]at h;simpa using h
       have mem:∀x∈R,IJ x.d:=λx hx=>by
        obtain⟨k,hk,rfl⟩:=List.getElem_of_mem hx;have:=hR k hk
        rwa [List.getD_eq_getElem?_getD,List.getElem?_eq_getElem hk]at this
       have hin:∀x∈q::p,IJ x.d:=λx hx=>aeu (acc:=[]) (λx hx=>by cases hx) (λx hx=>mem x (List.mem_of_mem_take hx)) x (by show x∈abL (R.take i);rw[hacc];exact hx);have i1:af .i64 q.d=true:=by rw[aE];exact hin q ς
       have i2:af .i64 (R.getD i x9).d=true:=by rw[aE];exact hR i hlt
       have pm:Int.toNat (Int.sub (ν (p.length+1)) 1)=p.length:=Q1;have m1:af .i64 (Int.sub (ν (p.length+1)) 1)=true:=by
        rw[aE];simp only[eH,eE];show _<=((p.length+1:Nat):Int)-1/\((p.length+1:Nat):Int)-1<=_;omega
       have m2:ab 0 (Int.sub (ν (p.length+1)) 1)=true:=by
        rw[aq];show(0:Int)<=((p.length+1:Nat):Int)-1;omega
       have m3:aS p.length (p.length+1)=true:=aU.2 (Nat.lt_succ_self _);have m4:ab (ν (p.length+1)) 0=false:=by rw[bF];simp only[Int.ofNat_eq_natCast];omega
       have le:(bh (q::p).reverse).length=(p.length+1)*4:=by rw[kC,τ];rfl
       have m5:π (0+p.length*4+4) (bh (q::p).reverse).length=true:=by rw[al,le];omega
       have m6:ψ (bh (q::p).reverse).length ((p.length+1)*4)=true:=aJ.mpr le;have m7:π (p.length+1+1) 1000000=true:=by rw[al];omega
       rw[pm];generalize hr:R.getD i x9=r at *;have hs:abL (R.take (i+1))=bif acE q r then fD q r::p else r::q::p:=by rw[nx hlt,hacc];rfl
       simp only[f1,f2,f3,f4,g1,g2,g3,g4,kk,io,i1,i2,j1,j2,j3,m1,m2,m3,m4,m5,m6,m7,zAi,true_and,and_true,true_imp_iff,reduceCtorEq,false_imp_iff];unfold acE at hs;cases ht:vz q.a q.b q.c q.d r.a r.b r.c r.d with
       | true=>
         rw[ht,cond_true]at hs;simp only[true_and,and_true,true_imp_iff,reduceCtorEq,false_imp_iff];refine hQ _ ⟨⟨i+1,hlt⟩,by dsimp only;omega,?_⟩;dsimp only;rw[hs];have ep:JL (bh (q::p).reverse) (0+p.length*4) (bh [fD q r])=bh (fD q r::p).reverse:=by
          rw[e0,Nat.zero_add,afA lp,υ,UA];rfl
         refine aeh (k:=0) hw ζ ?_ tm ?_
         . exact congrArg (λc=>cD.a c true (some 4)) ep
         . show some _=some _;simp[ajI]
       | false=>
         rw[ht,cond_false]at hs;simp only[true_and,and_true,true_imp_iff,reduceCtorEq,false_imp_iff];refine hQ _ ⟨⟨i+1,hlt⟩,by dsimp only;omega,?_⟩;dsimp only;rw[hs];have ep:bh (q::p).reverse++bh [r]=bh (r::q::p).reverse:=by
          rw[υ (a:=r),UA]
         refine aeh (k:=4) hw ζ ?_ tm ?_
         . exact congrArg (λc=>cD.a c true (some 4)) ep
         . rfl
     . obtain rfl:i=R.length:=δ
       have j1:ab (ν R.length) (ν R.length)=true:=by rw[aq];exact Int.le_refl _
       simp only[j1,Bool.not_true,reduceCtorEq,false_imp_iff,true_and,true_imp_iff];refine hQ _ ⟨_,_,VW.a0,?_⟩;rw[List.take_length]at hacc;unfold aaq aaO at hq;rw[hacc,τ]at hq;exact hq
 . cases hv
theorem QW(hR:∀i,i<R.length->IJ (R.getD i x9).d)(h1:1<=R.length)(hn:R.length<=1000):bu Tryz.prog cfg 82 [.c 14 0 R.length K] [.a (bh R) false none] (.c 15 0 (aaq R) (.a (aaq R))) [.a (bh (aaO R)) true (some 4)]:=by
 refine Bu agO (L:=MJ R) alD θ (dv ajg λi hi e he st Q hw=>?_) (jJ (bE 11142020074) (R:=λQ=>(λ(A C E:Bool)(B:Int)(F:Prop)=>(A->π 1 R.length/\π R.length 1000/\aa B B/\(∀J1:Nat->Value,C/\C/\(E->F)/\(E=false->F)))/\(A=false->False)) (ψ R.length R.length) (π (aaq R) (aaq R)) (ψ (aaq R) 0) (ν R.length) (Q (.c 15 0 (HSub.hSub (aaq R) 0) (fg.a (HSub.hSub (aaq R) 0)),⟨1,[.a (bh (aaO R)) true (some 4)],[]⟩))) (λ_=>by rfl) λQ' hQ=>?_)
 . have hi:i=0:=η
   subst hi;cases he;exact bR (cC.a0 agO) ζ rfl (aot hR) hw
 . try dsimp only
   have hQ:Q' (AV.c 15 0 (aaq R-0) (fg.a (aaq R-0)),⟨1,[cD.a (bh (aaO R)) true (some 4)],[]⟩):=hQ _ dL.c0;rw[show ψ R.length R.length=true from aJ.mpr rfl,show π 1 R.length=true from al.mpr h1,show π R.length 1000=true from al.mpr hn,show π (aaq R) (aaq R)=true from al.mpr (Nat.le_refl _)];simp only[true_and,and_true,true_imp_iff,reduceCtorEq,false_imp_iff];exact⟨ao.mpr rfl,λ_=>⟨λ_=>hQ,λ_=>hQ⟩⟩
abbrev OQ:Type:=AV×cD
def alj(b:Nat)(r:AV×aB):Tr OQ:=match r.1 with
 | .d [.c id 0 m k,.a t e]=>bif π b id&&(aS (id-b) r.2.n&&Wx r.2.le)then .a0 (.d [.c b 0 m k,.a t e],r.2.at (id-b))else .c0
 | _=>.c0
noncomputable def akO(ws:List cD)(f:Nat)(x:AX×St):Tr OQ:=aT (wj tab (Cw cfg ws) (dH f) x) (alj (14+ws.length))
noncomputable def oT(S:aQ)(L:cx)(ws:List cD)(f:Nat)(args:List AV):Tr OQ:=xz tab (cH cfg S) (tK S) L 1000 (Cw cfg ws) (aL f) (jS (dH f) args dO) (akO ws f)
def wi(w:List AV)(n:Nat):Bool:=eJ w&&(ψ (Xw w).length n&&(π 1 n&&π n 1000))
def wm(w:List AV):Nat:=aaq (Xw w)
def zX(w:List AV):List AV:=bh (aaO (Xw w))
def FI:aav:=λ
 | [.c 14 0 n K],[.a w false none]=>some (aH [wi w n] (.a0 (.c 15 0 (wm w) (.a (wm w)),[.a (zX w) true (some 4)])))
 | _,_=>none
def TL:aQ:=eQ (pX (pX gZ 40 Pm) 85 QG) 82 (fl 14 [4] FI)
theorem dL.at(hw:∀x∈ws,cR 14 x){v':AV}{o:aB}{k:Nat}(hle:o.le=[])(hk:k<o.n)(h1:o.at k=x)(hx:cR (14+ws.length) x)(hv:kG (14+ws.length) [(14+ws.length+k,14+ws.length)] 20 v'=some v):dL ws v [x] (v',o):=by
 obtain⟨n,os,le⟩:=o;obtain rfl:le=[]:=hle;have hv':kG ((Cw cfg ws).lo+0) (fY (Cw cfg ws).lo 0 [k]) 20 v'=some v:=hv;refine(oX gR.lv (C:=Cw cfg ws) (st:=⟨.c0 v' .a0 .a0,1,⟨n,os,[]⟩,[],none⟩) (kb:=0) (sel:=[k]) (ts':=.c0 v .a0 .a0) (o':=⟨1,[x],[]⟩) (B6 hw) (Nat.zero_le _) (λs hs=>?_) θ (λp hp=>by grind) rfl rfl rfl (λi hi=>absurd hi (Nat.not_lt_zero i)) (λt ht=>?_) ?_ (λd hd=>by grind) (λi hi=>by grind)).b0 λs hs=>?_
 . grind
 . have:t=0:=η
   subst this;refine .inl ⟨?_,?_⟩
   . show(⟨1,[x],[]⟩:aB).at 0=(⟨n,os,[]⟩:aB).at k;rw[h1];rfl
   . show cR (14+ws.length) ((⟨n,os,[]⟩:aB).at k);grind
 . grind [xB,ob]
 . rw[hs];exact⟨rfl,rfl⟩
theorem akX(hS:ak Tryz.prog cfg S){L:cx}(hws:∀x∈ws,cR 14 x){f:Nat}{args:List AV}{D:DT}{R:(OQ->Prop)->Prop}(hb:aY tab f=some (dH f,aL f))(hlen:args.length<=1000)(hL:qI Tryz.prog (cH cfg S) (Cw cfg ws) L (aL f))(hx:cR (14+ws.length) x)(hw:∀Q:OQ->Prop,gG Q (oT S L ws f args) D=R Q)(h:∀Q:OQ->Prop,Q (v,x)->R Q):bu Tryz.prog cfg f args ws v [x]:=by
 have h0:(oT S L ws f args).wp (·=(v,x)):=cg ((hw _).mpr (h _ rfl));refine cC.c0 hS hb hlen ((wE (cC.a0 hS) (nj cfg S) hL h0).a0 λy hy=>?_);have hy:(akO ws f y).wp (·=(v,x)):=hy;unfold akO at hy;cases he:wj tab (Cw cfg ws) (dH f) y with
 | none=>rw[he]at hy;exact hy.elim
 | some r=>
   rw[he]at hy;have hy:(alj (14+ws.length) r).wp (·=(v,x)):=hy;refine⟨r,rfl,?_⟩;obtain⟨v',o⟩:=r;unfold alj at hy;split at hy
   . rename_i id m k t e hv;cases hb:(π (14+ws.length) id&&(aS (id-(14+ws.length)) o.n&&Wx o.le))with
     | false=>rw[hb]at hy;exact hy.elim
     | true=>
       rw[hb,cond_true]at hy;have hy:(AV.d [.c (14+ws.length) 0 m k,.a t e],o.at (id-(14+ws.length)))=(v,x):=hy;simp only[zAa,al]at hb;obtain⟨b1,b2,b3⟩:=hb;have hle:o.le=[]:=by
        cases hr:o.le with
        | nil=>rfl
        | cons a b=>rw[hr]at b3;cases b3
       cases hy;have hv:v'=AV.d [.c id 0 m k,.a t e]:=hv;subst hv;refine dL.at hws hle (aU.1 b2) rfl hx ?_;have e0:14+ws.length+(id-(14+ws.length))=id:=δ
       rw[e0];have l1:To (14+ws.length) [(id,14+ws.length)] id=some (14+ws.length):=by
        grind [To,xx,aU,rY]
       simp_all [kG,yw,ob]
   . exact hy.elim
def iM(x y:Rn):Bool:=!(ab 0 (In x.a x.b x.c x.d y.a y.b y.c y.d))
def aaI(x:Rn):List Rn->List Rn
 | []=>[x]
 | y::ys=>bif iM x y then y::aaI x ys else x::y::ys
def aeI(L:List Rn):List Rn:=L.foldl (λacc x=>aaI x acc) []
def aa8(L:List Rn):List Rn:=(aeI L).reverse
def fu:List Bool->Prop->Prop
 | [],X=>X
 | b::bs,X=>(b->fu bs X)/\(b=false->False)
def XK:List Bool->Prop->Prop
 | [],X=>X
 | b::bs,X=>b/\XK bs X
theorem j6{X:Prop}(h:X):∀{bs:List Bool},Tk bs->fu bs X
 | [],_=>h
 | b::bs,hb=>⟨λ_=>j6 h hb.2,λe=>by rw[hb.1]at e;cases e⟩
theorem rR{X:Prop}(h:X):∀{bs:List Bool},Tk bs->XK bs X
 | [],_=>h
 | b::bs,hb=>⟨hb.1,rR h hb.2⟩
def fk(b:Bool)(X Y:Prop):Prop:=(b->X)/\(b=false->Y)
def fo:Option Bool->Bool->Prop->Prop->Prop
 | none,b,X,Y=>fk b X Y
 | some true,b,X,_=>b/\X
 | some false,b,_,Y=>b=false/\Y
def bo:Option Bool->DT->DT->DT
 | none,X,Y=>.b X Y
 | some true,X,_=>.t X
 | some false,_,Y=>.f Y
abbrev Ad:=Nat->Nat->Option Bool
def zV(g:Nat->Option Bool)(x:Rn):List Rn->(List Rn->Prop)->Prop
 | [],k=>k [x]
 | y::ys,k=>fo (g ys.length) (iM x y) (zV g x ys λz=>k (y::z)) (k (x::y::ys))
def sT(G:Ad):List Rn->List Rn->(List Rn->Prop)->Prop
 | [],a,k=>k a
 | x::L,a,k=>zV (G a.length) x a λz=>sT G L z k
def inO(g:Nat->Option Bool)(x:Rn):List Rn->Prop
 | []=>True
 | y::ys=>(∀v,g ys.length=some v->iM x y=v)/\(iM x y->inO g x ys)
def sO(G:Ad):List Rn->List Rn->Prop
 | [],_=>True
 | x::L,a=>inO (G a.length) x a/\sO G L (aaI x a)
def cT:List Rn->Prop->Prop
 | [],X=>X
 | x::L,X=>not (aa (bA x.a x.b x.c x.d) 0)=false/\cT L X
def tO(G:Ad)(L:List Rn)(Q:OQ->Prop):Prop:=cT L (sT G L [] λz=>fu [wi (bh z.reverse) L.length] (Q (.d [.c 15 0 (wm (bh z.reverse)) (.a (wm (bh z.reverse))),.a .i64 0],.a (zX (bh z.reverse)) true (some 4))))
theorem asc{a:Option Bool}{b:Bool}{X Y:Prop}(h:∀v,a=some v->b=v)(hX:b->X)(hY:b=false->Y):fo a b X Y:=by
 rcases a with _|_|_
 . exact⟨hX,hY⟩
 . exact⟨h _ rfl,hY (h _ rfl)⟩
 . exact⟨h _ rfl,hX (h _ rfl)⟩
theorem ahX{g:Nat->Option Bool}{x:Rn}:∀{L:List Rn} {k:List Rn->Prop},inO g x L->k (aaI x L)->zV g x L k
 | [],_,_,h=>h
 | y::ys,k,ho,h=>by
   rw[aaI]at h;refine asc ho.1 (λe=>?_) λe=>?_<;>rw[e]at h
   . exact ahX (ho.2 e) h
   . exact h
theorem ajY{G:Ad}:∀{L a:List Rn} {k:List Rn->Prop},sO G L a->k (L.foldl (λacc x=>aaI x acc) a)->sT G L a k
 | [],_,_,_,h=>h
 | _::_,_,_,ho,h=>ahX ho.1 (ajY ho.2 h)
theorem ajB{X:Prop}(hX:X):∀{L:List Rn},(∀x∈L,bA x.a x.b x.c x.d=0)->cT L X
 | [],_=>hX
 | x::L,h=>⟨by rw[h x (.head _)];rfl,ajB hX λy hy=>h y (.tail _ hy)⟩
theorem adg{x:Rn}:∀{L:List Rn},(aaI x L).length=L.length+1
 | []=>rfl
 | y::ys=>by
   unfold aaI;cases iM x y<;>simp only[zAj,zAd,adg]
def eN:Nat->DT->DT
 | 0,D=>D
 | k+1,D=>.e (eN k D)
def dI(g:Nat->Option Bool)(X:DT):Nat->DT
 | 0=>X
 | j+1=>bo (g j) (bif ψ j 0 then eN 38 X else eN 47 (dI g X j)) (eN 3 X)
def dS(G:Ad):Nat->Nat->DT
 | 0,_=>.b .z .z
 | m+1,i=>eN 25 (dI (G i) (dS G m (i+1)) i)
def dN:Nat->DT->DT
 | 0,X=>X
 | n+1,X=>eN 13 (.f (dN n X))
def dBn(G:Ad)(n:Nat):DT:=dN n (eN (18+28*n) (dS G (n-1) 1))
def A0:Ad:=λ_ _=>none
def A3(a b c:Bool):Ad
 | 1,_=>some a
 | 2,1=>some b
 | 2,_=>some c
 | _,_=>none
abbrev BO(K:fg)(G:Ad)(L:List Rn):Prop:=∀Q,gG Q (oT TL jE [.a (bh L) false none] 31 [.c 14 0 L.length K]) (dBn G L.length)=tO G L Q
section
variable(K:fg)(a b c d e f:Rn)
theorem b60:BO K (A3 false false false) [a,b,c,d,e,f]:=λ_=>by kernel_rfl
theorem b61:BO K (A3 false true false) [a,b,c,d,e,f]:=λ_=>by kernel_rfl
theorem b62:BO K (A3 false true true) [a,b,c,d,e,f]:=λ_=>by kernel_rfl
theorem b63:BO K (A3 true false false) [a,b,c,d,e,f]:=λ_=>by kernel_rfl
theorem b64:BO K (A3 true true false) [a,b,c,d,e,f]:=λ_=>by kernel_rfl
theorem b65:BO K (A3 true true true) [a,b,c,d,e,f]:=λ_=>by kernel_rfl
theorem b50:BO K A0 [a,b,c,d,e]:=λ_=>by kernel_rfl
end
theorem alU{x:Rn}:∀{L:List Rn},inO (λ_=>none) x L
 | []=>trivial
 | _::_=>⟨nofun,λ_=>alU⟩
theorem agH:∀{L a:List Rn},sO A0 L a
 | [],_=>trivial
 | _::_,_=>⟨alU,agH⟩
theorem bO(K:fg):∀L:List Rn,1<=L.length->L.length<=6->∃G,BO K G L/\sO G L []
 | [_],_,_=>⟨A0,λ_=>by kernel_rfl,agH⟩
 | [_,_],_,_=>⟨A0,λ_=>by kernel_rfl,agH⟩
 | [_,_,_],_,_=>⟨A0,λ_=>by kernel_rfl,agH⟩
 | [_,_,_,_],_,_=>⟨A0,λ_=>by kernel_rfl,agH⟩
 | [a,b,c,d,e],_,_=>⟨A0,b50 K a b c d e,agH⟩
 | [a,b,c,d,e,f],_,_=>by
   have rest:∀{u v w:Bool} {z:List Rn},z.length=3->sO (A3 u v w) [d,e,f] z:=λ{u v w z} hz=>by
    have n0:∀(i:Nat) (x:Rn) (L:List Rn),inO (A3 u v w (i+3)) x L:=λi x L=>alU;obtain⟨p,q,r,rfl⟩:∃p q r,z=[p,q,r]:=by
     match z,hz with
     | [p,q,r],_=>exact⟨p,q,r,rfl⟩
    have l1:(aaI d [p,q,r]).length=4:=adg;have l2:(aaI e (aaI d [p,q,r])).length=5:=by rw[adg,l1]
    refine⟨n0 0 _ _,?_,?_,trivial⟩
    . rw[l1];exact n0 1 _ _
    . rw[l2];exact n0 2 _ _
   cases h1:iM b a with
   | false=>
     have i1:aaI b (aaI a [])=[b,a]:=by simp only[aaI,h1,cond_false]
     cases h2:iM c b with
     | false=>exact⟨_,b60 K a b c d e f,trivial,⟨λv e=>by cases e;exact h1,λe=>by rw[h1]at e;cases e⟩,by rw[i1];exact⟨⟨λv e=>by cases e;exact h2,λe=>by rw[h2]at e;cases e⟩,rest (by rw[adg];rfl)⟩⟩
     | true=>cases h3:iM c a with
       | false=>exact⟨_,b61 K a b c d e f,trivial,⟨λv e=>by cases e;exact h1,λe=>by rw[h1]at e;cases e⟩,by rw[i1];exact⟨⟨λv e=>by cases e;exact h2,λ_=>⟨λv e=>by cases e;exact h3,λ_=>trivial⟩⟩,rest (by rw[adg];rfl)⟩⟩
       | true=>exact⟨_,b62 K a b c d e f,trivial,⟨λv e=>by cases e;exact h1,λe=>by rw[h1]at e;cases e⟩,by rw[i1];exact⟨⟨λv e=>by cases e;exact h2,λ_=>⟨λv e=>by cases e;exact h3,λ_=>trivial⟩⟩,rest (by rw[adg];rfl)⟩⟩
   | true=>
     have i1:aaI b (aaI a [])=[a,b]:=by simp only[aaI,h1,cond_true]
     cases h2:iM c a with
     | false=>exact⟨_,b63 K a b c d e f,trivial,⟨λv e=>by cases e;exact h1,λ_=>trivial⟩,by rw[i1];exact⟨⟨λv e=>by cases e;exact h2,λe=>by rw[h2]at e;cases e⟩,rest (by rw[adg];rfl)⟩⟩
     | true=>cases h3:iM c b with
       | false=>exact⟨_,b64 K a b c d e f,trivial,⟨λv e=>by cases e;exact h1,λ_=>trivial⟩,by rw[i1];exact⟨⟨λv e=>by cases e;exact h2,λ_=>⟨λv e=>by cases e;exact h3,λ_=>trivial⟩⟩,rest (by rw[adg];rfl)⟩⟩
       | true=>exact⟨_,b65 K a b c d e f,trivial,⟨λv e=>by cases e;exact h1,λ_=>trivial⟩,by rw[i1];exact⟨⟨λv e=>by cases e;exact h2,λ_=>⟨λv e=>by cases e;exact h3,λ_=>trivial⟩⟩,rest (by rw[adg];rfl)⟩⟩
theorem adM:∀{L acc:List Rn},(L.foldl (λacc x=>aaI x acc) acc).length=acc.length+L.length
 | [],acc=>rfl
 | x::L,acc=>by rw[List.foldl_cons,adM,adg,zAd];omega
theorem aeA{x y:Rn}:∀{L:List Rn},y∈aaI x L->y=x\/y∈L
 | [],h=>.inl (List.mem_singleton.1 h)
 | z::zs,h=>by
   unfold aaI at h;cases hl:iM x z with
   | true=>
     rw[hl,cond_true]at h;rcases List.mem_cons.1 h with rfl|h
     . simp
     . rcases aeA h with h|h<;>grind
   | false=>
     grind
theorem adI{y:Rn}:∀{L acc:List Rn},y∈L.foldl (λacc x=>aaI x acc) acc->y∈acc\/y∈L
 | [],acc,h=>.inl h
 | x::L,acc,h=>by
   rcases adI (L:=L) (acc:=aaI x acc) h with h|h<;>grind [aeA]
theorem adX:∀{L:List Rn},(∀x∈L,IJ x.b/\IJ x.d)->eJ (bh L)=true
 | [],_=>rfl
 | r::L,h=>by
   have h1:=h r ς;show(af .i64 r.b&&(af .i64 r.d&&eJ (bh L)))=true;rw[adX λx hx=>h x (σ _ hx),Bool.and_true,zAa,aE,aE];exact h1
theorem acq:∀{L:List Rn},Xw (bh L)=L
 | []=>rfl
 | r::L=>by simp only[bh,Xw,acq]
theorem anb{L:List Rn}(h:∀x∈L,IJ x.b/\IJ x.d)(hl:L.length=n)(h1:1<=n)(h2:n<=1000):wi (bh (aa8 L)) n=true:=by
 unfold wi;rw[adX λx hx=>?_,acq]
 . grind [aJ,al,aa8,aeI,adM]
 . have hx:x∈aeI L:=List.mem_reverse.1 hx;rcases adI hx with h'|h'<;>grind
theorem amT(hS:ak Tryz.prog cfg S):ak Tryz.prog cfg (eQ S 82 (fl 14 [4] FI)):=by
 refine bm hS (fW gR.lv Az λargs ws t r he hr=>?_);unfold FI at he;split at he
 . rename_i n K w;cases he;replace hr:=aF hr;obtain⟨⟨h0,-⟩,hr⟩:=hr;unfold wi at h0;simp only[zAa,aJ,al]at h0;obtain⟨h1,h2,h3,h4⟩:=h0;subst h2;cases hr;have key:=QW (R:=Xw w) (K:=K) (Hk h1) h3 h4;rw[hZ h1]at key;exact⟨key,λx hx=>by rw[List.mem_singleton.1 hx];exact tm⟩
 grind
theorem anj:ak Tryz.prog cfg TL:=amT (eG (eG aW Es) Nl)
theorem akw:aY tab 31=some (dH 31,aL 31):=κ
def J7(L:List Rn):Nat:=aaq (aa8 L)
def Sc(L:List Rn):List AV:=bh (aaO (aa8 L))
theorem fO{L:List Rn}(h1:1<=L.length)(h5:L.length<=6)(hc:∀x∈L,bA x.a x.b x.c x.d=0)(hi:∀x∈L,IJ x.b/\IJ x.d):bu Tryz.prog cfg 31 [.c 14 0 L.length K] [.a (bh L) false none] (.d [.c 15 0 (J7 L) (.a (J7 L)),.a .i64 0]) [.a (Sc L) true (some 4)]:=by
 obtain⟨G,hD,ho⟩:=bO K L h1 h5;refine akX anj jz (L:=jE) akw θ ai tm hD λQ' hQ=>ajB (ajY ho (j6 ?_ (bs:=[_]) ⟨anb hi rfl h1 δ,trivial⟩)) hc;unfold wm zX;rw[acq];exact hQ
end Go.Ev
