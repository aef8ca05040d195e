import Derived.Test.YtcffhjfdlflbgaaGreatDoorP36
set_option linter.all false
open Nat renaming ble->ν,beq->ο,le_refl->υ
open HAdd renaming hAdd->ξ
open List renaming getD->π
open Int renaming ofNat->ς
open Bool renaming not_false->σ,not_true->τ
open HMul renaming hMul->χ
set_option linter.all false
set_option maxRecDepth 100000
set_option maxHeartbeats 4000000
namespace Go.Ev
open Go Go.Proofs
variable{L R:List Rn}{r:Rn}{i:Nat}{S:aQ}{K:fg}
def W1:Nat->List Rn->Rn->List Rn×Rn
 | 0,l,r=>(l,r)
 | k+1,l,r=>bif ab 0 (fA l r l.length)then W1 k (l.eraseIdx (fA l r l.length).toNat) (fD (l.getD (fA l r l.length).toNat ek) r)else(l,r)
def jF(l:List Rn)(r:Rn):List Rn:=(W1 l.length l r).1
def f_(l:List Rn)(r:Rn):Rn:=(W1 l.length l r).2
def oM(l:List Rn)(r:Rn):Nat:=(jF l r).length
def aaJ(l:List Rn)(r:Rn):List Rn:=aaQ (f_ l r) (jF l r)
def El(R:List Rn)(r:Rn):dW:=λ
 | [.c 14 0 n K,.g 15 0],⟨1,[.a [.a .i8 a,.a .i64 b,.a .i8 c,.a .i64 d] true none],[]⟩=>some (aH [ο R.length n,ν n 1000,af .i64 r.d,aa a r.a,aa b r.b,aa c r.c,aa d r.d] (.d0 (ab 0 (fA R r R.length)) λt=>bif t then
    (.d0 (ο (oM R r) 0) λz=>bif z then .a0 (.b 0,[.f,.g 15 0],⟨1,[aah (f_ R r)],[]⟩)else .a0 (.b 0,[.c 16 0 (oM R r) (.a 0),.g 15 0],⟨2,[.a (bh (jF R r)) true (some 4),aah (f_ R r)],[]⟩))
    else .a0 (.b 0,[.c 14 0 n K,.g 15 0],⟨1,[aah r],[]⟩)))
 | _,_=>none
def sE(v u:dW):dW:=λvs o=>match v vs o with
 | some t=>some t
 | none=>u vs o
def MR(R:List Rn):cx:=iz (iz jE 2 (d9 85 [0,3,5,6] (sE (EA R) (sE EV EW)))) 4 (d9 85 [0,3,5,7,8] (sE (Er R) Ey))
def MV(R:List Rn)(r:Rn):cx:=iz (iz jE 0 (d9 85 [0,3] (El R r))) 6 (d9 85 [0,3,9,10,11] (sE (Du R) (sE Dv DJ)))
theorem acd{R:List Rn}{r:Rn}:∀{n:Nat},ab 0 (fA R r n)->∃i,i<n/\fA R r n=ς i/\abV (R.getD i ek) r=true
 | 0,h=>by cases h
 | n+1,h=>by
   unfold fA at h ⊢;cases ht:abV (R.getD n ek) r with
   | true=>grind
   | false=>
     rw[ht,cond_false]at h;rw[cond_false];obtain⟨i,h1,h2,h3⟩:=acd h;grind
theorem aeL{R:List Rn}{r:Rn}:∀{n:Nat},ab 0 (fA R r n)=false->∀i,i<n->abV (R.getD i ek) r=false
 | 0,_,i,hi=>absurd hi (Nat.not_lt_zero i)
 | n+1,h,i,hi=>by
   unfold fA at h;cases ht:abV (R.getD n ek) r with
   | true=>
     grind [bF]
   | false=>
     rw[ht,cond_false]at h;by_cases e:i=n
     . grind
     . exact aeL h i (by omega)
theorem adJ(h:ab 0 (fA L r L.length)=false):∀n,W1 n L r=(L,r)
 | 0=>rfl
 | n+1=>by grind [W1]
theorem adB(h:ab 0 (fA L r L.length)):∃i,i<L.length/\(fA L r L.length).toNat=i/\abV (L.getD i ek) r/\(L.eraseIdx i).length+1=L.length/\W1 L.length L r=W1 (L.eraseIdx i).length (L.eraseIdx i) (fD (L.getD i ek) r):=by
 grind [acd,W1]
theorem abh:∀{R:List Rn},eJ (bh R)=R.all λx=>af .i64 x.b&&af .i64 x.d
 | []=>rfl
 | r::R=>by
   show(af .i64 r.b&&(af .i64 r.d&&eJ (bh R)))=_;rw[abh,List.all_cons,Bool.and_assoc]
theorem aez(h:eJ (bh R)):pF R=true:=by
 grind [abh,pF]
theorem abF(h:eJ (bh R)):eJ (bh (R.eraseIdx i))=true:=by
 grind [abh,List.eraseIdx_sublist]
theorem wy(h:eJ (bh R))(hi:i<R.length):af .i64 (R.getD i ek).b/\af .i64 (R.getD i ek).d=true:=by
 grind [abh]
theorem ad8{q:Rn}(h1:af .i64 q.b/\af .i64 q.d)(h2:af .i64 r.b/\af .i64 r.d):af .i64 (fD q r).b/\af .i64 (fD q r).d=true:=by
 grind [fD]
theorem adj{P:Program}{cfg':cL}{C:bg}{c:Code}{tn:Nat}{rel:List Nat}{v u:dW}(h1:cu P cfg' C c tn rel v)(h2:cu P cfg' C c tn rel u):cu P cfg' C c tn rel (sE v u):=by
 intro vs o t Q hv hq J;unfold sE at hv;cases h:v vs o with
 | some t'=>rw[h]at hv;cases hv;exact h1 vs o _ Q h hq J
 | none=>rw[h]at hv;exact h2 vs o t Q hv hq J
theorem akK:ec tab 162=some (dH 162,aL 162):=by rfl
theorem aiE:(bz (aL 162)).map (·.1)=[0,2,4,6]:=by rfl
theorem ajk:(bz (lb 162 0)).map (·.1)=[2,4]:=by rfl
theorem aij:((bz (lb 162 0)).getD 0 (0,.skip)).2=lb 162 1:=by rfl
theorem ahg:((bz (lb 162 0)).getD 1 (0,.skip)).2=lb 162 2:=by rfl
theorem amu:qI Tryz.prog (cH cfg kB) (Cw cfg [.a (bh R) false none]) (MR R) (lb 162 0):=by
 refine dv ajk λi hi e he st Q hw=>?_;have hi:i=0\/i=1:=by grind
 rcases hi with rfl|rfl
 . cases he;rw[aij];exact bR (cC.a0 aag) (by decide) rfl (adj ap0 (adj ao8 apR)) hw
 . cases he;rw[ahg];exact bR (cC.a0 aag) (by decide) rfl (adj aqn aqb) hw
theorem aaT{b:Nat}(h:L≠[]){n:Nat}{B:List cD}:aey b L=.c b 0 L.length (.a 0)/\adH n B L=⟨n+1,.a (bh L) true (some 4)::B,[]⟩:=by
 cases L with
 | nil=>grind
 | cons q p=>exact⟨rfl,rfl⟩
theorem R_(hR:eJ (bh R))(h1:1<=R.length):∀{r:Rn},af .i64 r.b->cu Tryz.prog (cH cfg kB) (Cw cfg [.a (bh R) false none]) (lb 162 0) 85 [0,3] (El R r):=by
 intro r0 hr0;have hw:=@jz R;intro vs o t Q hv hq J;unfold El at hv;split at hv
 . rename_i n K a b c d;cases hv;replace hq:=cO hq;obtain⟨⟨k1,k2,k3,k4,k5,k6,k7,-⟩,hq⟩:=hq;rw[aJ]at k1;rw[al]at k2;rw[ao]at k4 k5 k6 k7;subst k1 k4 k5 k6 k7;replace hq:=hq;have hB:af .i64 r0.d=true:=k3;refine ia aag rfl rfl amu (ι:=Option {x:List Rn×Rn // eJ (bh x.1)/\(af .i64 x.2.b/\af .i64 x.2.d=true)/\W1 x.1.length x.1 x.2=W1 R.length R r0/\ab 0 (fA R r0 R.length)/\x.1.length<R.length})
    (λx=>match x with|none=>[.c 14 0 R.length K,.g 15 0]|some y=>[aey 16 y.1.1,.g 15 0])
    (λx=>match x with|none=>⟨1,[aah r0],[]⟩|some y=>adH 1 [aah y.1.2] y.1.1) (λx=>match x with|none=>R.length|some y=>y.1.1.length) 1 (λx=>?_) (λx J=>?_) (υ _) (λJ=>Wk.a0 ⟨none,J,rfl⟩) J
   . grind [ait]
   have kk:∀(a:IntKind) (n:Int),eB a (.a a n)=true:=λa n=>by cases a<;>rfl
   have io:∀(a:IntKind) (n:Int),dx (.a a n)=n:=λ_ _=>rfl;have bb:∀n:Nat,ο n n=true:=λn=>aJ.mpr rfl;cases x with
   | none=>
     dsimp only;refine jJ (bE 11111111114202200544444214004424) (R:=λQ=>(λ(A F:AV)(C E G H N:Bool)(I:Nat)=>(λ(O:Bool)(P:Nat)=>(λ(T:AV)(U:Nat)=>(λ(W:AV)(V:Bool)(Y:Nat)=>(λ(u0 u1:AV)(Z:Bool)=>(λ(u2 u3:Bool)(B:Rn)=>(λ(u4:cD)=>(C->G/\(pF R->(H->(∀J1:Nat->Value,(O->Q (.b 0,[.c 14 0 R.length K,F],⟨1,[.a [.a .i8 (Rn.a r0),.a .i64 (Rn.b r0),.a .i8 (Rn.c r0),.a .i64 (Rn.d r0)] true none],[]⟩))/\(O=false->E/\(aS I R.length->(V->(Z->(u2->(u3->C/\G/\E/\(N->(∀J2:Nat->Value,Q (.a,[.f,F],⟨1,[u4],[]⟩)))/\(N=false->(∀J2:Nat->Value,Q (.a,[.c 16 0 (oz R (fA R r0 R.length)) (fg.a 0),F],⟨2,[.a (bh (qA R (fA R r0 R.length))) true (some 4),u4],[]⟩))))/\(u3=false->False))/\(u2=false->False))/\(Z=false->False))/\(V=false->False))/\(aS I R.length=false->False))))/\(H=false->False))/\(pF R=false->False))/\(C=false->False)) (.a [.a .i8 (Rn.a B),.a .i64 (Rn.b B),.a .i8 (Rn.c B),.a .i64 (Rn.d B)] true none)) (eB .i8 u0) (eB .i64 u1) (fD (Rn.mk (dx T) (dx W) (dx u0) (dx u1)) r0)) (π (bh R) Y A) (π (bh R) (ξ Y 1) A) (eB .i64 W)) (π (bh R) U A) (eB .i8 T) (ξ U 1)) (π (bh R) P A) (ξ P 1)) (not E) (ξ 0 (χ I 4))) (.d []) (.g 15 0) (ο R.length R.length) (ab 0 (fA R r0 R.length)) (ν R.length 1000) (af .i64 (Rn.d r0)) (ο (oz R (fA R r0 R.length)) 0) (Int.toNat (fA R r0 R.length))) (λ_=>by kernel_rfl) λQ' hQ=>?_;try dsimp only
     have hD:=aez hR;have hn:=al.mpr k2;cases ht:ab 0 (fA R r0 R.length)with
     | false=>
       rw[ht]at hq;have fin:=hQ (AX.b 0,([.c 14 0 R.length K,.g 15 0],⟨1,[aah r0],[]⟩)) ⟨_,_,VW.a0,hq⟩;simp only[bb,hn,hD,hB,σ,τ,true_and,and_true,true_imp_iff,reduceCtorEq,false_imp_iff];exact λ_=>fin
     | true=>
       obtain⟨i,i1,i2,i3,i4,i5⟩:=adB ht;obtain⟨f1,f2,f3,f4⟩:=acG i1;have hj:=ad8 (wy hR i1) ⟨hr0,hB⟩;have go:∀vs o,VW cfg (Cw cfg [.a (bh R) false none]) 1 85 [0,3] vs o [aey 16 (R.eraseIdx i),.g 15 0] (adH 1 [aah (fD (R.getD i ek) r0)] (R.eraseIdx i))->Q' (AX.a,(vs,o)):=λvs o h=>hQ _ ⟨some ⟨(R.eraseIdx i,fD (R.getD i ek) r0),abF hR,hj,i5.symm,ht,by grind⟩,by grind,h⟩;unfold oz qA;rw[i2];have hl:aS i R.length=true:=aU.2 i1;simp only[f1,f2,f3,f4,kk,io,bb,hn,hD,hB,hl,σ,τ,true_and,and_true,true_imp_iff,reduceCtorEq,false_imp_iff];intro _;cases hz:R.eraseIdx i with
       | nil=>
         rw[hz]at go;exact⟨λ_ _=>go _ _ VW.a0,λh=>(by cases h)⟩
       | cons q p=>
         rw[hz]at go;exact⟨λh=>(by cases h),λ_ _=>go _ _ VW.a0⟩
   | some y=>
     obtain⟨⟨L,r⟩,hL,hr,hp,hs,hl⟩:=y;dsimp only at hL hr hp hl ⊢;rw[hs]at hq;have ends:ab 0 (fA L r L.length)=false->jF R r0=L/\f_ R r0=r:=λh=>by
      unfold jF f_;rw[<-hp,adJ h];exact⟨rfl,rfl⟩
     by_cases hne:L=[]
     . subst hne;refine jJ (.e .z) (R:=λQ=>∀J1:Nat->Value,Q (.b 0,[.f,.g 15 0],⟨1,[.a [.a .i8 r.1,.a .i64 r.2,.a .i8 r.3,.a .i64 r.4] true none],[]⟩)) (λ_=>by kernel_rfl) λQ' hQ=>?_;try dsimp only
       obtain⟨e1,e2⟩:=ends rfl;intro _;refine hQ (AX.b 0,([.f,.g 15 0],⟨1,[aah r],[]⟩)) ⟨_,_,VW.a0,?_⟩;unfold oM at hq;rw[e1,e2]at hq;exact hq
     . rw[(aaT (b:=16) (n:=1) (B:=[aah r]) hne).1,(aaT (b:=16) (n:=1) (B:=[aah r]) hne).2];have hpos:0<L.length:=List.length_pos_iff.2 hne;refine jJ (bE 111111111114207005444442140044244) (R:=λQ=>(λ(B F:AV)(E I N:Bool)(A:List Rn)=>(λ(T:cD)(G H P:Bool)(O:Nat)=>(λ(U:Bool)(V:Nat)=>(λ(W:AV)(Y:Nat)=>(λ(u0:AV)(Z:Bool)(u1:Nat)=>(λ(u3 u4:AV)(u2:Bool)=>(λ(u5 u6:Bool)(C:Rn)=>(λ(u7:cD)=>(E->(G->I/\(pF A->(N->(∀J1:Nat->Value,(U->Q (.b 0,[.c 16 0 L.length (fg.a 0),F],⟨2,[.a (bh L) true (some 4),.a [.a .i8 (Rn.a r),.a .i64 (Rn.b r),.a .i8 (Rn.c r),.a .i64 (Rn.d r)] true none],[]⟩))/\(U=false->H/\(aS O L.length->(Z->(u2->(u5->(u6->E/\G/\I/\H/\(P->(∀J2:Nat->Value,Q (.a,[.f,F],⟨2,[T,u7],[]⟩)))/\(P=false->(∀J2:Nat->Value,Q (.a,[.c 17 0 (oz A (fA A r L.length)) (fg.a 0),F],⟨3,[.a (bh (qA A (fA A r L.length))) true (some 4),T,u7],[]⟩))))/\(u6=false->False))/\(u5=false->False))/\(u2=false->False))/\(Z=false->False))/\(aS O L.length=false->False))))/\(N=false->False))/\(pF A=false->False))/\(G=false->False))/\(E=false->False)) (.a [.a .i8 (Rn.a C),.a .i64 (Rn.b C),.a .i8 (Rn.c C),.a .i64 (Rn.d C)] true none)) (eB .i8 u3) (eB .i64 u4) (fD (Rn.mk (dx W) (dx u0) (dx u3) (dx u4)) r)) (π (bh L) u1 B) (π (bh L) (ξ u1 1) B) (eB .i64 u0)) (π (bh L) Y B) (eB .i8 W) (ξ Y 1)) (π (bh L) V B) (ξ V 1)) (not H) (ξ 0 (χ O 4))) (.a (bh A) true (some 4)) (ο A.length L.length) (ab 0 (fA A r L.length)) (ο (oz A (fA A r L.length)) 0) (Int.toNat (fA A r L.length))) (.d []) (.g 15 0) (eJ (bh L)) (ν L.length 1000) (af .i64 (Rn.d r)) (g8 (bh L))) (λ_=>by kernel_rfl) λQ' hQ=>?_;try dsimp only
       rw[mZ];have hD:=aez hL;have hn:ν L.length 1000=true:=al.mpr (by omega);cases ht:ab 0 (fA L r L.length)with
       | false=>
         obtain⟨e1,e2⟩:=ends ht;have fin:=hQ (AX.b 0,([.c 16 0 L.length (.a 0),.g 15 0],⟨2,[.a (bh L) true (some 4),aah r],[]⟩)) ⟨_,_,VW.a0,by
          unfold oM at hq;rw[e1,e2]at hq;have hz:ο L.length 0=false:=b9.mpr (by omega);simp only[Tr.wp]at hq;rw[hz]at hq;exact hq⟩
         simp only[bb,hn,hD,hL,hr.2,σ,τ,true_and,and_true,true_imp_iff,reduceCtorEq,false_imp_iff];exact λ_=>fin
       | true=>
         obtain⟨i,i1,i2,i3,i4,i5⟩:=adB ht;obtain⟨f1,f2,f3,f4⟩:=acG i1;have hj:=ad8 (wy hL i1) hr;have go:∀vs o,VW cfg (Cw cfg [.a (bh R) false none]) 1 85 [0,3] vs o [aey 16 (L.eraseIdx i),.g 15 0] (adH 1 [aah (fD (L.getD i ek) r)] (L.eraseIdx i))->Q' (AX.a,(vs,o)):=λvs o h=>hQ _ ⟨some ⟨(L.eraseIdx i,fD (L.getD i ek) r),abF hL,hj,by rw[<-hp];exact i5.symm,hs,by dsimp only;omega⟩,by dsimp only;omega,h⟩;unfold oz qA;rw[i2];have hl2:aS i L.length=true:=aU.2 i1;simp only[f1,f2,f3,f4,kk,io,bb,hn,hD,hL,hr.2,hl2,σ,τ,true_and,and_true,true_imp_iff,reduceCtorEq,false_imp_iff];intro _;have hlow:∀z∈[aah (fD (L.getD i ek) r)],cR (14+1+1) z:=ajv;cases hz:L.eraseIdx i with
         | nil=>
           rw[hz]at go;exact⟨λ_ _=>go _ _ (ad6 (top:=[.a (bh L) true (some 4)]) hw rfl rfl hlow rfl),λh=>(by cases h)⟩
         | cons q p=>
           rw[hz]at go;refine⟨λh=>(by cases h),λ_ _=>go _ _ (af8 (k:=2) (top:=[.a (bh (q::p)) true (some 4),.a (bh L) true (some 4)]) hw rfl rfl (by decide) (by decide) rfl hlow hH rfl)⟩
 . cases hv
def dJ(k:Int)(x:Da):Bool:=(aa k 1&&fL x.ng x.lg x.s x.e x.g x.mo x.da x.a x.b x.c) || ((aa k 2 || aa k 3)&&dZ x.ng x.lg x.s x.e x.g x.mo x.da x.a x.b x.c)
def akm:dP:=λ
 | [.h [.a .u8 k,.b ng,.b lg,.e s,.a .i64 e,.a .i64 g,.e mo,.e da,.a .u8 a,.a .u8 b,.a .u8 c]]=>some (aH [dJ k ⟨ng,lg,s,e,g,mo,da,a,b,c⟩] (.a0 (.a .i64 0)))
 | _=>none
def jM(k:Int)(x:Da)(l:Int)(y:Da):Int:=bif !(aa k 1)&&!(aa l 1)then 11 else bif (aa k 1&&aa l 1)&&!(ab (aP x.ng x.s x.e x.mo x.da) (bq y.ng y.s y.e y.mo y.da))then 11 else 0
def aiH:dP:=λ
 | [.h [.a .u8 k,.b ng,.b lg,.e s,.a .i64 e,.a .i64 g,.e mo,.e da,.a .u8 a,.a .u8 b,.a .u8 c],.h [.a .u8 l,.b ng',.b lg',.e s',.a .i64 e',.a .i64 g',.e mo',.e da',.a .u8 a',.a .u8 b',.a .u8 c']]=>some (aH [dJ k ⟨ng,lg,s,e,g,mo,da,a,b,c⟩,dJ l ⟨ng',lg',s',e',g',mo',da',a',b',c'⟩] (.a0 (.a .i64 (jM k ⟨ng,lg,s,e,g,mo,da,a,b,c⟩ l ⟨ng',lg',s',e',g',mo',da',a',b',c'⟩))))
 | _=>none
def y8:aQ:=d5 (d5 gZ 46 tw) 126 ag_
def G1:aQ:=d5 (d5 gZ 69 akm) 70 ahu
theorem ap9(x:Da){Q:AV->Prop}:gG Q (pT y8 jE 69 [.h (.a .u8 1::x.cs)]) (bE 103811114224420206242256)=((λ(u2 u3 u4:Bool)(u1:Int)(u0:Prop)=>(λ(u5 u6 u7:Prop)=>u0/\af .i64 x.4/\(u5->u5/\u5/\u0/\(u2->(u3->u5/\u5/\(u4->Q (AV.a .i64 11))/\(u4=false->u6))/\(u3=false->False))/\(u2=false->False))/\(u7->u7/\u7/\u7/\u7/\u6)) (aa u1 0=true) (Q (AV.a .i64 u1)) (aa u1 0=false)) (ν (List.length x.6) 1000) (ν (List.length x.7) 1000) (aa (bI (cK x.3 x.5 x.6 x.7)) 0) (bW x.1 x.2 x.3 x.4 x.5 x.6 x.7 x.8 x.9 x.10) (ν (List.length x.3) 1000=true)):=by rfl
theorem aoH(k:Int)(x:Da){Q:AV->Prop}:gG Q (pT y8 jE 69 [.h (.a .u8 k::x.cs)]) (bE 11140066411400662430)=((λ(u1:Bool)(u0:Prop)=>(λ(u2:Prop)=>aa k 1=false/\(u0->u0/\u2)/\(aa k 2=false->(aa k 3->u2)/\(aa k 3=false->Q (AV.a .i64 18)))) ((u1->Q (AV.a .i64 5))/\(u1=false->Q (AV.a .i64 0)))) (not (and (and (bQ x.1 false) (and (bQ x.2 false) (and (ae x.3 []) (and (aa x.4 0) (and (aa x.5 0) true))))) (and (ae x.6 []) (and (ae x.7 []) (and (and (aa x.8 0) (and (aa x.9 0) (and (aa x.10 0) true))) true))))) (aa k 2=true)):=by rfl
theorem apx(k l:Int)(x y:Da){Q:AV->Prop}:gG Q (pT G1 jE 21 [.h (.a .u8 k::x.cs),.h (.a .u8 l::y.cs)]) (bE 11111114400640064220220081038014220240045640006)=((λ(u0 u1 u4 u5 u6:Bool)(u2 u3:Prop)=>(λ(u7 u9 ua ub:Prop)=>(dJ k (Da.mk x.1 x.2 x.3 x.4 x.5 x.6 x.7 x.8 x.9 x.10)->(dJ l (Da.mk y.1 y.2 y.3 y.4 y.5 y.6 y.7 y.8 y.9 y.10)->(u7->u7/\u7/\u7/\(not u1->u2)/\(not u1=false->u9/\u9/\u9/\u9/\u3))/\(ua->ua/\ua/\ua/\ub/\ub/\ub/\ub/\(u1->(u4->(u5->(u6->u2)/\(u6=false->u3))/\(u5=false->False))/\(u4=false->False))/\(u1=false->u3)))/\(dJ l (Da.mk y.1 y.2 y.3 y.4 y.5 y.6 y.7 y.8 y.9 y.10)=false->False))/\(dJ k (Da.mk x.1 x.2 x.3 x.4 x.5 x.6 x.7 x.8 x.9 x.10)=false->False)) (not u0=true) (u0=false) (not u0=false) (u0=true)) (aa k 1) (aa l 1) (fL x.1 x.2 x.3 x.4 x.5 x.6 x.7 x.8 x.9 x.10) (fL y.1 y.2 y.3 y.4 y.5 y.6 y.7 y.8 y.9 y.10) (not (ab (aP x.1 x.3 x.4 x.6 x.7) (bq y.1 y.3 y.4 y.6 y.7))) (Q (AV.a .i64 11)) (Q (AV.a .i64 0))):=by rfl
theorem afQ:ec tab 69=some (dH 69,aL 69):=by rfl
theorem aiW:ec tab 21=some (dH 21,aL 21):=by rfl
theorem ahC:ak Tryz.prog cfg y8:=afa (aeN aW)
theorem acR{k:Int}{x:Da}:dJ k x=true↔(k=1/\fL x.ng x.lg x.s x.e x.g x.mo x.da x.a x.b x.c=true)\/((k=2\/k=3)/\dZ x.ng x.lg x.s x.e x.g x.mo x.da x.a x.b x.c=true):=by
 grind [dJ,ao]
theorem akQ(hS:ak Tryz.prog cfg S):ak Tryz.prog cfg (d5 S 69 akm):=by
 refine au hS λargs t v he hv=>?_;unfold akm at he;split at he
 . rename_i k ng lg s e g mo da a b c;cases he;replace hv:=aF hv;obtain⟨⟨h0,-⟩,hv⟩:=hv;cases hv;rcases acR.1 h0 with⟨rfl,hx⟩|⟨hk,hz⟩
   . refine kA ahC (L:=jE) afQ (by simp) ai (eD λQ' hQ=>cg ((ap9 ⟨ng,lg,s,e,g,mo,da,a,b,c⟩).mpr ?_)) (by rfl);have hQ:=hQ _ rfl;obtain⟨h6,i1,i2,i3,i4,e0,nx,rfl⟩:=ye.1 hx;dsimp only at h6 i1 i2 i3 i4 e0 nx;have hn:cK s 0 mo da=true:=by unfold cK;rw[nx];rfl
     have d0:=Cc e0;have nl:∀l:List UInt8,H4 l->ν l.length 1000=true:=λl hl=>by
      rcases x5 hl with rfl|⟨u,v,rfl,-⟩<;>rfl
     obtain⟨_,_,p3,p4,_⟩:=aaj e0 nx h6;simp_all [aa,bI]
   . refine kA ahC (L:=jE) afQ (by simp) ai (eD λQ' hQ=>cg ((aoH k ⟨ng,lg,s,e,g,mo,da,a,b,c⟩).mpr ?_)) (by rfl);have hQ:=hQ _ rfl;unfold dZ at hz;try dsimp only at hz ⊢
     have k1:aa k 1=false:=aw.mpr (by omega);rw[show(and (and (bQ ng false) (and (bQ lg false) (and (ae s []) (and (aa e 0) (and (aa g 0) true))))) (and (ae mo []) (and (ae da []) (and (and (aa a 0) (and (aa b 0) (and (aa c 0) true))) true))))=true from hz];rcases hk with rfl|rfl<;>simp_all [aa]
 grind
theorem aky:ak Tryz.prog cfg G1:=afd (akQ aW)
theorem agM(hS:ak Tryz.prog cfg S):ak Tryz.prog cfg (d5 S 21 aiH):=by
 refine au hS λargs t v he hv=>?_;unfold aiH at he;split at he
 . rename_i k ng lg s e g mo da a b c l ng' lg' s' e' g' mo' da' a' b' c';cases he;replace hv:=aF hv;obtain⟨⟨h1,h2,-⟩,hv⟩:=hv;cases hv;refine kA aky (L:=jE) aiW (by simp) ai (eD λQ' hQ=>cg ((apx k l ⟨ng,lg,s,e,g,mo,da,a,b,c⟩ ⟨ng',lg',s',e',g',mo',da',a',b',c'⟩).mpr ?_)) (by rfl);have hQ:=hQ _ rfl;unfold jM at hQ;try dsimp only at hQ ⊢
   have x1:aa k 1->fL ng lg s e g mo da a b c=true:=λq=>by
    grind [ao,acR]
   have x2:aa l 1->fL ng' lg' s' e' g' mo' da' a' b' c'=true:=λq=>by
    grind [ao,acR]
   cases hk:aa k 1<;>cases hl:aa l 1<;>rw[hk,hl]at hQ<;>simp only[zAi,Bool.and_false,Bool.false_and,zAj]at hQ<;>grind
 grind
def xt(l:List Rn)(r:Rn):Nat:=(aaJ l r).length
def akh:aav:=λ
 | [.f,.h [.a .i8 a,.a .i64 b,.a .i8 c,.a .i64 d]],[]=>some (.a0 (.c 14 0 1 (.a 0),[.a [.a .i8 a,.a .i64 b,.a .i8 c,.a .i64 d] true (some 4)]))
 | [.c 14 0 n K,.h [.a .i8 a,.a .i64 b,.a .i8 c,.a .i64 d]],[.a w false none]=>some (aH [eJ w,ο (g8 w).length n,ν 1 n,ν n 900,af .i64 b,af .i64 d] (.a0 (.c 15 0 (xt (g8 w) ⟨a,b,c,d⟩) (.a 0),[.a (bh (aaJ (g8 w) ⟨a,b,c,d⟩)) true (some 4)])))
 | _,_=>none
def Gy:aQ:=eQ gZ 162 (fl 14 [4] akh)
def cA(R:List Rn)(i:Nat):List Rn:=(R.take i).foldl aaJ []
def pP(R:List Rn):Nat:=(cA R R.length).length
def Dr(R:List Rn):dW:=λ
 | [.c 14 0 n K,.f,.a .i64 i],⟨0,[],[]⟩=>some (aH [ο R.length n,ν 1 n,ν n 900,aa i 0] (.a0 (.b 0,[.c 14 0 n K,.c 15 0 (pP R) (.a 0),.a .i64 (ς n)],⟨1,[.a (bh (cA R n)) true (some 4)],[]⟩)))
 | _,_=>none
def ME(R:List Rn):cx:=iz jE 0 (d9 18 [0,3,4] (Dr R))
theorem ajp{s:Rn}{P:List Rn}:aaQ s P=bif iB s P then q9 s P else q9 s P++[s]:=by
 unfold q9;cases h:iB s P with
 | true=>rfl
 | false=>
   rw[cond_false,cond_false];have:=@ads s P [] h;rw[List.append_nil]at this;exact this
theorem adt:∀{n:Nat} {L:List Rn} {r:Rn},(W1 n L r).1.length<=L.length
 | 0,L,r=>υ _
 | n+1,L,r=>by
   show(bif ab 0 (fA L r L.length)then W1 n (L.eraseIdx (fA L r L.length).toNat) (fD (L.getD (fA L r L.length).toNat ek) r)else(L,r)).1.length<=_;cases ab 0 (fA L r L.length)with
   | true=>rw[cond_true];exact Nat.le_trans adt (List.length_eraseIdx_le _ _)
   | false=>simp
theorem aee:∀{n:Nat} {L:List Rn} {r:Rn},eJ (bh L)->(af .i64 r.b/\af .i64 r.d=true)->eJ (bh (W1 n L r).1)/\(af .i64 (W1 n L r).2.b/\af .i64 (W1 n L r).2.d=true)
 | 0,L,r,h1,h2=>⟨h1,h2⟩
 | n+1,L,r,h1,h2=>by
   show eJ (bh (bif ab 0 (fA L r L.length)then W1 n (L.eraseIdx (fA L r L.length).toNat) (fD (L.getD (fA L r L.length).toNat ek) r)else(L,r)).1)/\(af .i64 (bif ab 0 (fA L r L.length)then W1 n (L.eraseIdx (fA L r L.length).toNat) (fD (L.getD (fA L r L.length).toNat ek) r)else(L,r)).2.b/\af .i64 (bif ab 0 (fA L r L.length)then W1 n (L.eraseIdx (fA L r L.length).toNat) (fD (L.getD (fA L r L.length).toNat ek) r)else(L,r)).2.d=true);cases h:ab 0 (fA L r L.length)with
   | true=>
     rw[cond_true];obtain⟨i,i1,i2,i3⟩:=acd h;rw[i2];exact aee (abF h1) (ad8 (wy h1 i1) h2)
   | false=>grind
theorem ai5:∀{L:List Rn},eJ (bh L)->(af .i64 r.b/\af .i64 r.d=true)->eJ (bh (aaQ r L))=true:=λ{L} h1 h2=>by
 grind [abh,acb]
theorem ajq(h1:eJ (bh L))(h2:af .i64 r.b/\af .i64 r.d):eJ (bh (aaJ L r))=true:=by
 obtain⟨a,b⟩:=aee (n:=L.length) h1 h2;exact ai5 a b
theorem aeB{L:List Rn}{r:Rn}:1<=(aaJ L r).length/\(aaJ L r).length<=L.length+1:=by
 grind [aaJ,ab5,adt,jF]
theorem aoU(hR:eJ (bh R))(h1:1<=R.length)(hn:R.length<=900)(hr:af .i64 r.b/\af .i64 r.d):bu Tryz.prog cfg 162 [.c 14 0 R.length K,.h [.a .i8 r.a,.a .i64 r.b,.a .i8 r.c,.a .i64 r.d]] [.a (bh R) false none] (.c 15 0 (aaJ R r).length (.a 0)) [.a (bh (aaJ R r)) true (some 4)]:=by
 refine Bu aag (L:=MV R r) akK (by simp) (dv aiE λi hi e he st Q hw=>?_) (jJ (bE 1111114540542002211111114540542004441064427424) (R:=λQ=>(λ(O P T V W Y:Bool)(A:fg)(E F U Z:List AV)(N:Nat)=>(λ(B H:cD)(G u0 u1:Bool)(C:List Rn)=>(λ(u5:cD)(u2 u3 u4:Bool)(I:List AV)=>(λ(u6:Bool)=>(G->O/\(P->aa (Rn.a r) (Rn.a r)/\aa (Rn.b r) (Rn.b r)/\aa (Rn.c r) (Rn.c r)/\aa (Rn.d r) (Rn.d r)/\(u0->(T->(∀J1 J2:Nat->Value,Q (.c 17 0 1 A,⟨3,[.a E true (some 4),B,B],[]⟩)))/\(T=false->(∀J1:Nat->Value,(eJ U->(u2->(V->ν 1 (oM R r)/\(∀J2:Nat->Value,(u3->(u4->(u6->Q (.c 19 0 (ξ (aaY (f_ R r) C) 1) A,⟨5,[.a (I++E) true (some 4),B,cD.b,u5,B],[]⟩))/\(u6=false->False))/\(u4=false->False))/\(u3=false->Q (.c 17 0 (aaY (f_ R r) C) A,⟨3,[.a I true (some 4),u5,B],[]⟩))))/\(V=false->False))/\(u2=false->False))/\(eJ U=false->False))))/\(u0=false->(∀J1:Nat->Value,G/\O/\ν 1 R.length/\(∀J2:Nat->Value,(W->(Y->(u1->Q (.c 18 0 (ξ (aaY r R) 1) A,⟨4,[.a (F++Z) true (some 4),H,cD.b,H],[]⟩))/\(u1=false->False))/\(Y=false->False))/\(W=false->Q (.c 16 0 (aaY r R) A,⟨2,[.a F true (some 4),H],[]⟩))))))/\(P=false->False))/\(G=false->False)) (and true (ο I.length (χ (aaY (f_ R r) C) 4)))) (.a (bh C) true (some 4)) (ο C.length (oM R r)) (not (iB (f_ R r) C)) (and (and (ν (ξ (aaY (f_ R r) C) 1) 1000000) true) true) (bh (q9 (f_ R r) C))) (.a E true none) (.a Z true none) (ο N R.length) (ab 0 (fA R r N)) (and true (ο F.length (χ (aaY r R) 4))) (g8 U)) (ν R.length 1000) (af .i64 (Rn.d r)) (ο (oM R r) 0) (ν (oM R r) 1000) (not (iB r R)) (and (and (ν (ξ (aaY r R) 1) 1000000) true) true) (fg.a 0) [.a .i8 (Rn.a (f_ R r)),.a .i64 (Rn.b (f_ R r)),.a .i8 (Rn.c (f_ R r)),.a .i64 (Rn.d (f_ R r))] (bh (q9 r R)) (bh (jF R r)) [.a .i8 (Rn.a r),.a .i64 (Rn.b r),.a .i8 (Rn.c r),.a .i64 (Rn.d r)] R.length) (λ_=>by rfl) λQ' hQ=>?_)
 . have hi:i=0\/i=1\/i=2\/i=3:=by grind
   rcases hi with rfl|rfl|rfl|rfl
   . cases he;exact bR (cC.a0 aag) (by decide) rfl (R_ hR h1 hr.1) hw
   . cases he
   . cases he
   . cases he;exact bR (cC.a0 aag) (by decide) rfl (adj aow (adj aoA ao6)) hw
 . try dsimp only
   have hw:=@jz R;have bb:∀n:Nat,ο n n=true:=λn=>aJ.mpr rfl;have ee:∀n:Int,aa n n=true:=λn=>ao.mpr rfl;have hn1:ν R.length 1000=true:=al.mpr (by omega);have h1':ν 1 R.length=true:=al.mpr h1;obtain⟨pi,si⟩:=aee (n:=R.length) hR hr;have pl:=@adt R.length R r;have go:∀(n k m:Nat) (os:List cD) (cs:List AV),cs=bh (aaJ R r)->m=(aaJ R r).length->k<n->os.getD (n-1-k) .b=.a cs true (some 4)->Q' (.c (15+k) 0 m (.a 0),⟨n,os,[]⟩):=λn k m os cs e1 e2 hk he=>by
    subst e1 e2;refine hQ _ (dL.at hw rfl hk he hH ?_);grind [To,xx,aU,gm,kG,ob]
   have lo:(q9 (f_ R r) (jF R r)).length<=R.length+1:=Nat.le_trans afP (by unfold jF;omega);have ep:aaJ R r=bif iB (f_ R r) (jF R r)then q9 (f_ R r) (jF R r)else q9 (f_ R r) (jF R r)++[f_ R r]:=ajp
   try dsimp only
   rw[mZ];cases ht:ab 0 (fA R r R.length)with
   | false=>
     have e0:jF R r=R/\f_ R r=r:=by grind [jF,f_,adJ]
     rw[e0.1,e0.2]at ep lo;have m1:ν (aaY r R+1) 1000000=true:=al.mpr (by unfold aaY;omega);grind [bh,aaY,kC,ym]
   | true=>
     have m1:ν (aaY (f_ R r) (jF R r)+1) 1000000=true:=al.mpr (by unfold aaY;omega);have m2:ο (bh (q9 (f_ R r) (jF R r))).length (aaY (f_ R r) (jF R r)*4)=true:=aJ.mpr (by unfold aaY;rw[kC]);have m3:eJ (bh (jF R r))=true:=pi;have m4:ν (oM R r) 1000=true:=al.mpr (by grind [oM,jF]);have m5:ο (jF R r).length (oM R r)=true:=aJ.mpr rfl;have sd:af .i64 (f_ R r).d=true:=si.2;simp only[bb,ee,hn1,h1',hr.2,true_and,and_true,true_imp_iff,reduceCtorEq,false_imp_iff];refine⟨λhz=>?_,λhz=>?_⟩
     . rw[aJ]at hz;have hnil:jF R r=[]:=List.eq_nil_of_length_eq_zero hz;have ep2:aaJ R r=[f_ R r]:=by unfold aaJ;rw[hnil];rfl
       grind [bh]
     . have m6:ν 1 (oM R r)=true:=al.mpr (by rw[b9]at hz;omega);simp only[m1,m2,m3,m4,m5,m6,sd,ee,zAi,true_and,and_true,true_imp_iff,reduceCtorEq,false_imp_iff];intro _ _;cases hd:iB (f_ R r) (jF R r)with
       | true=>
         rw[hd,cond_true]at ep;exact⟨λh=>(by cases h),λ_=>go 3 2 _ _ _ (by rw[ep]) (by rw[ep];rfl) (by decide) rfl⟩
       | false=>
         rw[hd,cond_false]at ep;exact⟨λ_=>go 5 4 _ _ (bh (q9 (f_ R r) (jF R r))++bh [f_ R r]) (by rw[ep,ym]) (by rw[ep,zAe];rfl) (by decide) rfl,λh=>(by cases h)⟩
theorem Ri:bu Tryz.prog cfg 162 [.f,.h [.a .i8 r.a,.a .i64 r.b,.a .i8 r.c,.a .i64 r.d]] [] (.c 14 0 1 (.a 0)) [.a (bh [r]) true (some 4)]:=by
 refine Cs aag ai (bE 156) (R:=λQ=>(λ(A:List AV)=>(λ(B:cD)=>Q (.c 16 0 1 (fg.a 0),⟨3,[.a A true (some 4),B,B],[]⟩)) (.a A true none)) [.a .i8 r.1,.a .i64 r.2,.a .i8 r.3,.a .i64 r.4]) (λ_=>by rfl) λQ' hQ=>?_;try dsimp only
 exact hQ _ (dL.at (k:=2) (λx hx=>by grind) rfl (by simp) rfl (hH (R:=[r])) rfl)
theorem akL(hS:ak Tryz.prog cfg S):ak Tryz.prog cfg (eQ S 162 (fl 14 [4] akh)):=by
 refine bm hS (fW eb.lv Az λargs ws t r he hr=>?_);unfold akh at he;split at he
 . rename_i a b c d;cases he;cases hr;exact⟨Ri (r:=⟨a,b,c,d⟩),λx hx=>by rw[List.mem_singleton.1 hx];exact hH (R:=[⟨a,b,c,d⟩])⟩
 . rename_i n K a b c d w;cases he;replace hr:=aF hr;obtain⟨⟨h1,h2,h3,h4,h5,h6,-⟩,hr⟩:=hr;rw[aJ]at h2;rw[al]at h3 h4;have ew:=hZ h1;generalize g8 w=R at *;subst h2 ew;cases hr;exact⟨aoU (r:=⟨a,b,c,d⟩) h1 h3 h4 ⟨h5,h6⟩,λx hx=>by grind [hH]⟩
 grind
theorem afl:ak Tryz.prog cfg Gy:=akL aW
theorem alk:ec tab 90=some (dH 90,aL 90):=by rfl
theorem aiT:(bz (aL 90)).map (·.1)=[0]:=by rfl
theorem adn(h:i<R.length):cA R (i+1)=aaJ (cA R i) (R.getD i ek):=by
 grind [cA,A1]
theorem ahs{R:List Rn}(hR:eJ (bh R)):∀{i:Nat},i<=R.length->eJ (bh (cA R i))/\(cA R i).length<=i/\(1<=i->cA R i≠[])
 | 0,_=>⟨rfl,υ _,λh=>by omega⟩
 | i+1,h=>by
   obtain⟨h1,h2,-⟩:=ahs hR (i:=i) (by omega);grind [adn,aeB,ajq,wy]
theorem aoF(hR:eJ (bh R)):cu Tryz.prog (cH cfg Gy) (Cw cfg [.a (bh R) false none]) (lb 90 0) 18 [0,3,4] (Dr R):=by
 have hw:=@jz R;intro vs o t Q hv hq J;unfold Dr at hv;split at hv
 . rename_i n K i;cases hv;replace hq:=cO hq;obtain⟨⟨h1,h2,h3,h4,-⟩,hq⟩:=hq;rw[aJ]at h1;rw[al]at h2 h3;rw[ao]at h4;subst h1 h4;simp only[aH,Tr.wp]at hq;refine ia afl rfl rfl ai (ι:={i:Nat // i<=R.length}) (λx=>[.c 14 0 R.length K,aey 15 (cA R x.1),.a .i64 (ς x.1)]) (λx=>adH 0 [] (cA R x.1)) (λx=>R.length-x.1) 0 (λ_=>Nat.zero_le _) (λx J=>?_) (υ _) (λJ=>Wk.a0 ⟨⟨0,Nat.zero_le _⟩,J,rfl⟩) J;obtain⟨i,hi⟩:=x;dsimp only;have kk:∀(a:IntKind) (n:Int),eB a (.a a n)=true:=λa n=>by cases a<;>rfl
   have io:∀(a:IntKind) (n:Int),dx (.a a n)=n:=λ_ _=>rfl;have facts:i<R.length->ab (ς R.length) (ς i)=false/\aS i R.length/\af .i64 (Int.add (ς i) 1)=true:=λh=>⟨by grind [bF],aU.2 h,by grind [aE,eH,eE]⟩;obtain⟨a1,a2,a3⟩:=ahs hR hi;have nx:i<R.length->cA R (i+1)=aaJ (cA R i) (R.getD i ek):=adn;by_cases hi0:i=0
   . subst hi0;have hlt:0<R.length:=by omega
     obtain⟨j1,j2,j3⟩:=facts hlt;refine jJ (bE 10022702) (R:=λQ=>(λ(A:AV)=>(λ(B C E F:AV)=>not (ab (ς R.length) 0)/\aS 0 R.length/\eB .i8 B/\eB .i64 C/\eB .i8 E/\eB .i64 F/\Q (.a,[.c 14 0 R.length K,.c 15 0 1 (fg.a 0),.a .i64 1],⟨1,[.a [.a .i8 (dx B),.a .i64 (dx C),.a .i8 (dx E),.a .i64 (dx F)] true (some 4)],[]⟩)) (π (bh R) 0 A) (π (bh R) 1 A) (π (bh R) 2 A) (π (bh R) 3 A)) (.d [])) (λ_=>by rfl) λQ' hQ=>?_;try dsimp only
     obtain⟨f1,f2,f3,f4⟩:=acG hlt;have go:Q' (AX.a,([.c 14 0 R.length K,.c 15 0 1 (.a 0),.a .i64 1],⟨1,[.a (bh [R.getD 0 ek]) true (some 4)],[]⟩)):=by
      refine hQ _ ⟨⟨1,hlt⟩,by grind,?_⟩;dsimp only;rw[nx hlt];exact VW.b0 rfl rfl
     grind [bh]
   . have hne:=a3 (by omega);rw[(aaT (b:=15) (n:=0) (B:=[]) hne).1,(aaT (b:=15) (n:=0) (B:=[]) hne).2];refine jJ (bE 112777704) (R:=λQ=>(λ(A I:AV)(B:Int)(C:List AV)(G H:Nat)=>(λ(V:cD)(O:AV)(N:Bool)(U:Int)(E:List AV)(T:Nat)=>(λ(W:AV)(F:List Rn)(Y:Nat)=>(λ(Z u0:AV)=>(λ(u1:Rn)=>(N->aS i R.length/\eB .i8 O/\eB .i64 W/\eB .i8 Z/\eB .i64 u0/\and true (and (ν (ξ 0 H) C.length) (bc 14 E))/\eJ E/\ο F.length (cA R i).length/\ν 1 (cA R i).length/\ν (cA R i).length 900/\af .i64 (dx W)/\af .i64 (dx u0)/\af .i64 U/\Q (.a,[I,.c 16 0 (xt F u1) (fg.a 0),.a .i64 U],⟨2,[.a (bh (aaJ F u1)) true (some 4),V],[]⟩))/\(N=false->Q (.b 0,[I,.c 15 0 (cA R i).length (fg.a 0),.a .i64 B],⟨1,[V],[]⟩))) (Rn.mk (dx O) (dx W) (dx Z) (dx u0))) (π (bh R) Y A) (π (bh R) (ξ Y 1) A)) (π (bh R) T A) (g8 E) (ξ T 1)) (.a C true (some 4)) (π (bh R) G A) (not (ab (ς R.length) B)) (Int.add B 1) (b_ C 0 H) (ξ G 1)) (.d []) (.c 14 0 R.length K) (ς i) (bh (cA R i)) (ξ 0 (χ i 4)) (χ (cA R i).length 4)) (λ_=>by rfl) λQ' hQ=>?_;try dsimp only
     have hpos:=List.length_pos_iff.2 hne;by_cases hlt:i<R.length
     . obtain⟨j1,j2,j3⟩:=facts hlt;obtain⟨f1,f2,f3,f4⟩:=acG hlt;have hin:=wy hR hlt;have hw4:b_ (bh (cA R i)) 0 ((cA R i).length*4)=bh (cA R i):=by
        grind [b_,kC]
       have l1:ν (0+(cA R i).length*4) (bh (cA R i)).length=true:=by rw[al,kC];omega
       have l2:ο (cA R i).length (cA R i).length=true:=aJ.mpr rfl;have l3:ν 1 (cA R i).length=true:=al.mpr hpos;have l4:ν (cA R i).length 900=true:=al.mpr (by omega);have go:Q' (AX.a,([.c 14 0 R.length K,.c 16 0 (xt (cA R i) (R.getD i ek)) (.a 0),.a .i64 (Int.add (ς i) 1)],⟨2,[.a (bh (aaJ (cA R i) (R.getD i ek))) true (some 4),.a (bh (cA R i)) true (some 4)],[]⟩)):=by
        refine hQ _ ⟨⟨i+1,hlt⟩,by dsimp only;omega,?_⟩;dsimp only;rw[nx hlt];unfold xt;have hp:=@aeB (cA R i) (R.getD i ek);have hn2:aaJ (cA R i) (R.getD i ek)≠[]:=λe=>by rw[e]at hp;simp at hp
        rw[(aaT (b:=15) (n:=0) (B:=[]) hn2).1,(aaT (b:=15) (n:=0) (B:=[]) hn2).2];exact aeh (k:=1) hw (by decide) rfl hH rfl
       rw[hw4,ma,mZ];generalize R.getD i ek=x at *;simp only[f1,f2,f3,f4,kk,io,j1,j2,j3,a1,l1,l2,l3,l4,hin.1,hin.2,Bool.and_true,σ,true_and,and_true,true_imp_iff,reduceCtorEq,false_imp_iff];exact go
     . obtain rfl:i=R.length:=by omega
       have j1:ab (ς R.length) (ς R.length)=true:=by rw[aq];exact Int.le_refl _
       simp only[j1,τ,true_and,and_true,true_imp_iff,reduceCtorEq,false_imp_iff];exact hQ _ ⟨_,_,VW.a0,hq⟩
 . cases hv
theorem Jy(hR:eJ (bh R))(h1:1<=R.length)(hn:R.length<=900):bu Tryz.prog cfg 90 [.c 14 0 R.length K] [.a (bh R) false none] (.c 15 0 (pP R) (.a 0)) [.a (bh (cA R R.length)) true (some 4)]:=by
 refine Bu afl (L:=ME R) alk (by simp) (dv aiT λi hi e he st Q hw=>?_) (jJ (bE 107) (R:=λQ=>ο R.length R.length/\ν 1 R.length/\ν R.length 900/\(∀J1:Nat->Value,Q (.c 15 0 (pP R) (fg.a 0),⟨1,[.a (bh (cA R R.length)) true (some 4)],[]⟩))) (λ_=>by rfl) λQ' hQ=>?_)
 . have hi:i=0:=by grind
   subst hi;cases he;exact bR (cC.a0 afl) (by decide) rfl (aoF hR) hw
 . try dsimp only
   rw[show ο R.length R.length=true from aJ.mpr rfl];simp only[al.mpr h1,al.mpr hn,true_and,and_true,true_imp_iff,reduceCtorEq,false_imp_iff];exact λ_=>hQ _ dL.b0
def Fj:aav:=λ
 | [.c 14 0 n K],[.a w false none]=>some (aH [eJ w,ο (g8 w).length n,ν 1 n,ν n 900] (.a0 (.c 15 0 (pP (g8 w)) (.a 0),[.a (bh (cA (g8 w) n)) true (some 4)])))
 | _,_=>none
theorem anp(hS:ak Tryz.prog cfg S):ak Tryz.prog cfg (eQ S 90 (fl 14 [4] Fj)):=by
 refine bm hS (fW eb.lv Az λargs ws t r he hr=>?_);unfold Fj at he;split at he
 . rename_i n K w;cases he;replace hr:=aF hr;obtain⟨⟨h1,h2,h3,h4,-⟩,hr⟩:=hr;rw[aJ]at h2;rw[al]at h3 h4;have ew:=hZ h1;generalize g8 w=R at *;subst h2 ew;cases hr;grind [Jy,hH]
 grind
theorem aeE:∀{n:Nat} {L:List Rn} {r:Rn},L.length<=n->aaw L->tm r->aaw (W1 n L r).1/\tm (W1 n L r).2/\(∀x∈(W1 n L r).1,abV x (W1 n L r).2=false)/\∀d,(xb (W1 n L r).1 d\/adA (W1 n L r).2 d)↔(xb L d\/adA r d)
 | 0,L,r,hl,h,hr=>by
   obtain rfl:L=[]:=List.eq_nil_of_length_eq_zero (by omega);exact⟨h,hr,λx hx=>(by cases hx),λd=>Iff.rfl⟩
 | n+1,L,r,hl,h,hr=>by
   have e:W1 (n+1) L r=bif ab 0 (fA L r L.length)then W1 n (L.eraseIdx (fA L r L.length).toNat) (fD (L.getD (fA L r L.length).toNat ek) r)else(L,r):=rfl
   rw[e];cases ht:ab 0 (fA L r L.length)with
   | true=>
     obtain⟨i,i1,i2,i3⟩:=acd ht;rw[cond_true,i2,show(ς i).toNat=i from rfl];obtain⟨c1,c2,c3⟩:=ahV h hr i1 i3;obtain⟨d1,d2,d3,d4⟩:=aeE (n:=n) (L:=L.eraseIdx i) (r:=fD (L.getD i ek) r) (by grind) c1 c2;grind
   | false=>
     rw[cond_false];refine⟨h,hr,λx hx=>?_,λd=>Iff.rfl⟩;obtain⟨i,hi,rfl⟩:=List.getElem_of_mem hx;have:=aeL ht i hi;grind
theorem ajc(h:aaw L)(hr:tm r):aaw (aaJ L r)/\∀d,xb (aaJ L r) d↔xb L d\/adA r d:=by
 obtain⟨d1,d2,d3,d4⟩:=aeE (υ _) h hr;exact⟨agf d2 d1 d3,λd=>aiB.trans (d4 d)⟩
theorem ahR{R:List Rn}(hR:∀x∈R,tm x):∀{i:Nat},i<=R.length->aaw (cA R i)/\∀d,xb (cA R i) d↔xb (R.take i) d
 | 0,_=>⟨⟨λx hx=>(by cases hx),List.Pairwise.nil⟩,λd=>Iff.rfl⟩
 | i+1,h=>by
   obtain⟨h1,h2⟩:=ahR hR (i:=i) (by omega);grind [ajc,adn,A1,xb]
theorem am0(hR:∀x∈R,tm x):cA R R.length=rF R:=by
 obtain⟨h1,h2⟩:=ahR hR (υ R.length);rw[List.take_length]at h2;obtain⟨g1,g2⟩:=afK hR;exact ahN h1 g1 λn=>(h2 n).trans (g2 n).symm
end Go.Ev
