import Derived.LaidLaws
import Derived.Lib.LaidTab
import Derived.ChangeArms
import Derived.DataReads
import Derived.Test.YtcffhjfdlflbgaaGreatDoorP33
set_option linter.all false
open Int renaming sub->ν,ofNat->ξ,add->ο
open Nat renaming ble->π
set_option linter.all false
set_option maxRecDepth 100000
set_option maxHeartbeats 4000000
section
namespace Go.Ev
open Go Go.Proofs
variable{S:aQ}
def NZ:aQ:=aK (aK (aK (aK (aK (aK gZ 127 Vh) 66 Zt) 128 aiw) 130 ak8) 129 akZ) 131 alH
def ahu:dP:=λ
 | [.g [.b ng,.b lg,.e s,.a .i64 e,.a .i64 g,.e mo,.e da,.a .u8 a,.a .u8 b,.a .u8 c]]=>some (aH [fL ng lg s e g mo da a b c] (.a0 (.d [.a .i64 (aP ng s e mo da),.a .i64 (bq ng s e mo da)])))
 | _=>none
theorem aiu:(List.range 21).all (λi=>pR tab cfg 10000 129 [.a .i64 (21+ξ i)] (.d [.a .i64 (fR (21+ξ i)),.a .i64 (mR (21+ξ i))]))=true:=κ
theorem aiL:(List.range 21).all (λi=>decide (1<=fR (21+ξ i)/\fR (21+ξ i)<=12/\3<=mR (21+ξ i)/\mR (21+ξ i)<=6/\fR (21+ξ i)+mR (21+ξ i)<=24))=true:=κ
theorem agK{c:Int}(h:zI c):∃i:Nat,i<21/\c=21+ξ i:=by
 have h:=mg.1 h;exact⟨(c-21).toNat,by omega,by grind⟩
theorem ah7{c:Int}(h:zI c):1<=fR c/\fR c<=12/\3<=mR c/\mR c<=6/\fR c+mR c<=24:=by
 grind [agK,aiL]
theorem akC{f:Nat}{args:List AV}{v:AV}(h:gM Tryz.prog cfg f args v):bu Tryz.prog cfg f args [] v []:=λD m w hi hok=>(h (Cw cfg []) D m ⟨0,[],[]⟩ w hi hok).a0 λV w' ⟨h1,h2,h3,_⟩=>⟨D,m,h1,h2,h3⟩
theorem aj_(hS:ak Tryz.prog cfg S):ak Tryz.prog cfg (aK S 129 akZ):=by
 refine au hS λargs t v he hv=>?_;unfold akZ at he;split at he
 . cases he;replace hv:=aF hv;obtain⟨⟨h1,-⟩,hv⟩:=hv;cases hv;obtain⟨i,hi,rfl⟩:=agK h1;exact akC (gR.a0 10000 (List.all_eq_true.1 aiu i (List.mem_range.2 hi)))
 grind
theorem aeb:ak Tryz.prog cfg NZ:=akv (aj_ (aks (ahy (bm (bm aW (adv 127 _ rfl)) (MW 66 _ rfl)))))
theorem alS{y c:Int}(h:zI c):o4 y (fR c+mR c)=aG (fq y c) (kX y c+2):=by
 obtain⟨h1,h2,h3,h4,h5⟩:=ah7 h;unfold o4 fq kX dc d8;generalize fR c=f at *;generalize mR c=m at *;cases hc:ab (f+m) 12 with
 | true=>
   grind [aq]
 | false=>
   rw[bF]at hc;rw[cond_false];by_cases h13:f+m=13
   . rw[show(12*y+(f-1)+(m-1))/12=y by omega,show(12*y+(f-1)+(m-1))%12+2=13 by omega,h13,VS];rfl
   grind
theorem aiD{ng:Bool}{s:List UInt8}{e:Int}:dY ng s e=bif ng then ν 0 (ξ (fa s e.toNat))else ξ (fa s e.toNat):=by
 grind [dY]
theorem afd(hS:ak Tryz.prog cfg S):ak Tryz.prog cfg (aK S 70 ahu):=by
 refine au hS λargs t v he hv=>?_;unfold ahu at he;split at he
 . rename_i ng lg s e g mo da a b c;cases he;replace hv:=aF hv;obtain⟨⟨h1,-⟩,hv⟩:=hv;cases hv;obtain⟨h6,i1,i2,i3,i4,h0,hx,rfl⟩:=U9.1 h1;obtain⟨p1,p2,p3,p4,p5,p6,p7⟩:=aaj h0 hx h6;obtain⟨hy,-,hm⟩:=ju.1 p5;unfold agm at p1;simp only[zAa]at p1;obtain⟨n1,n2,n3,n4,n5⟩:=p1;have hY:aaZ (dY ng s e)=true:=xC.2 δ;have hY1:aaZ (dY ng s e+1)=true:=xC.2 δ;have ri:af .i64 (dY ng s e)=true:=by grind [aE,eH,eE]
   have ri1:af .i64 (dY ng s e+1)=true:=by grind [aE,eE]
   have mok:∀m,1<=m->m<=24->abt (dY ng s e) m=true:=λm k1 k2=>by
    unfold abt;rw[aq.mpr k1,aq.mpr k2,hY,hY1,Bool.or_true];rfl
   have mbd:∀m,1<=m->m<=24->-3652425000000000001<=o4 (dY ng s e) m/\o4 (dY ng s e) m<=3652425000000000766:=λm k1 k2=>by
    unfold o4;cases hc:ab m 12 with
    | true=>simp_all [aq,ad1,xC]
    | false=>rw[bF]at hc;exact ad1 (xC.1 hY1) δ δ
   have rin:∀x:Int,-3652425000000000009<=x/\x<=3652425000000000900->af .i64 x=true:=λx h=>by grind [aE,eH,eE]
   rcases x5 p3 with rfl|⟨m0,m1,rfl,hmd⟩
   . rcases x5 p4 with rfl|⟨d0,d1,rfl,hdd⟩
     . refine jD aeb ai (bE 11420220561142022056240227000) (R:=λQ=>(λ(H:Nat)=>(λ(A:Int)=>(λ(I:AV)(B C:Int)=>(λ(N:AV)(E F:Int)=>(λ(O:Bool)(G:Int)=>(λ(P:Bool)=>π s.length 1000/\ab 0 e/\ab e 1000/\dV s/\magOk s H/\(ng->af .i64 B/\aaZ B/\af .i64 E/\aaZ E/\(P->Q (.d [N,.a .i64 G]))/\(P=false->Q (.d [N,.a .i64 (IntKind.wrap .i64 G)])))/\(ng=false->aaZ A/\af .i64 C/\aaZ C/\(O->Q (.d [I,.a .i64 F]))/\(O=false->Q (.d [I,.a .i64 (IntKind.wrap .i64 F)])))) (af .i64 G)) (af .i64 F) (ν (bf E) 1)) (.a .i64 (bf B)) (ο B 1) (ν (bf C) 1)) (.a .i64 (bf A)) (ν 0 A) (ο A 1)) (ξ (fa s H))) e.toNat) (λ_=>by rfl) λQ' hQ=>?_;try dsimp only
       have hQ:Q' (.d [.a .i64 (bf (dY ng s e)),.a .i64 (ν (bf (ο (dY ng s e) 1)) 1)]):=hQ _ rfl;have r2:af .i64 (ν (bf (ο (dY ng s e) 1)) 1)=true:=rin _ (by
        have:=@aei (dY ng s e+1) (xC.1 hY1);grind)
       have ri1:af .i64 (ο (dY ng s e) 1)=true:=ri1;have hY1:aaZ (ο (dY ng s e) 1)=true:=hY1;rw[aiD]at hQ r2 ri ri1 hY hY1;try dsimp only
       cases ng<;>simp only[zAj]at hQ r2 ri ri1 hY hY1<;>simp only[n1,n2,n3,n4,n5,hY,hY1,ri,ri1,r2,Bool.not_true,Bool.not_false,true_and,and_true,true_imp_iff,reduceCtorEq,false_imp_iff]<;>exact hQ
     . have:=(aaR h0 hx rfl).1;exact absurd this ζ
   . have hm0:XR [m0,m1]=ko m0 m1:=rfl;have hz:aa (XR [m0,m1]) 0=false:=p6.symm;rw[hm0]at hm hz;rcases x5 p4 with rfl|⟨d0,d1,rfl,hdd⟩
     . cases hc:ab 13 (ko m0 m1)with
       | true=>
         have hc':=hc;rw[aq]at hc';have hs:aR [m0,m1]=ko m0 m1:=by
          grind [L6,aaU]
         have hco:zI (aR [m0,m1])=true:=by
          grind [mg]
         obtain⟨f1,f2,f3,f4,f5⟩:=ah7 hco;have hl:=@alS (dY ng s e) _ hco;have hE:AV.d [.a .i64 (aP ng s e [m0,m1] []),.a .i64 (bq ng s e [m0,m1] [])]=.d [.a .i64 (o4 (dY ng s e) (fR (aR [m0,m1]))),.a .i64 (ν (o4 (dY ng s e) (ο (fR (aR [m0,m1])) (mR (aR [m0,m1])))) 1)]:=by
          unfold aP bq iO iD;rw[hm0,hz,hc];show _=AV.d [_,.a .i64 (o4 (dY ng s e) (fR (aR [m0,m1])+mR (aR [m0,m1]))-1)];rw[hl,show o4 (dY ng s e) (fR (aR [m0,m1]))=aG (dY ng s e) (fR (aR [m0,m1]))by unfold o4;rw[aq.mpr f2];rfl,hs];rfl
         rw[hE];refine nF aeb ai (bE 11420220202561142022020256240227000) (R:=λQ=>(λ(F:Int)(I:Nat)=>(λ(N:Bool)(A B:Int)=>(λ(O:AV)(C E:Int)=>(λ(T:AV)(P:Bool)(G H:Int)=>(λ(U V:Bool)=>π s.length 1000/\ab 0 e/\ab e 1000/\dV s/\magOk s I/\(ng->af .i64 C/\N/\zI F/\abt C B/\P/\abt C E/\(U->Q (.d [T,.a .i64 G]))/\(U=false->Q (.d [T,.a .i64 (IntKind.wrap .i64 G)])))/\(ng=false->N/\zI F/\abt A B/\P/\abt A E/\(V->Q (.d [O,.a .i64 H]))/\(V=false->Q (.d [O,.a .i64 (IntKind.wrap .i64 H)])))) (af .i64 G) (af .i64 H)) (.a .i64 (o4 C B)) (af .i64 E) (ν (o4 C E) 1) (ν (o4 A E) 1)) (.a .i64 (o4 A B)) (ν 0 A) (ο B (mR F))) (not (ab F 0)) (ξ (fa s I)) (fR F)) (aR [m0,m1]) e.toNat) (λ_=>by rfl) λQ' hQ=>?_;try dsimp only
         have k1:=mok (fR (aR [m0,m1])) f1 δ;have k2:abt (dY ng s e) (ο (fR (aR [m0,m1])) (mR (aR [m0,m1])))=true:=mok _ η f5;have k3:af .i64 (ν (o4 (dY ng s e) (ο (fR (aR [m0,m1])) (mR (aR [m0,m1])))) 1)=true:=rin _ (by
          grind)
         have k4:af .i64 (ο (fR (aR [m0,m1])) (mR (aR [m0,m1])))=true:=rin _ η;have k5:ab (aR [m0,m1]) 0=false:=bF.mpr δ;grind [aiD]
       | false=>
         have hc':=hc;rw[bF]at hc';have hs:aR [m0,m1]=0:=by
          grind [L6,qH]
         have hd1:1<=ko m0 m1:=by
          grind [aaU]
         have hE:AV.d [.a .i64 (aP ng s e [m0,m1] []),.a .i64 (bq ng s e [m0,m1] [])]=.d [.a .i64 (o4 (dY ng s e) (ko m0 m1)),.a .i64 (ν (o4 (dY ng s e) (ο (ko m0 m1) 1)) 1)]:=by
          unfold aP bq iO iD;rw[hm0,hz,hc];show _=AV.d [_,.a .i64 (o4 (dY ng s e) (ko m0 m1+1)-1)];rw[show o4 (dY ng s e) (ko m0 m1)=aG (dY ng s e) (ko m0 m1)by unfold o4;rw[aq.mpr δ];rfl];rw[show o4 (dY ng s e) (ko m0 m1+1)=aG (dY ng s e) (ko m0 m1+1)by
           unfold o4;by_cases h12:ko m0 m1=12
           . grind [VS]
           . rw[aq.mpr δ];rfl];rfl
         rw[hE];refine nF aeb ai (bE 11420220020253561142022002025356240227000) (R:=λQ=>(λ(F:Bool)(A:Int)(I:Nat)(N:Prop)=>(λ(B C:Int)=>(λ(P:AV)(O:Bool)(E G:Int)=>(λ(T:AV)(U:Bool)(H:Int)=>(λ(V:Bool)=>π s.length 1000/\ab 0 e/\ab e 1000/\dV s/\magOk s I/\(ng->af .i64 E/\N/\F/\abt E A/\F/\O/\abt E C/\(V->Q (.d [T,.a .i64 H]))/\(V=false->Q (.d [T,.a .i64 (IntKind.wrap .i64 H)])))/\(ng=false->N/\F/\abt B A/\F/\O/\abt B C/\(U->Q (.d [P,.a .i64 G]))/\(U=false->Q (.d [P,.a .i64 (IntKind.wrap .i64 G)])))) (af .i64 H)) (.a .i64 (o4 E A)) (af .i64 G) (ν (o4 E C) 1)) (.a .i64 (o4 B A)) (af .i64 C) (ν 0 B) (ν (o4 B C) 1)) (ξ (fa s I)) (ο A 1)) (and (dB m0) (dB m1)) (ko m0 m1) e.toNat (not (ab (aR [m0,m1]) 0)=false)) (λ_=>by kernel_rfl) λQ' hQ=>?_;try dsimp only
         have k1:=mok (ko m0 m1) hd1 δ;have k2:abt (dY ng s e) (ο (ko m0 m1) 1)=true:=mok _ (by show 1<=ko m0 m1+1;omega) (by show ko m0 m1+1<=24;omega);have k3:af .i64 (ν (o4 (dY ng s e) (ο (ko m0 m1) 1)) 1)=true:=rin _ (by
          have:=mbd (ko m0 m1+1) δ δ;show _<=o4 (dY ng s e) (ko m0 m1+1)-1/\o4 (dY ng s e) (ko m0 m1+1)-1<=_;omega)
         have k4:af .i64 (ο (ko m0 m1) 1)=true:=rin _ (by show _<=ko m0 m1+1/\ko m0 m1+1<=_;omega);rw[aiD]at hQ k1 k2 k3 ri;try dsimp only
         rw[hs,show ab 0 0=true from rfl];generalize ko m0 m1=dm at *;cases ng<;>simp only[zAj]at hQ k1 k2 k3 ri<;>simp only[n1,n2,n3,n4,n5,hmd,k1,k2,k3,k4,ri,Bool.not_true,Bool.not_false,true_and,and_true,true_imp_iff,reduceCtorEq,false_imp_iff]<;>exact hQ
     . obtain⟨q1,q2,q3,q4⟩:=aaR h0 hx rfl;have hd0:XR [d0,d1]=ko d0 d1:=rfl;rw[hm0]at q1 q2 q4;rw[hd0]at q3 q4;have ml:=jk (dY ng s e) (ko m0 m1);have hs:aR [m0,m1]=0:=by
        rcases L6 [m0,m1]with k|⟨_,k⟩
        . exact k
        . rw[hm0]at k;have:=qH [m0,m1];omega
       have hE:AV.d [.a .i64 (aP ng s e [m0,m1] [d0,d1]),.a .i64 (bq ng s e [m0,m1] [d0,d1])]=.d [.a .i64 (ν (ο (o4 (dY ng s e) (ko m0 m1)) (ko d0 d1)) 1),.a .i64 (ν (ο (o4 (dY ng s e) (ko m0 m1)) (ko d0 d1)) 1)]:=by
        unfold aP bq iO iD;rw[hm0,hd0,hz,show ab 13 (ko m0 m1)=false from bF.mpr δ,show aa (ko d0 d1) 0=false from aw.mpr δ];rw[show o4 (dY ng s e) (ko m0 m1)=aG (dY ng s e) (ko m0 m1)by unfold o4;rw[aq.mpr q2];rfl];rfl
       rw[hE];refine nF aeb ai (bE 1141144200202535611411442002025356240227000) (R:=λQ=>(λ(T U:Bool)(A:Int)(O:Nat)(P:Prop)=>(λ(B:Int)=>(λ(C E:Int)=>(λ(V:Bool)(F G H:Int)=>(λ(Z u0 u2 u3:AV)(W Y u1:Bool)(I N:Int)=>(λ(u5 u6 u9 ua:AV)(u4 u7:Bool)=>π s.length 1000/\ab 0 e/\ab e 1000/\dV s/\magOk s O/\(ng->af .i64 C/\P/\T/\abt C A/\U/\(W->(u4->Q (.d [u5,u5]))/\(u4=false->Q (.d [u6,u6])))/\(W=false->(u7->Q (.d [u9,u9]))/\(u7=false->Q (.d [ua,ua]))))/\(ng=false->P/\T/\abt B A/\U/\(V->(Y->Q (.d [Z,Z]))/\(Y=false->Q (.d [u0,u0])))/\(V=false->(u1->Q (.d [u2,u2]))/\(u1=false->Q (.d [u3,u3]))))) (.a .i64 I) (.a .i64 (IntKind.wrap .i64 I)) (.a .i64 N) (.a .i64 (IntKind.wrap .i64 N)) (af .i64 I) (af .i64 N)) (.a .i64 G) (.a .i64 (IntKind.wrap .i64 G)) (.a .i64 H) (.a .i64 (IntKind.wrap .i64 H)) (af .i64 F) (af .i64 G) (af .i64 H) (ν F 1) (ν (IntKind.wrap .i64 F) 1)) (af .i64 E) (ο (o4 C A) (ko d0 d1)) (ν E 1) (ν (IntKind.wrap .i64 E) 1)) (ν 0 B) (ο (o4 B A) (ko d0 d1))) (ξ (fa s O))) (and (dB m0) (dB m1)) (and (dB d0) (dB d1)) (ko m0 m1) e.toNat (not (ab (aR [m0,m1]) 0)=false)) (λ_=>by kernel_rfl) λQ' hQ=>?_;try dsimp only
       have k1:=mok (ko m0 m1) q1 δ;have mb:=mbd (ko m0 m1) q1 δ;have k2:af .i64 (ο (o4 (dY ng s e) (ko m0 m1)) (ko d0 d1))=true:=rin _ (by
        show _<=o4 (dY ng s e) (ko m0 m1)+ko d0 d1/\o4 (dY ng s e) (ko m0 m1)+ko d0 d1<=_;omega)
       have k3:af .i64 (ν (ο (o4 (dY ng s e) (ko m0 m1)) (ko d0 d1)) 1)=true:=rin _ (by
        show _<=o4 (dY ng s e) (ko m0 m1)+ko d0 d1-1/\o4 (dY ng s e) (ko m0 m1)+ko d0 d1-1<=_;omega)
       rw[aiD]at hQ k1 k2 k3 ri;try dsimp only
       rw[hs,show ab 0 0=true from rfl];generalize ko m0 m1=dm at *;generalize ko d0 d1=dd at *;cases ng<;>simp only[zAj]at hQ k1 k2 k3 ri<;>simp only[n1,n2,n3,n4,n5,hmd,hdd,k1,k2,k3,ri,Bool.not_true,Bool.not_false,true_and,and_true,true_imp_iff,reduceCtorEq,false_imp_iff]<;>exact hQ
 . cases he
def jM(k:Int)(x:Da)(l:Int)(y:Da):Int:=bif !(aa k 1)&&!(aa l 1)then 11 else bif (aa k 1&&aa l 1)&&!(ab (aP x.ng x.s x.e x.mo x.da) (bq y.ng y.s y.e y.mo y.da))then 11 else 0
theorem afQ:aY tab 69=some (dH 69,aL 69):=κ
theorem aiW:aY tab 21=some (dH 21,aL 21):=κ
def xQ:dP:=λ
 | [.g [.b ng,.b lg,.e s,.a .i64 e,.a .i64 g,.e mo,.e da,.a .u8 a,.a .u8 b,.a .u8 c]]=>some (aH [wa ng lg s e g mo da a b c] (.a0 (.a .i64 (bI (eX s g mo da)))))
 | _=>none
def NV:aQ:=aK (aK (aK gZ 46 tw) 126 ag_) 66 Zt
theorem ap8:aY tab 110=some (dH 110,aL 110):=κ
theorem akf:aY tab 59=some (dH 59,aL 59):=κ
theorem ap7:aY tab 14=some (dH 14,aL 14):=κ
theorem aiK:(bz (aL 59)).map (·.1)=[0]:=κ
theorem akd:ak Tryz.prog cfg NV:=bm (afa (aeN aW)) (MW 66 _ rfl)
theorem ae9{x:Da}(h:dF x):(π x.s.length 1000/\π x.mo.length 1000/\π x.da.length 1000=true)/\af .i64 x.e/\bW x.ng x.lg x.s x.e x.g x.mo x.da x.a x.b x.c=0:=by
 obtain⟨_,h2,_,_,_,_,h7⟩:=SA.1 (show wa _ _ _ _ _ _ _ _ _ _=true from h);grind [aej]
theorem ajQ(hS:ak Tryz.prog cfg S):ak Tryz.prog cfg (aK S 111 xQ):=by
 refine au hS λargs t v he hv=>?_;unfold xQ at he;split at he
 . rename_i ng lg s e g mo da a b c;cases he;replace hv:=aF hv;obtain⟨⟨h1,-⟩,hv⟩:=hv;cases hv;obtain⟨⟨l1,l2,l3⟩,h2,h7⟩:=ae9 (x:=⟨ng,lg,s,e,g,mo,da,a,b,c⟩) h1;dsimp only at l1 l2 l3 h2 h7;refine nF akd ai (bE 1052331023311432020643270206422006) (R:=λQ=>(λ(A E F:List UInt8)(G:Prop)=>(λ(H I P T:Bool)=>(λ(B C:Bool)=>(λ(N O:Prop)=>P/\af .i64 (Da.e ⟨ng,lg,s,e,g,mo,da,a,b,c⟩)/\(B->B/\P/\π A.length 1000/\π F.length 1000/\B/\H=false/\(C->C/\C/\I=false/\(T->G)/\(T=false->Q (.a .i64 1)))/\(N->N/\N/\I/\G))/\(O->O/\O/\H/\G)) (C=false) (B=false)) (not H) (not I)) (not (aa (bW (Da.ng ⟨ng,lg,s,e,g,mo,da,a,b,c⟩) (Da.lg ⟨ng,lg,s,e,g,mo,da,a,b,c⟩) E (Da.e ⟨ng,lg,s,e,g,mo,da,a,b,c⟩) (Da.g ⟨ng,lg,s,e,g,mo,da,a,b,c⟩) A F (Da.a ⟨ng,lg,s,e,g,mo,da,a,b,c⟩) (Da.b ⟨ng,lg,s,e,g,mo,da,a,b,c⟩) (Da.c ⟨ng,lg,s,e,g,mo,da,a,b,c⟩)) 0)) (aa (bI (cK E (Da.g ⟨ng,lg,s,e,g,mo,da,a,b,c⟩) A F)) 0) (π E.length 1000) (not (ab (aR A) 0))) (Da.mo ⟨ng,lg,s,e,g,mo,da,a,b,c⟩) (Da.s ⟨ng,lg,s,e,g,mo,da,a,b,c⟩) (Da.da ⟨ng,lg,s,e,g,mo,da,a,b,c⟩) (Q (.a .i64 0))) (λ_=>by rfl) λQ' hQ=>?_;try dsimp only
   unfold eX at hQ;have hs0:ab (aR mo) 0=aa (aR mo) 0:=by
    have:=CF mo;grind [aq,ao]
   try dsimp only
   rw[h7,hs0];cases hn:cK s g mo da<;>cases hs:aa (aR mo) 0<;>rw[hn,hs]at hQ<;>simp only[l1,l2,l3,h2,show aa 0 0=true from rfl,show aa (bI true) 0=false from rfl,show aa (bI false) 0=true from rfl,zAi,true_and,and_true,true_imp_iff,reduceCtorEq,false_imp_iff]<;>exact hQ
 grind
def af0(b:Nat)(ea la:Bool)(L:List It)(i:Nat):List AV:=
 bif mf ea la L i then(bif ab 1 (L.getD i fP).f.g then eb 3 .f rb 1 0 (bf (jI (L.getD i fP).f.ng (L.getD i fP).f.s (L.getD i fP).f.e (L.getD i fP).f.g)) 0 (bf (jL (L.getD i fP).f.ng (L.getD i fP).f.s (L.getD i fP).f.e (L.getD i fP).f.g+1)-1)
  else bif fy (L.getD i fP).f then eb 1 (.c (b+i) 0 1 (.a 1)) rb 0 0 0 0 0
  else eb 2 .f ⟨(L.getD i fP).f.ng,(L.getD i fP).f.lg,(L.getD i fP).f.s,(L.getD i fP).f.e,0,(L.getD i fP).f.mo,(L.getD i fP).f.da,0,0,0⟩ 0 0 0 0 0)
 else eb 3 .f rb (dq (L.getD i fP).f.mo (L.getD i fP).f.da) (W2 ea la L i).a (W2 ea la L i).b (W2 ea la L i).c (W2 ea la L i).d
def aeF(b:Nat)(ea la:Bool)(L:List It):Nat->List AV
 | 0=>[]
 | n+1=>aeF b ea la L n++af0 b ea la L n
theorem af4{b k j:Nat}{ρ:List (Nat×Nat)}{ea la:Bool}{L:List It}:∀{n:Nat},(∀i,i<n->To b ρ (16+i)=some (j+i))->yw (kG b ρ 20) (aaf ea la L n)=some (aeF j ea la L n)
 | 0,_=>rfl
 | n+1,h=>rB (af4 (k:=k) λi hi=>h i δ) (by
   grind [abl,af0,acY,aa2])
def aia(ea la:Bool)(L:List It)(rw:Bool)(g:Option Nat):List cD:=[.a (aeF 15 ea la L L.length) rw g,qb ea la L L.length 5,qb ea la L L.length 4,qb ea la L L.length 3,qb ea la L L.length 2,qb ea la L L.length 1,qb ea la L L.length 0]
theorem dL.oo{ea la rw:Bool}{L:List It}{g:Option Nat}{C:fg}{n k:Nat}{os:List cD}(hk:k=7\/k=8)(hn:k<n)(h5:L.length<=6)(h0:os.getD (n-1-k) .b=.a (aaf ea la L L.length) rw g)(h1:∀i,i<6->os.getD (n-1-(1+i)) .b=qb ea la L L.length i):dL [.a (dp L) false none] (.d [.c 21 0 L.length C,.a .i64 0]) (aia ea la L rw g) (.d [.c (15+k) 0 L.length C,.a .i64 0],⟨n,os,[]⟩):=by
 have hv':kG ((Cw cfg [.a (dp L) false none]).lo+0) (fY (Cw cfg [.a (dp L) false none]).lo 0 [1,2,3,4,5,6,k]) 20 (.d [.c (15+k) 0 L.length C,.a .i64 0])=some (.d [.c 21 0 L.length C,.a .i64 0]):=by
  rcases hk with rfl|rfl<;>rfl
 have hm:∀i,i<L.length->To 15 (fY 15 0 [1,2,3,4,5,6,k]) (16+i)=some (15+i):=λi hi=>by
  rcases(by omega:i=0\/i=1\/i=2\/i=3\/i=4\/i=5)with rfl|rfl|rfl|rfl|rfl|rfl<;>rcases hk with rfl|rfl<;>rfl
 refine(oX gR.lv (C:=Cw cfg [.a (dp L) false none]) (st:=⟨.c0 (.d [.c (15+k) 0 L.length C,.a .i64 0]) .a0 .a0,1,⟨n,os,[]⟩,[],none⟩) (kb:=0) (sel:=[1,2,3,4,5,6,k]) (ts':=.c0 (.d [.c 21 0 L.length C,.a .i64 0]) .a0 .a0) (o':=⟨7,aia ea la L rw g,[]⟩) (B6 i7) (Nat.zero_le _) (λs hs=>?_) (by simp;omega) (λp hp=>by grind) rfl rfl rfl (λi hi=>absurd hi (Nat.not_lt_zero i)) (λt ht=>?_) ?_ (λd hd=>by grind) (λi hi=>by grind)).b0 λs hs=>?_
 . grind
 . have sl:∀i,i<6->WD 15 (fY 15 0 [1,2,3,4,5,6,k]) (os.getD (n-1-(1+i)) .b) (qb ea la L L.length i):=λi hi=>.inl ⟨(h1 i hi).symm,by grind [fK]⟩;have:t=0\/t=1\/t=2\/t=3\/t=4\/t=5\/t=6:=η
   rcases this with rfl|rfl|rfl|rfl|rfl|rfl|rfl
   . exact sl 0 ζ
   . exact sl 1 ζ
   . exact sl 2 ζ
   . exact sl 3 ζ
   . exact sl 4 ζ
   . exact sl 5 ζ
   . exact .inr ⟨_,_,_,_,h0,af4 (k:=0) hm,rfl⟩
 . grind [xB,ob]
 . rw[hs];exact⟨rfl,rfl⟩
theorem aiS{cs vs:List AV}(h:cs.length=vs.length):JL cs 0 vs=vs:=by
 cases cs<;>exact aeC h
theorem afN:∀{a b:List AV},dM a->dM b->dM (a++b)=true
 | [],_,_,h=>h
 | v::a,b,h,h'=>by
   rw[dM,zAa]at h;show(KU v&&dM (a++b))=true;rw[h.1,afN h.2 h'];rfl
theorem ael{ea la:Bool}{L:List It}:∀{n:Nat},dM (aaf ea la L n)=true
 | 0=>rfl
 | n+1=>afN ael (by
   unfold abl;cases mf ea la L n<;>cases ab 1 (L.getD n fP).f.g<;>cases fy (L.getD n fP).f<;>rfl)
theorem alr:ak Tryz.prog cfg Hc:=ajV aW
theorem Q9{ea la:Bool}{L:List It}{K:fg}(h:nI 3 ea la L)(h5:L.length<=6):bu Tryz.prog cfg 7 [.g (fS 3 (.c 14 0 L.length K) ea la)] [.a (dp L) false none] (.d [.c 21 0 L.length (.a L.length),.a .i64 0]) (aia ea la L true none):=by
 refine abj alr (L:=Gf L ea la) abc θ (dv afR λi hi e he st Q hw=>?_) (λ_=>Pn (dp L) L ea la L.length K) λQ' hQ=>?_
 . have hi:i=0:=η
   subst hi;cases he;exact adh (bR (cC.a0 aj0) ζ rfl (aog h h5) hw)
 . try dsimp only
   have n1:=h.n1;have hB:abk (dp L) L.length 3 ea la=true:=rd.2 ⟨L,rfl,rfl,h⟩;have hl:(aaf ea la L L.length).length=L.length*17:=adr;have hT:List.take (L.length*17) (List.drop 0 (aaf ea la L L.length))=aaf ea la L L.length:=η
   have l1:π (0+L.length*21) (dp L).length=true:=by rw[al,S0];omega
   have l3:Nat.beq L.length L.length=true:=aJ.mpr rfl;have l4:∀b:Bool,bQ b b=true:=λb=>by cases b<;>rfl
   have l5:aa (ξ L.length) 0=false:=by grind [aw]
   have l6:π L.length L.length=true:=al.mpr (Nat.le_refl _);have l7:π L.length 10000=true:=al.mpr δ;rw[qi,lU,hB,l1,l3,hT];simp only[l4,l5,l6,l7,hl,aa0,Bool.and_true,true_and,and_true,true_imp_iff,reduceCtorEq,false_imp_iff];have hz:∀z:List AV,z.length=17->(mX z L.length).length=L.length*17:=λz hz=>by rw[zu,hz]
   have l8:π (0+L.length*17) (L.length*17)=true:=θ
   rw[aiS (by simp_all),hz _ rfl,l8,ael];refine λ_=>⟨rfl,rfl,rfl,hQ _ (dL.oo (.inr rfl) ζ h5 rfl λi hi=>by rcases(by omega:i=0\/i=1\/i=2\/i=3\/i=4\/i=5)with rfl|rfl|rfl|rfl|rfl|rfl<;>rfl)⟩
end Go.Ev
end
section
namespace Go.Ev
open Go Go.RowKit
variable{C:bg}
def rL(P:Program)(cfg:cL)(f:FuncId)(C:bg)(args:List AV)(o:aB)(r:AV×aB):Prop:=
 (∀D m w,dX cfg D m C o w->fM D m args->jV P f (aD m args).toArray w λV w'=>∃D' m',V=aj m' r.1/\dh D' m' r.1/\dw cfg C D m o w D' m' r.2 w'/\(hI args (cfg.b0 f)=[]->aa9 D w D' m' w'))/\(o.os.length=o.n->fh C o r.2 (hI args (cfg.b0 f)))
noncomputable def okC(P:Program)(cfg:cL)(f:FuncId)(C:bg)(args:List AV)(o:aB)(r:AV×aB):Bool:=@decide _ (Classical.propDecidable (rL P cfg f C args o r))
theorem aa3{P:Program}{cfg:cL}{f:FuncId}{args:List AV}{o:aB}{r:AV×aB}:okC P cfg f C args o r=true↔rL P cfg f C args o r:=@decide_eq_true_iff _ (Classical.propDecidable _)
section
variable{cfg:cL}
theorem abR{P:Program}{f:FuncId}{szs:List Nat}{o:aB}{args args':List AV}{q:Aq}{v v':AV}{news news':List cD}(hK:qX cfg)(hRO:∀id,id<cfg.a0.n->Ep (cfg.a0.at id)=false)(hcan:nC (nX cfg.a0.n C o 20) args ⟨szs,[],true⟩=some (args',q))(hq:q.ok)(hfact:bu P cfg f args' q.ws v news)(hmv:kG cfg.a0.n (VV (cfg.a0.n+q.ws.length) (C.lo+o.n) news.length) 20 v=some v')(hlen:news'.length=news.length)(hnew:∀j,j<news.length->WD cfg.a0.n (VV (cfg.a0.n+q.ws.length) (C.lo+o.n) news.length) ((⟨news.length,news,[]⟩:aB).at j) ((⟨news'.length,news',[]⟩:aB).at j)):rL P cfg f C args o (v',⟨news'.length+o.n,news'++o.os,o.le⟩):=by
 refine⟨λD m w hi hok=>?_,λhl=>?_⟩
 . have hW0:M0 cfg.a0.n D m w [] []:=⟨rfl,λj x l hj=>by simp⟩;obtain⟨L',_,hL,hS⟩:=Bo hi (d:=20) (λ{v q v' q'}=>Ys hi) hcan hok hq [] hW0;have hS:=hS [];simp only[List.nil_append,List.append_nil]at hL hS;obtain⟨hc,hok'⟩:=hS;rw[<-hc];refine(hfact _ _ w (Lk hK hRO hi hL) hok').a0 ?_;rintro V w' ⟨D',m',rfl,hv',hx⟩;have hlo:=hi.lo;have hframe:∀k,k<w.heap.size->w'.heap[k]? = w.heap[k]? := λk hk=>hx.f0 k hk λi hd ho=>by
    exfalso;have hlt:i<cfg.a0.n+q.ws.length:=by
     rcases hd with⟨h1,_⟩|⟨_,h2⟩
     . omega
     . rw[<-hL.1];omega
    grind [dQ,jT,Cw,fp]
   have hfresh:∀i,D' i->¬DL cfg.a0.n D L' i->w.heap.size<=(m' i).a0:=λi hd hn=>(hx.e0 i hd hn).resolve_right λ⟨j,hj,ho,_⟩=>by
    have hlt:j<cfg.a0.n+q.ws.length:=by
     rcases hj with⟨h1,_⟩|⟨_,h2⟩
     . omega
     . rw[<-hL.1];omega
    grind [dQ,jT,Cw,fp]
   obtain⟨D2,hD2⟩:∃D2:Nat->Prop,D2=λid=>D id\/∃j,j<news.length/\id=C.lo+o.n+j/\D' (cfg.a0.n+q.ws.length+j):=⟨_,rfl⟩;obtain⟨m2,hm2⟩:∃m2:Nat->bv,m2=λid=>if id<C.lo+o.n then m id else m' (cfg.a0.n+q.ws.length+(id-(C.lo+o.n))):=⟨_,rfl⟩
   have m2low:∀i,i<C.lo+o.n->m2 i=m i:=λi h=>by grind
   have m2new:∀j,m2 (C.lo+o.n+j)=m' (cfg.a0.n+q.ws.length+j):=λj=>by
    grind
   have hd'low:∀i,D' i->i<cfg.a0.n->D i/\m' i=m i:=λi hd h=>by
    rcases hx.l0 i hd with h1|h1
    . have:=hx.a0 i h1;rcases h1 with⟨_,h2⟩|⟨h2,_⟩<;>grind [Va]
    grind [Cw]
   have mvok:Fl cfg.a0.n (VV (cfg.a0.n+q.ws.length) (C.lo+o.n) news.length) D' D2 m' m2:=by
    refine⟨λi hd h=>?_,λi j hl hd=>?_⟩<;>grind [C7]
   obtain⟨hcv,hokv⟩:=tG mvok hmv hv';have gold:∀i,i<C.lo+o.n->get C ⟨news'.length+o.n,news'++o.os,o.le⟩ i=get C o i:=λi h=>ta (o1:=⟨news'.length,news',[]⟩) (o:=o) rfl h;have gnew:∀j,j<news.length->get C ⟨news'.length+o.n,news'++o.os,o.le⟩ (C.lo+o.n+j)=(⟨news'.length,news',[]⟩:aB).at j:=λj h=>by
    have:=AE (C:=C) (o1:=⟨news'.length,news',[]⟩) (o:=o) (i:=C.lo+o.n+j) rfl δ η;rw[show C.lo+o.n+j-(C.lo+o.n)=j by omega]at this;exact this
   have hold:∀i,D i->i<C.lo+o.n:=hi.lt;have hinv:dX cfg D2 m2 C ⟨news'.length+o.n,news'++o.os,o.le⟩ w':=by
    have hi':dX cfg D m C o w':=hi.d0 λj hj hlv=>hframe _ ((hi.a0 j hj).a0 hlv);refine⟨λid hd=>?_,λi j hdi hdj hij hl hr=>?_,λid hd=>?_,λg hg=>?_,λid hid=>?_,λid hid=>hi.le id hid,hi.lo,by simp[hi.e0]⟩
    . rw[hD2]at hd;rcases hd with hd|⟨j,hj,rfl,hd⟩
      . rw[gold id (hold id hd),m2low id (hold id hd)];exact(hi'.a0 id hd).b0 (λi h=>by grind) λi h=>m2low i (hold i h)
      . rw[gnew j hj,m2new];have:=hx.b0.a0 _ hd;rw[(oR (cfg:=cfg) (id:=0) rfl).2.2 j]at this;grind [OP]
    . rw[hD2]at hdi hdj;have isnew:∀j,j<news.length->D' (cfg.a0.n+q.ws.length+j)->w.heap.size<=(m' (cfg.a0.n+q.ws.length+j)).a0:=λj hj hd=>hfresh _ hd λh=>by
       rcases h with⟨h1,_⟩|⟨_,h2⟩
       . omega
       . rw[hL.1]at h2;omega
      rcases hdi with hdi|⟨a,ha,rfl,hdi⟩<;>rcases hdj with hdj|⟨b,hb,rfl,hdj⟩
      . rw[gold i (hold i hdi)]at hl;rw[gold j (hold j hdj)]at hr;rw[m2low i (hold i hdi),m2low j (hold j hdj)];exact hi.inj i j hdi hdj hij hl hr
      . rw[gold i (hold i hdi)]at hl;rw[m2low i (hold i hdi),m2new];have h1:=(hi.a0 i hdi).a0 hl;grind
      . rw[gold j (hold j hdj)]at hr;rw[m2low j (hold j hdj),m2new];have h1:=(hi.a0 j hdj).a0 (mY hr);grind
      . rw[gnew a ha,(Lq (hnew a ha)).1]at hl;rw[gnew b hb,(Lq (hnew b hb)).2]at hr;rw[m2new,m2new];refine hx.b0.inj _ _ hdi hdj δ ?_ ?_
        . rw[(oR (cfg:=cfg) (id:=0) rfl).2.2 a];omega
        . rw[(oR (cfg:=cfg) (id:=0) rfl).2.2 b];omega
    . grind
    . obtain⟨a1,a2,a3⟩:=hi.c0 g hg;grind
    . obtain⟨a1,a2⟩:=hi.b0 id hid;grind
   have hfr2:∀i,D2 i->¬D i->w.heap.size<=(m2 i).a0:=λi h hn=>by
    rw[hD2]at h;rcases h with h|⟨j,hj,rfl,hd⟩
    . exact absurd h hn
    . rw[m2new];refine hfresh _ hd λh=>?_;rcases h with⟨h1,_⟩|⟨_,h2⟩
      . omega
      . rw[hL.1]at h2;omega
   refine⟨D2,m2,hcv.symm,hokv,⟨hinv,λi h=>by rw[hD2];exact .inl h,λi h=>m2low i (hold i h),λi h=>?_,by simp only;omega,hx.os,hx.j0,hx.c0,hx.i0,λk hk _=>hframe k hk,rfl,λi h hn=>.inl (hfr2 i h hn)⟩,λ_=>⟨hframe,hfr2⟩⟩;rw[hD2]at h;rcases h with h|⟨j,hj,rfl,_⟩
   . exact .inl h
   . exact .inr δ
 . exact fh.e0 (o1:=⟨news'.length,news',[]⟩) hl rfl
end
end Go.Ev
end
section
namespace Go.Ev
open Go Go.Proofs
variable{v0 v:AV}{β b' fuel:Nat}{f0 f1:Field}
def Bn:dP:=λ
 | []=>some (.a0 (.b true))
 | _=>none
def aaa(k:Int)(x:Da)(k1:Int)(y:Da)(k2:Int)(z:Da)(sl:AV)(ea la:Bool):List AV:=.a .u8 k::.b x.ng::.b x.lg::.e x.s::.a .i64 x.e::.a .i64 x.g::.e x.mo::.e x.da::.a .u8 x.a::.a .u8 x.b::.a .u8 x.c::.a .u8 k1::.b y.ng::.b y.lg::.e y.s::.a .i64 y.e::.a .i64 y.g::.e y.mo::.e y.da::.a .u8 y.a::.a .u8 y.b::.a .u8 y.c::.a .u8 k2::.b z.ng::.b z.lg::.e z.s::.a .i64 z.e::.a .i64 z.g::.e z.mo::.e z.da::.a .u8 z.a::.a .u8 z.b::.a .u8 z.c::sl::.b ea::.b la::[]
structure Fm where
 k:Int
 d:AV
 x:Da
 p:Int
 a:Int
 b:Int
 c:Int
 e:Int
def Fm.cs(f:Fm):List AV:=eb f.k f.d f.x f.p f.a f.b f.c f.e
def nK(F:Nat->Fm):Nat->List AV
 | 0=>[]
 | n+1=>nK F n++(F n).cs
abbrev qp:Type:=Nat->bg->List AV->aB->AV×aB->Bool
def vv(ok:qp)(f:Nat)(v:Nat->AV)(news:List cD):FG:=λC args o=>some (lu (ok f C args o (v (C.lo+o.n),⟨news.length+o.n,news++o.os,o.le⟩)) (.a0 (v (C.lo+o.n),⟨news.length+o.n,news++o.os,o.le⟩)))
def Lh(ok:qp)(f n:Nat)(K:fg)(c:List AV)(g:Option Nat)(p:Nat->cD):FG:=vv ok f (λb=>.d [.c (b+6) 0 n K,.a .i64 0]) [.a c true g,p 5,p 4,p 3,p 2,p 1,p 0]
theorem bu.a0{P:Program}{f:FuncId}{args:List AV}{ws:List cD}{news0 news:List cD}(h:bu P cfg f args ws v0 news0)(he:dL ws v news (v0,⟨news0.length,news0,[]⟩)):bu P cfg f args ws v news:=by
 intro D m w hi hok;refine(h D m w hi hok).a0 ?_;rintro V w' ⟨D',m',rfl,hv,hx⟩;have ht:TR D' m' ⟨.c0 v0 .a0 .a0,1,⟨news0.length,news0,[]⟩,[],none⟩ ⟨#[aj m' v0],[]⟩:=by
  have h1:∀t,t≠0->(Ts.c0 v0 .a0 .a0).b0 t=bt:=λt e=>by
   rcases Nat.mod_two_eq_zero_or_one t with h2|h2
   . rw[Ts.d0 _ t e h2];rfl
   . rw[Ts.f0 _ t e h2];rfl
  refine⟨rfl,λt=>?_,λt=>?_,rfl,λd hd=>η,λi hi=>η⟩
  . by_cases e:t=0
    . subst e;rfl
    grind [td]
  . by_cases e:t=0
    . subst e;exact hv
    grind [iy]
 obtain⟨s,D2,m2,⟨ho,hvs⟩,h1,_,_,h4,h5⟩:=he D' m' _ w' hx.b0 ht;have hat:=h1.c0 0;have hok0:=h1.d0 0;rw[hvs]at hat hok0;refine⟨D2,m2,by simp_all,hok0,?_⟩;have:=h5 D m ⟨0,[],[]⟩ w (Nat.le_refl _) hi.lt hx;grind
theorem dL.u{ws:List cD}(hw:∀x∈ws,cR 14 x){n0:Nat}{os0 news:List cD}{sel:List Nat}(hlen:os0.length=n0)(hn:n0<=7)(hs:∀s∈sel,s<7)(hd:sel.Nodup)(hl:sel.length=7)(hnews:news.length=7)(hv:kG (14+ws.length) (fY (14+ws.length) 0 sel) 20 v0=some v)(hnew:∀t,t<7->WD (14+ws.length) (fY (14+ws.length) 0 sel) ((⟨7,List.replicate (7-n0) .b++os0,[]⟩:aB).at (sel.getD t 0)) ((⟨7,news,[]⟩:aB).at t)):dL ws v news (v0,⟨n0,os0,[]⟩):=by
 unfold dL;refine(aed (C:=Cw cfg ws) (st:=⟨.c0 v0 .a0 .a0,1,⟨n0,os0,[]⟩,[],none⟩) (kb:=0) (o':=⟨7,List.replicate (7-n0) .b++os0,[]⟩) hn η rfl λi hi=>?_).c0 λs hs'=>?_
 . grind [aB.at]
 . rw[hs'];refine(oX gR.lv (C:=Cw cfg ws) (st:=⟨.c0 v0 .a0 .a0,1,⟨7,List.replicate (7-n0) .b++os0,[]⟩,[],none⟩) (kb:=0) (sel:=sel) (ts':=.c0 v .a0 .a0) (o':=⟨7,news,[]⟩) (B6 hw) (Nat.zero_le _) (λs h=>⟨Nat.zero_le _,hs s h⟩) hd (λp hp=>by grind) rfl η hnews (λi hi=>absurd hi (Nat.not_lt_zero i)) (λt ht=>?_) ?_ (λd hd=>by grind) (λi hi=>by grind)).b0 λs h=>?_
   . have:=hnew t δ;rw[Nat.zero_add];exact this
   . have hv':kG ((Cw cfg ws).lo+0) (fY (Cw cfg ws).lo 0 sel) 20 v0=some v:=hv;grind [xB,ob]
   . rw[h];exact⟨by grind,rfl⟩
structure Fk where
 k:Int
 s:Option (Nat×Nat×fg)
 x:Da
 p:Int
 a:Int
 b:Int
 c:Int
 e:Int
def Fk.d(f:Fk)(β:Nat):AV:=match f.s with
 | none=>.f
 | some (j,q,K)=>.c (β+j) 0 q K
def Fk.at(f:Fk)(β:Nat):Fm:=⟨f.k,f.d β,f.x,f.p,f.a,f.b,f.c,f.e⟩
theorem aem{b b':Nat}:∀{n j:Nat},j<n->xx (VV b b' n) (b+j)=some (b'+j)
 | 0,_,h=>absurd h (Nat.not_lt_zero _)
 | n+1,j,h=>by
   rw[VV,xx];by_cases e:j=n
   . simp_all
   . rw[ic δ,cond_false];exact aem δ
theorem afV{j:Nat}(hβ:14<=β)(hj:j<7):To 14 (VV β b' 7) (β+j)=some (b'+j):=by
 grind [To,aU,aem]
def adb(Φ:Nat->Fk)(n:Nat):Prop:=∀i,i<n->∀j q K,(Φ i).s=some (j,q,K)->j<6
theorem amg{f:Fk}(hβ:14<=β)(h:∀j q K,f.s=some (j,q,K)->j<6):yw (kG 14 (VV β b' 7) 20) (f.at β).cs=some (f.at b').cs:=by
 show yw _ (eb f.k (f.d β) f.x f.p f.a f.b f.c f.e)=some (eb f.k (f.d b') f.x f.p f.a f.b f.c f.e);unfold Fk.d;cases hs:f.s<;>grind [acY,aa2,afV]
theorem ag7{Φ:Nat->Fk}{β b':Nat}(hβ:14<=β):∀{n:Nat},adb Φ n->yw (kG 14 (VV β b' 7) 20) (nK (λi=>(Φ i).at β) n)=some (nK (λi=>(Φ i).at b') n)
 | 0,_=>rfl
 | n+1,h=>rB (ag7 hβ λi hi=>h i δ) (amg hβ (h n δ))
def abf(f:Nat)(args:List AV)(ws:List cD)(n:Nat)(K:fg)(g:Option Nat)(Φ:Nat->Fk)(p:Nat->cD):Prop:=bu Tryz.prog cfg f args ws (.d [.c (14+ws.length+6) 0 n K,.a .i64 0]) [.a (nK (λi=>(Φ i).at (14+ws.length)) n) true g,p 5,p 4,p 3,p 2,p 1,p 0]
theorem ajD{f n:Nat}{szs:List Nat}{C:bg}{o:aB}{args args':List AV}{q:Aq}{K:fg}{g:Option Nat}{Φ:Nat->Fk}{p:Nat->cD}(hcan:nC (nX 14 C o 20) args ⟨szs,[],true⟩=some (args',q))(hq:q.ok)(h:abf f args' q.ws n K g Φ p)(hl:adb Φ n)(hp:∀j,j<6->cR 14 (p j)):rL Tryz.prog cfg f C args o (.d [.c (C.lo+o.n+6) 0 n K,.a .i64 0],⟨7+o.n,[.a (nK (λi=>(Φ i).at (C.lo+o.n)) n) true g,p 5,p 4,p 3,p 2,p 1,p 0]++o.os,o.le⟩):=by
 refine abR (news':=[.a (nK (λi=>(Φ i).at (C.lo+o.n)) n) true g,p 5,p 4,p 3,p 2,p 1,p 0]) gR.lv Az hcan hq h ?_ rfl λj hj=>?_
 . show kG 14 (VV (14+q.ws.length) (C.lo+o.n) 7) 20 _=_;simp[kG,yw,afV,ob]
 . have hj:j<7:=hj;rcases(by omega:j=0\/j=1\/j=2\/j=3\/j=4\/j=5\/j=6)with rfl|rfl|rfl|rfl|rfl|rfl|rfl
   . exact .inl ⟨rfl,hp 0 ζ⟩
   . exact .inl ⟨rfl,hp 1 ζ⟩
   . exact .inl ⟨rfl,hp 2 ζ⟩
   . exact .inl ⟨rfl,hp 3 ζ⟩
   . exact .inl ⟨rfl,hp 4 ζ⟩
   . exact .inl ⟨rfl,hp 5 ζ⟩
   . exact .inr ⟨_,_,_,_,rfl,ag7 (Nat.le_add_right _ _) hl,rfl⟩
section
variable{H:Type}{enc:TypeId×Value->H}{P:Program}{w:World}{base:Nat}{sp:Nat->Bool}{held:Bool}
theorem sF{e t0 t1:TypeId}{cs:List Value}{k:IntKind}{d:DataW H}{p:List MemPlace}(he:P.underlying e=some (.struct #[f0,f1]))(e0:f0.type=t0)(e1:f1.type=t1)(h0:P.underlying t0=some (.int k))(h1:P.underlying t1=some (.int k))
 (o0:f0.offset=0) (o1:f1.offset=1) (c0:P.cellsOf t0=1) (c1:P.cellsOf t1=1) (hc:P.cellsOf e=2) (h:DataW.trod enc P w base sp held fuel e cs=some (d,p)) :
 ∃a b,cs=[.int k a,.int k b]/\d=.agg [.lit (.int k a),.lit (.int k b)]:=by
 cases fuel with
 | zero=>simp[DataW.trod]at h
 | succ fuel=>
   unfold DataW.trod at h;simp only[he,hc]at h;split at h
   . rename_i hl
     match cs,hl with
     | [x,y],_=>
       simp only[List.mapM_cons,List.mapM_nil,o0,o1,e0,e1,c0,c1,List.drop_zero,List.drop_succ_cons,List.take_succ_cons,List.take_zero,Option.map_eq_some_iff,Option.bind_eq_bind,Option.bind_eq_some_iff,Option.pure_def,zAb]at h;obtain⟨xs,⟨r0,hr0,ys,⟨r1,hr1,zs,rfl,rfl⟩,rfl⟩,hx⟩:=h;obtain⟨n0,q0,rfl,_⟩:=DataW.trod_int h0 hr0;obtain⟨n1,q1,rfl,_⟩:=DataW.trod_int h1 hr1;simp only[List.cons.injEq,and_true]at q0 q1;subst q0 q1;refine⟨n0,n1,rfl,?_⟩;have:=congrArg Prod.fst hx;simpa using this.symm
   . cases h
theorem D8{n:Nat}{t e t0 t1:TypeId}{cs:List Value}{k:IntKind}{ds:List (DataW H)}{p:List MemPlace}(ht:P.underlying t=some (.array n e))(he:P.underlying e=some (.struct #[f0,f1]))(e0:f0.type=t0)(e1:f1.type=t1)(h0:P.underlying t0=some (.int k))(h1:P.underlying t1=some (.int k))
 (o0:f0.offset=0) (o1:f1.offset=1) (c0:P.cellsOf t0=1) (c1:P.cellsOf t1=1) (hc:P.cellsOf e=2) (h:DataW.trod enc P w base sp held fuel t cs=some (.agg ds,p)) :
 ∀i d,ds[i]? = some d->∃a b,d=.agg [.lit (.int k a),.lit (.int k b)]/\cs[2*i]? = some (.int k a)/\cs[2*i+1]? = some (.int k b):=by
 cases fuel with
 | zero=>simp[DataW.trod]at h
 | succ fuel=>
   unfold DataW.trod at h;simp only[ht,hc]at h;split at h
   . rename_i hl;obtain⟨xs,hm,hx⟩:=Option.map_eq_some_iff.1 h;have hxs:xs.map (·.1)=ds:=by
      have:=congrArg Prod.fst hx;simpa using this
     intro i d hd;have hxl:xs.length=n:=by simpa using Lib.mapM_length hm
     have hi:i<n:=by
      have:=(List.getElem?_eq_some_iff.1 hd).1;rw[<-hxs]at this;simp at this;omega
     obtain⟨b,hb,hf⟩:=Lib.mapM_at hm i i (by simp[hi]);obtain⟨x,y,hc1,hc2⟩:=sF (d:=b.1) (p:=b.2) he e0 e1 h0 h1 o0 o1 c0 c1 hc (by rw[hf]);refine⟨x,y,?_,?_,?_⟩
     . rw[<-hxs]at hd;simp only[List.getElem?_map,hb,Option.map_some,zAb]at hd;rw[<-hd,hc2]
     . have:=congrArg (·[0]?) hc1;simp only[List.getElem?_take,List.getElem?_drop,List.getElem?_cons_zero]at this;rw[show 2*i=i*2+0 by omega];simpa using this
     . have:=congrArg (·[1]?) hc1;simp only[List.getElem?_take,List.getElem?_drop]at this;rw[show 2*i+1=i*2+1 by omega];simpa using this
   . cases h
theorem zK{t e t0 t1:TypeId}{cs:List Value}{k:IntKind}{ds:List (DataW H)}{p:List MemPlace}(ht:P.underlying t=some (.slice e))(he:P.underlying e=some (.struct #[f0,f1]))(e0:f0.type=t0)(e1:f1.type=t1)(h0:P.underlying t0=some (.int k))(h1:P.underlying t1=some (.int k))
 (o0:f0.offset=0) (o1:f1.offset=1) (c0:P.cellsOf t0=1) (c1:P.cellsOf t1=1) (hc:P.cellsOf e=2) (hne:0<ds.length) (h:DataW.trod enc P w base (λ_=>true) held fuel t cs=some (.slice ds [],p)) :
 ∃b o,cs=[.slice (some ⟨b,o,none⟩) ds.length ds.length]/\∀i d,ds[i]? = some d->∃x y,d=.agg [.lit (.int k x),.lit (.int k y)]/\w.cell? ⟨b,o+2*i,none⟩=some (.int k x)/\w.cell? ⟨b,o+(2*i+1),none⟩=some (.int k y):=by
 rcases DataW.trod_slice ht h with⟨_,hx⟩|⟨a,len,cap,elems,rest,n,rfl,rfl,hx,hb,hle,hmax,hel,hat,hrest,_⟩
 . cases hx
 . simp only[Prod.mk.injEq,DataW.slice.injEq]at hx;obtain⟨⟨hds,hrs⟩,_⟩:=hx;have hr0:rest.length=0:=by
    have:=congrArg List.length hrs;simpa using this.symm
   have hcap:cap=len:=by
    have:=(hrest rfl).1;omega
   have hlen:ds.length=len:=by rw[hds];simpa using hel
   subst hcap;have main:∀i d,ds[i]? = some d->∃x y,d=.agg [.lit (.int k x),.lit (.int k y)]/\w.cell? (a.add (i*2))=some (.int k x)/\w.cell? ((a.add (i*2)).add 1)=some (.int k y):=by
    intro i d hd;have hi:i<cap:=by
     have:=(List.getElem?_eq_some_iff.1 hd).1;omega
    have h3:=hat i hi;rw[hds,List.getElem?_map]at hd;obtain⟨b,hb',rfl⟩:=Option.map_eq_some_iff.1 hd;rw[hb',hc]at h3;obtain⟨cs',hcs,htr⟩:=Option.bind_eq_some_iff.1 h3;obtain⟨x,y,rfl,hd2⟩:=sF (d:=b.1) (p:=b.2) he e0 e1 h0 h1 o0 o1 c0 c1 hc htr;obtain⟨_,_,hcell⟩:=World.cells?_some hcs;refine⟨x,y,hd2,?_,?_⟩
    . have:=hcell 0 δ;simpa [Addr.add]using this
    . exact hcell 1 δ
   obtain⟨b,o,sp⟩:=a;have hsp:sp=none:=by
    obtain⟨x,y,_,hx0,_⟩:=main 0 (ds[0]'hne) (by simp[hne]);simp only[Nat.zero_mul,Addr.add,if_true]at hx0;unfold World.cell? at hx0;cases sp with
    | none=>rfl
    | some v=>split at hx0<;>simp at hx0
   subst hsp;refine⟨b,o,by rw[hlen],λi d hd=>?_⟩;obtain⟨x,y,h4,h5,h6⟩:=main i d hd;refine⟨x,y,h4,?_,?_⟩
   . by_cases e:i=0
     . subst e;simpa [Addr.add]using h5
     . rw[show o+2*i=o+i*2 by omega];have e2:¬i*2=0:=δ
       rw[Addr.add,if_neg e2]at h5;exact h5
   . by_cases e:i=0
     . subst e;simpa [Addr.add]using h6
     . rw[show o+(2*i+1)=o+i*2+1 by omega];have e2:¬i*2=0:=δ
       rw[Addr.add,if_neg δ,Addr.add,if_neg e2]at h6;exact h6
end
end Go.Ev
end
