import Derived.Test.YtcffhjfdlflbgaaGreatDoorP35
set_option linter.all false
open Int renaming ofNat->ν,sub->ξ,add->ο
open Nat renaming le_refl->π,ble->ς,beq->σ
open List renaming cons_append->τ
set_option linter.all false
set_option maxRecDepth 100000
set_option maxHeartbeats 4000000
namespace Go.Ev
open Go Go.Proofs
variable{S:aQ}{R L W:List Rn}{i n k:Nat}{r:Rn}
def NZ:aQ:=d5 (d5 (d5 (d5 (d5 (d5 gZ 127 Vh) 66 Zt) 128 aiw) 130 ak8) 129 akZ) 131 alH
def ahu:dP:=λ
 | [.h [.b ng,.b lg,.e s,.a .i64 e,.a .i64 g,.e mo,.e da,.a .u8 a,.a .u8 b,.a .u8 c]]=>some (aH [fL ng lg s e g mo da a b c] (.a0 (.d [.a .i64 (aP ng s e mo da),.a .i64 (bq ng s e mo da)])))
 | _=>none
theorem aiu:(List.range 21).all (λi=>pR tab cfg 10000 129 [.a .i64 (21+ν i)] (.d [.a .i64 (fR (21+ν i)),.a .i64 (mR (21+ν i))]))=true:=by rfl
theorem aiL:(List.range 21).all (λi=>decide (1<=fR (21+ν i)/\fR (21+ν i)<=12/\3<=mR (21+ν i)/\mR (21+ν i)<=6/\fR (21+ν i)+mR (21+ν i)<=24))=true:=by rfl
theorem agK{c:Int}(h:zI c):∃i:Nat,i<21/\c=21+ν i:=by
 have h:=mg.1 h;exact⟨(c-21).toNat,by omega,by grind⟩
theorem ah7{c:Int}(h:zI c):1<=fR c/\fR c<=12/\3<=mR c/\mR c<=6/\fR c+mR c<=24:=by
 grind [agK,aiL]
theorem akC{f:Nat}{args:List AV}{v:AV}(h:gM Tryz.prog cfg f args v):bu Tryz.prog cfg f args [] v []:=λD m w hi hok=>(h (Cw cfg []) D m ⟨0,[],[]⟩ w hi hok).a0 λV w' ⟨h1,h2,h3,_⟩=>⟨D,m,h1,h2,h3⟩
theorem aj_(hS:ak Tryz.prog cfg S):ak Tryz.prog cfg (d5 S 129 akZ):=by
 refine au hS λargs t v he hv=>?_;unfold akZ at he;split at he
 . cases he;replace hv:=aF hv;obtain⟨⟨h1,-⟩,hv⟩:=hv;cases hv;obtain⟨i,hi,rfl⟩:=agK h1;exact akC (eb.a0 10000 (List.all_eq_true.1 aiu i (List.mem_range.2 hi)))
 grind
theorem aeb:ak Tryz.prog cfg NZ:=akv (aj_ (aks (ahy (bm (bm aW (Lz 127 _ rfl)) (MW 66 _ rfl)))))
theorem alS{y c:Int}(h:zI c):mn y (fR c+mR c)=aG (fq y c) (kX y c+2):=by
 obtain⟨h1,h2,h3,h4,h5⟩:=ah7 h;unfold mn fq kX dc d8;generalize fR c=f at *;generalize mR c=m at *;cases hc:ab (f+m) 12 with
 | true=>
   grind [aq]
 | false=>
   rw[bF]at hc;rw[cond_false];by_cases h13:f+m=13
   . rw[show(12*y+(f-1)+(m-1))/12=y by omega,show(12*y+(f-1)+(m-1))%12+2=13 by omega,h13,VS];rfl
   grind
theorem aiD{ng:Bool}{s:List UInt8}{e:Int}:dY ng s e=bif ng then ξ 0 (ν (cF s e.toNat))else ν (cF s e.toNat):=by
 grind [dY]
theorem afd(hS:ak Tryz.prog cfg S):ak Tryz.prog cfg (d5 S 70 ahu):=by
 refine au hS λargs t v he hv=>?_;unfold ahu at he;split at he
 . rename_i ng lg s e g mo da a b c;cases he;replace hv:=aF hv;obtain⟨⟨h1,-⟩,hv⟩:=hv;cases hv;obtain⟨h6,i1,i2,i3,i4,h0,hx,rfl⟩:=ye.1 h1;obtain⟨p1,p2,p3,p4,p5,p6,p7⟩:=aaj h0 hx h6;obtain⟨hy,-,hm⟩:=ju.1 p5;unfold agm at p1;simp only[zAa]at p1;obtain⟨n1,n2,n3,n4,n5⟩:=p1;have hY:aaZ (dY ng s e)=true:=yi.2 (by omega);have hY1:aaZ (dY ng s e+1)=true:=yi.2 (by omega);have ri:af .i64 (dY ng s e)=true:=by grind [aE,eH,eE]
   have ri1:af .i64 (dY ng s e+1)=true:=by grind [aE,eE]
   have mok:∀m,1<=m->m<=24->abt (dY ng s e) m=true:=λm k1 k2=>by
    unfold abt;rw[aq.mpr k1,aq.mpr k2,hY,hY1,Bool.or_true];rfl
   have mbd:∀m,1<=m->m<=24->-3652425000000000001<=mn (dY ng s e) m/\mn (dY ng s e) m<=3652425000000000766:=λm k1 k2=>by
    unfold mn;cases hc:ab m 12 with
    | true=>simp_all [aq,ad1,yi]
    | false=>rw[bF]at hc;exact ad1 (yi.1 hY1) (by omega) (by omega)
   have rin:∀x:Int,-3652425000000000009<=x/\x<=3652425000000000900->af .i64 x=true:=λx h=>by grind [aE,eH,eE]
   rcases x5 p3 with rfl|⟨m0,m1,rfl,hmd⟩
   . rcases x5 p4 with rfl|⟨d0,d1,rfl,hdd⟩
     . refine jD aeb ai (bE 11420220561142022056240227000) (R:=λQ=>(λ(H:Nat)=>(λ(A:Int)=>(λ(I:AV)(B C:Int)=>(λ(N:AV)(E F:Int)=>(λ(O:Bool)(G:Int)=>(λ(P:Bool)=>ς s.length 1000/\ab 0 e/\ab e 1000/\dV s/\magOk s H/\(ng->af .i64 B/\aaZ B/\af .i64 E/\aaZ E/\(P->Q (.d [N,.a .i64 G]))/\(P=false->Q (.d [N,.a .i64 (IntKind.wrap .i64 G)])))/\(ng=false->aaZ A/\af .i64 C/\aaZ C/\(O->Q (.d [I,.a .i64 F]))/\(O=false->Q (.d [I,.a .i64 (IntKind.wrap .i64 F)])))) (af .i64 G)) (af .i64 F) (ξ (bf E) 1)) (.a .i64 (bf B)) (ο B 1) (ξ (bf C) 1)) (.a .i64 (bf A)) (ξ 0 A) (ο A 1)) (ν (cF s H))) e.toNat) (λ_=>by rfl) λQ' hQ=>?_;try dsimp only
       have hQ:Q' (.d [.a .i64 (bf (dY ng s e)),.a .i64 (ξ (bf (ο (dY ng s e) 1)) 1)]):=hQ _ rfl;have r2:af .i64 (ξ (bf (ο (dY ng s e) 1)) 1)=true:=rin _ (by
        have:=@aei (dY ng s e+1) (yi.1 hY1);grind)
       have ri1:af .i64 (ο (dY ng s e) 1)=true:=ri1;have hY1:aaZ (ο (dY ng s e) 1)=true:=hY1;rw[aiD]at hQ r2 ri ri1 hY hY1;try dsimp only
       cases ng<;>simp only[zAj]at hQ r2 ri ri1 hY hY1<;>simp only[n1,n2,n3,n4,n5,hY,hY1,ri,ri1,r2,Bool.not_true,Bool.not_false,true_and,and_true,true_imp_iff,reduceCtorEq,false_imp_iff]<;>exact hQ
     . have:=(aaR h0 hx rfl).1;exact absurd this (by decide)
   . have hm0:XR [m0,m1]=ko m0 m1:=rfl;have hz:aa (XR [m0,m1]) 0=false:=p6.symm;rw[hm0]at hm hz;rcases x5 p4 with rfl|⟨d0,d1,rfl,hdd⟩
     . cases hc:ab 13 (ko m0 m1)with
       | true=>
         have hc':=hc;rw[aq]at hc';have hs:aR [m0,m1]=ko m0 m1:=by
          grind [L6,aaU]
         have hco:zI (aR [m0,m1])=true:=by
          grind [mg]
         obtain⟨f1,f2,f3,f4,f5⟩:=ah7 hco;have hl:=@alS (dY ng s e) _ hco;have hE:AV.d [.a .i64 (aP ng s e [m0,m1] []),.a .i64 (bq ng s e [m0,m1] [])]=.d [.a .i64 (mn (dY ng s e) (fR (aR [m0,m1]))),.a .i64 (ξ (mn (dY ng s e) (ο (fR (aR [m0,m1])) (mR (aR [m0,m1])))) 1)]:=by
          unfold aP bq iO iD;rw[hm0,hz,hc];show _=AV.d [_,.a .i64 (mn (dY ng s e) (fR (aR [m0,m1])+mR (aR [m0,m1]))-1)];rw[hl,show mn (dY ng s e) (fR (aR [m0,m1]))=aG (dY ng s e) (fR (aR [m0,m1]))by unfold mn;rw[aq.mpr f2];rfl,hs];rfl
         rw[hE];refine nF aeb ai (bE 11420220202561142022020256240227000) (R:=λQ=>(λ(F:Int)(I:Nat)=>(λ(N:Bool)(A B:Int)=>(λ(O:AV)(C E:Int)=>(λ(T:AV)(P:Bool)(G H:Int)=>(λ(U V:Bool)=>ς s.length 1000/\ab 0 e/\ab e 1000/\dV s/\magOk s I/\(ng->af .i64 C/\N/\zI F/\abt C B/\P/\abt C E/\(U->Q (.d [T,.a .i64 G]))/\(U=false->Q (.d [T,.a .i64 (IntKind.wrap .i64 G)])))/\(ng=false->N/\zI F/\abt A B/\P/\abt A E/\(V->Q (.d [O,.a .i64 H]))/\(V=false->Q (.d [O,.a .i64 (IntKind.wrap .i64 H)])))) (af .i64 G) (af .i64 H)) (.a .i64 (mn C B)) (af .i64 E) (ξ (mn C E) 1) (ξ (mn A E) 1)) (.a .i64 (mn A B)) (ξ 0 A) (ο B (mR F))) (not (ab F 0)) (ν (cF s I)) (fR F)) (aR [m0,m1]) e.toNat) (λ_=>by rfl) λQ' hQ=>?_;try dsimp only
         have k1:=mok (fR (aR [m0,m1])) f1 (by omega);have k2:abt (dY ng s e) (ο (fR (aR [m0,m1])) (mR (aR [m0,m1])))=true:=mok _ (by grind) f5;have k3:af .i64 (ξ (mn (dY ng s e) (ο (fR (aR [m0,m1])) (mR (aR [m0,m1])))) 1)=true:=rin _ (by
          grind)
         have k4:af .i64 (ο (fR (aR [m0,m1])) (mR (aR [m0,m1])))=true:=rin _ (by grind);have k5:ab (aR [m0,m1]) 0=false:=bF.mpr (by omega);grind [aiD]
       | false=>
         have hc':=hc;rw[bF]at hc';have hs:aR [m0,m1]=0:=by
          grind [L6,qH]
         have hd1:1<=ko m0 m1:=by
          grind [aaU]
         have hE:AV.d [.a .i64 (aP ng s e [m0,m1] []),.a .i64 (bq ng s e [m0,m1] [])]=.d [.a .i64 (mn (dY ng s e) (ko m0 m1)),.a .i64 (ξ (mn (dY ng s e) (ο (ko m0 m1) 1)) 1)]:=by
          unfold aP bq iO iD;rw[hm0,hz,hc];show _=AV.d [_,.a .i64 (mn (dY ng s e) (ko m0 m1+1)-1)];rw[show mn (dY ng s e) (ko m0 m1)=aG (dY ng s e) (ko m0 m1)by unfold mn;rw[aq.mpr (by omega)];rfl];rw[show mn (dY ng s e) (ko m0 m1+1)=aG (dY ng s e) (ko m0 m1+1)by
           unfold mn;by_cases h12:ko m0 m1=12
           . grind [VS]
           . rw[aq.mpr (by omega)];rfl];rfl
         rw[hE];refine nF aeb ai (bE 11420220020253561142022002025356240227000) (R:=λQ=>(λ(F:Bool)(A:Int)(I:Nat)(N:Prop)=>(λ(B C:Int)=>(λ(P:AV)(O:Bool)(E G:Int)=>(λ(T:AV)(U:Bool)(H:Int)=>(λ(V:Bool)=>ς s.length 1000/\ab 0 e/\ab e 1000/\dV s/\magOk s I/\(ng->af .i64 E/\N/\F/\abt E A/\F/\O/\abt E C/\(V->Q (.d [T,.a .i64 H]))/\(V=false->Q (.d [T,.a .i64 (IntKind.wrap .i64 H)])))/\(ng=false->N/\F/\abt B A/\F/\O/\abt B C/\(U->Q (.d [P,.a .i64 G]))/\(U=false->Q (.d [P,.a .i64 (IntKind.wrap .i64 G)])))) (af .i64 H)) (.a .i64 (mn E A)) (af .i64 G) (ξ (mn E C) 1)) (.a .i64 (mn B A)) (af .i64 C) (ξ 0 B) (ξ (mn B C) 1)) (ν (cF s I)) (ο A 1)) (and (dB m0) (dB m1)) (ko m0 m1) e.toNat (not (ab (aR [m0,m1]) 0)=false)) (λ_=>by kernel_rfl) λQ' hQ=>?_;try dsimp only
         have k1:=mok (ko m0 m1) hd1 (by omega);have k2:abt (dY ng s e) (ο (ko m0 m1) 1)=true:=mok _ (by show 1<=ko m0 m1+1;omega) (by show ko m0 m1+1<=24;omega);have k3:af .i64 (ξ (mn (dY ng s e) (ο (ko m0 m1) 1)) 1)=true:=rin _ (by
          have:=mbd (ko m0 m1+1) (by omega) (by omega);show _<=mn (dY ng s e) (ko m0 m1+1)-1/\mn (dY ng s e) (ko m0 m1+1)-1<=_;omega)
         have k4:af .i64 (ο (ko m0 m1) 1)=true:=rin _ (by show _<=ko m0 m1+1/\ko m0 m1+1<=_;omega);rw[aiD]at hQ k1 k2 k3 ri;try dsimp only
         rw[hs,show ab 0 0=true from rfl];generalize ko m0 m1=dm at *;cases ng<;>simp only[zAj]at hQ k1 k2 k3 ri<;>simp only[n1,n2,n3,n4,n5,hmd,k1,k2,k3,k4,ri,Bool.not_true,Bool.not_false,true_and,and_true,true_imp_iff,reduceCtorEq,false_imp_iff]<;>exact hQ
     . obtain⟨q1,q2,q3,q4⟩:=aaR h0 hx rfl;have hd0:XR [d0,d1]=ko d0 d1:=rfl;rw[hm0]at q1 q2 q4;rw[hd0]at q3 q4;have ml:=jk (dY ng s e) (ko m0 m1);have hs:aR [m0,m1]=0:=by
        rcases L6 [m0,m1]with k|⟨_,k⟩
        . exact k
        . rw[hm0]at k;have:=qH [m0,m1];omega
       have hE:AV.d [.a .i64 (aP ng s e [m0,m1] [d0,d1]),.a .i64 (bq ng s e [m0,m1] [d0,d1])]=.d [.a .i64 (ξ (ο (mn (dY ng s e) (ko m0 m1)) (ko d0 d1)) 1),.a .i64 (ξ (ο (mn (dY ng s e) (ko m0 m1)) (ko d0 d1)) 1)]:=by
        unfold aP bq iO iD;rw[hm0,hd0,hz,show ab 13 (ko m0 m1)=false from bF.mpr (by omega),show aa (ko d0 d1) 0=false from aw.mpr (by omega)];rw[show mn (dY ng s e) (ko m0 m1)=aG (dY ng s e) (ko m0 m1)by unfold mn;rw[aq.mpr q2];rfl];rfl
       rw[hE];refine nF aeb ai (bE 1141144200202535611411442002025356240227000) (R:=λQ=>(λ(T U:Bool)(A:Int)(O:Nat)(P:Prop)=>(λ(B:Int)=>(λ(C E:Int)=>(λ(V:Bool)(F G H:Int)=>(λ(Z u0 u2 u3:AV)(W Y u1:Bool)(I N:Int)=>(λ(u5 u6 u9 ua:AV)(u4 u7:Bool)=>ς s.length 1000/\ab 0 e/\ab e 1000/\dV s/\magOk s O/\(ng->af .i64 C/\P/\T/\abt C A/\U/\(W->(u4->Q (.d [u5,u5]))/\(u4=false->Q (.d [u6,u6])))/\(W=false->(u7->Q (.d [u9,u9]))/\(u7=false->Q (.d [ua,ua]))))/\(ng=false->P/\T/\abt B A/\U/\(V->(Y->Q (.d [Z,Z]))/\(Y=false->Q (.d [u0,u0])))/\(V=false->(u1->Q (.d [u2,u2]))/\(u1=false->Q (.d [u3,u3]))))) (.a .i64 I) (.a .i64 (IntKind.wrap .i64 I)) (.a .i64 N) (.a .i64 (IntKind.wrap .i64 N)) (af .i64 I) (af .i64 N)) (.a .i64 G) (.a .i64 (IntKind.wrap .i64 G)) (.a .i64 H) (.a .i64 (IntKind.wrap .i64 H)) (af .i64 F) (af .i64 G) (af .i64 H) (ξ F 1) (ξ (IntKind.wrap .i64 F) 1)) (af .i64 E) (ο (mn C A) (ko d0 d1)) (ξ E 1) (ξ (IntKind.wrap .i64 E) 1)) (ξ 0 B) (ο (mn B A) (ko d0 d1))) (ν (cF s O))) (and (dB m0) (dB m1)) (and (dB d0) (dB d1)) (ko m0 m1) e.toNat (not (ab (aR [m0,m1]) 0)=false)) (λ_=>by kernel_rfl) λQ' hQ=>?_;try dsimp only
       have k1:=mok (ko m0 m1) q1 (by omega);have mb:=mbd (ko m0 m1) q1 (by omega);have k2:af .i64 (ο (mn (dY ng s e) (ko m0 m1)) (ko d0 d1))=true:=rin _ (by
        show _<=mn (dY ng s e) (ko m0 m1)+ko d0 d1/\mn (dY ng s e) (ko m0 m1)+ko d0 d1<=_;omega)
       have k3:af .i64 (ξ (ο (mn (dY ng s e) (ko m0 m1)) (ko d0 d1)) 1)=true:=rin _ (by
        show _<=mn (dY ng s e) (ko m0 m1)+ko d0 d1-1/\mn (dY ng s e) (ko m0 m1)+ko d0 d1-1<=_;omega)
       rw[aiD]at hQ k1 k2 k3 ri;try dsimp only
       rw[hs,show ab 0 0=true from rfl];generalize ko m0 m1=dm at *;generalize ko d0 d1=dd at *;cases ng<;>simp only[zAj]at hQ k1 k2 k3 ri<;>simp only[n1,n2,n3,n4,n5,hmd,hdd,k1,k2,k3,ri,Bool.not_true,Bool.not_false,true_and,and_true,true_imp_iff,reduceCtorEq,false_imp_iff]<;>exact hQ
 . cases he
def Cp:dP:=λ
 | [.h [.a .i8 a,.a .i64 b,.a .i8 c,.a .i64 d],.h [.a .i8 e,.a .i64 f,.a .i8 g,.a .i64 h]]=>some (.a0 (.h [.a .i8 (fD ⟨a,b,c,d⟩ ⟨e,f,g,h⟩).a,.a .i64 (fD ⟨a,b,c,d⟩ ⟨e,f,g,h⟩).b,.a .i8 (fD ⟨a,b,c,d⟩ ⟨e,f,g,h⟩).c,.a .i64 (fD ⟨a,b,c,d⟩ ⟨e,f,g,h⟩).d]))
 | _=>none
def Cq:dP:=λ
 | [.h [.a .i8 a,.a .i64 b,.a .i8 c,.a .i64 d],.h [.a .i8 e,.a .i64 f,.a .i8 g,.a .i64 h]]=>some (aH [af .i64 d,af .i64 h] (.a0 (.b (abV ⟨a,b,c,d⟩ ⟨e,f,g,h⟩))))
 | _=>none
def Cm:dP:=λ
 | [.h [.a .i8 a,.a .i64 b,.a .i8 c,.a .i64 d],.h [.a .i8 e,.a .i64 f,.a .i8 g,.a .i64 h]]=>some (.a0 (.a .i64 (In a b c d e f g h)))
 | _=>none
def zt:aQ:=pX gZ 98 FB
def kB:aQ:=d5 (d5 (d5 gZ 99 Cq) 236 Cp) 237 Cm
def fA(R:List Rn)(r:Rn):Nat->Int
 | 0=>-1
 | i+1=>bif abV (R.getD i ek) r then ν i else fA R r i
def aah(r:Rn):cD:=.a [.a .i8 r.a,.a .i64 r.b,.a .i8 r.c,.a .i64 r.d] true none
def pF(R:List Rn):Bool:=R.all λx=>af .i64 x.d
def aey(b:Nat):List Rn->AV
 | []=>.f
 | _::t=>.c b 0 (t.length+1) (.a 0)
def adH(n:Nat)(B:List cD):List Rn->aB
 | []=>⟨n,B,[]⟩
 | r::rs=>⟨n+1,.a (bh (r::rs)) true (some 4)::B,[]⟩
def iB(r:Rn)(L:List Rn):Bool:=L.any (iM r)
def q9(r:Rn)(L:List Rn):List Rn:=bif iB r L then aaQ r L else L
def aaY(r:Rn)(L:List Rn):Nat:=(q9 r L).length
def qA(R:List Rn)(k:Int):List Rn:=R.eraseIdx k.toNat
def oz(R:List Rn)(k:Int):Nat:=(R.eraseIdx k.toNat).length
def EA(R:List Rn):dW:=λvs o=>match vs,o with
 | [.c 14 0 n K,.g 15 0,.a .i64 kt,.a .i64 i],⟨1,[.a [.a .i8 a,.a .i64 b,.a .i8 c,.a .i64 d] true none],[]⟩=>some (aH [σ R.length n,ς n 1000,pF R,af .i64 d,aa kt (-1),aa i 0] (.a0 (.b 2,[.c 14 0 n K,.g 15 0,.a .i64 (fA R ⟨a,b,c,d⟩ n),.a .i64 (ν n)],o)))
 | _,_=>none
def Er(R:List Rn):dW:=λ
 | [.c 14 0 n K,.g 15 0,.a .i64 kt,.f,.a .i64 i],⟨1,[.a [.a .i8 a,.a .i64 b,.a .i8 c,.a .i64 d] true none],[]⟩=>some (aH [σ R.length n,ς n 1000,aa i 0,ab 0 kt] (.d0 (σ (oz R kt) 0) λz=>bif z then .a0 (.b 4,[.c 14 0 n K,.g 15 0,.a .i64 kt,.f,.a .i64 (ν n)],⟨1,[aah ⟨a,b,c,d⟩],[]⟩)else .a0 (.b 4,[.c 14 0 n K,.g 15 0,.a .i64 kt,.c 16 0 (oz R kt) (.a 0),.a .i64 (ν n)],⟨2,.a (bh (qA R kt)) true (some 4)::[aah ⟨a,b,c,d⟩],[]⟩)))
 | _,_=>none
def Du(R:List Rn):dW:=λ
 | [.c 14 0 n K,.g 15 0,.f,.b dn,.a .i64 i],⟨1,[.a [.a .i8 a,.a .i64 b,.a .i8 c,.a .i64 d] true none],[]⟩=>some (aH [σ R.length n,ς n 1000,bQ dn false,aa i 0,ς 1 n] (.a0 (.b 6,[.c 14 0 n K,.g 15 0,.c 16 0 (aaY ⟨a,b,c,d⟩ R) (.a 0),.b (iB ⟨a,b,c,d⟩ R),.a .i64 (ν n)],⟨2,.a (bh (q9 ⟨a,b,c,d⟩ R)) true (some 4)::[aah ⟨a,b,c,d⟩],[]⟩)))
 | _,_=>none
def EV:dW:=λvs o=>match vs,o with
 | [.c 16 0 n (.a 0),.g 15 0,.a .i64 kt,.a .i64 i],⟨2,[.a v true (some 4),.a [.a .i8 a,.a .i64 b,.a .i8 c,.a .i64 d] true none],[]⟩=>some (aH [eJ v,σ (g8 v).length n,ς n 1000,pF (g8 v),af .i64 d,aa kt (-1),aa i 0] (.a0 (.b 2,[.c 16 0 n (.a 0),.g 15 0,.a .i64 (fA (g8 v) ⟨a,b,c,d⟩ n),.a .i64 (ν n)],o)))
 | _,_=>none
def Ey:dW:=λ
 | [.c 16 0 n (.a 0),.g 15 0,.a .i64 kt,.f,.a .i64 i],⟨2,[.a v true (some 4),.a [.a .i8 a,.a .i64 b,.a .i8 c,.a .i64 d] true none],[]⟩=>some (aH [eJ v,σ (g8 v).length n,ς n 1000,aa i 0,ab 0 kt] (.d0 (σ (oz (g8 v) kt) 0) λz=>bif z then .a0 (.b 4,[.c 16 0 n (.a 0),.g 15 0,.a .i64 kt,.f,.a .i64 (ν n)],⟨2,[.a (bh (g8 v)) true (some 4),aah ⟨a,b,c,d⟩],[]⟩)else .a0 (.b 4,[.c 16 0 n (.a 0),.g 15 0,.a .i64 kt,.c 17 0 (oz (g8 v) kt) (.a 0),.a .i64 (ν n)],⟨3,.a (bh (qA (g8 v) kt)) true (some 4)::[.a (bh (g8 v)) true (some 4),aah ⟨a,b,c,d⟩],[]⟩)))
 | _,_=>none
def Dv:dW:=λ
 | [.c 16 0 n (.a 0),.g 15 0,.f,.b dn,.a .i64 i],⟨2,[.a v true (some 4),.a [.a .i8 a,.a .i64 b,.a .i8 c,.a .i64 d] true none],[]⟩=>some (aH [eJ v,σ (g8 v).length n,ς n 1000,bQ dn false,aa i 0,ς 1 n] (.a0 (.b 6,[.c 16 0 n (.a 0),.g 15 0,.c 17 0 (aaY ⟨a,b,c,d⟩ (g8 v)) (.a 0),.b (iB ⟨a,b,c,d⟩ (g8 v)),.a .i64 (ν n)],⟨3,.a (bh (q9 ⟨a,b,c,d⟩ (g8 v))) true (some 4)::[.a (bh (g8 v)) true (some 4),aah ⟨a,b,c,d⟩],[]⟩)))
 | _,_=>none
def EW:dW:=λ
 | [.f,.g 15 0,.a .i64 kt,.a .i64 0],⟨1,[.a cs true none],[]⟩=>some (.a0 (.b 2,[.f,.g 15 0,.a .i64 kt,.a .i64 0],⟨1,[.a cs true none],[]⟩))
 | _,_=>none
def DJ:dW:=λ
 | [.f,.g 15 0,.f,.b dn,.a .i64 0],⟨1,[.a cs true none],[]⟩=>some (.a0 (.b 6,[.f,.g 15 0,.f,.b dn,.a .i64 0],⟨1,[.a cs true none],[]⟩))
 | _,_=>none
theorem Ow(a b c d e f g h:Int){Q:AV->Prop}:gG Q (pT zt jE 236 [.h [.a .i8 a,.a .i64 b,.a .i8 c,.a .i64 d],.h [.a .i8 e,.a .i64 f,.a .i8 g,.a .i64 h]]) (bE 105155451051554000546)=((λ(u0 u1:Bool)=>(u0->(u1->Q (AV.h [AV.a .i8 e,AV.a .i64 f,AV.a .i8 g,AV.a .i64 h]))/\(u1=false->Q (AV.h [AV.a .i8 e,AV.a .i64 f,AV.a .i8 c,AV.a .i64 d])))/\(u0=false->(u1->Q (AV.h [AV.a .i8 a,AV.a .i64 b,AV.a .i8 g,AV.a .i64 h]))/\(u1=false->Q (AV.h [AV.a .i8 a,AV.a .i64 b,AV.a .i8 c,AV.a .i64 d])))) (not (ab 0 (gc e f a b))) (not (ab (gc g h c d) 0))):=by rfl
theorem Ot(a b c d e f g h:Int){Q:AV->Prop}:gG Q (pT zt jE 237 [.h [.a .i8 a,.a .i64 b,.a .i8 c,.a .i64 d],.h [.a .i8 e,.a .i64 f,.a .i8 g,.a .i64 h]]) (bE 151545)=((λ(u0:Bool)=>(u0->Q (AV.a .i64 (gc a b e f)))/\(u0=false->Q (AV.a .i64 (gc c d g h)))) (not (and (aa a e) (and (aa b f) true)))):=by rfl
def zw(x:List AV):Ac->Ac
 | none=>none
 | some (m,cs)=>some (m+1,cs++x)
def re(w:List AV)(j:Nat):List Bool:=[eB .i8 (w.getD j bt),eB .i64 (w.getD (j+1) bt),eB .i8 (w.getD (j+1+1) bt),eB .i64 (w.getD (j+1+1+1) bt)]
def nU(w:List AV)(j:Nat):Rn:=⟨dx (w.getD j bt),dx (w.getD (j+1) bt),dx (w.getD (j+1+1) bt),dx (w.getD (j+1+1+1) bt)⟩
def pA(s:Bool)(n:Nat)(K:fg):AV:=bif s then .c 14 0 n K else .c 16 0 n K
def pB(s:Bool)(v:List AV)(r:Rn):List cD:=bif s then[aah r]else[.a v true (some 4),aah r]
def pN(s:Bool):Nat:=bif s then 1 else 2
section
variable(v W cs:List AV)(n i m:Nat)(K:fg)(r:Rn)(k:Int)(J:Nat->Value){Q:VQ->Prop}
theorem rS(s:Bool):gG Q (rT kB jE [.a (bif s then v else W) false none] 162 1 85 [0,3,5,6] [pA s n K,.g 15 0,.a .i64 k,iV i] J ⟨pN s,pB s v r,[]⟩) (bE 11111111212444054444204)=ba n i (aS i n/\fu (re v (0+i*4)) (fu [af .i64 (nU v (0+i*4)).d,af .i64 r.d] (fk (abV (nU v (0+i*4)) r) (nR i (Q (.a,[pA s n K,.g 15 0,iV i,iX i],⟨pN s,pB s v r,[]⟩))) (nR i (Q (.a,[pA s n K,.g 15 0,.a .i64 k,iX i],⟨pN s,pB s v r,[]⟩)))))) (Q (.b 2,[pA s n K,.g 15 0,.a .i64 k,iV i],⟨pN s,pB s v r,[]⟩)):=by
 cases s<;>kernel_rfl
def tR(s:Bool)(st:AV×aB)(c:Prop->Prop)(Q:VQ->Prop):Prop:=ba n i (fk (not (aa (ν i) k)) (aS i n/\fu (re v (0+i*4)) (c (nR i (Q (.a,[pA s n K,.g 15 0,.a .i64 k,(ij 4 (rC (nU v (0+i*4))) [] st).1,iX i],(ij 4 (rC (nU v (0+i*4))) [] st).2))))) (nR i (Q (.a,[pA s n K,.g 15 0,.a .i64 k,st.1,iX i],st.2)))) (Q (.b 4,[pA s n K,.g 15 0,.a .i64 k,st.1,iV i],st.2))
theorem rR:∀(s:Bool) (ac:Ac),∃D,gG Q (rT kB jE [.a (bif s then v else W) false none] 162 2 85 [0,3,5,7,8] [pA s n K,.g 15 0,.a .i64 k,(w6 4 (pN s) (pB s v r) ac).1,iV i] J (w6 4 (pN s) (pB s v r) ac).2) D=tR v n i K k s (w6 4 (pN s) (pB s v r) ac) (nk 4 ac) Q
 | true,none=>⟨bE 1121111120544442044,by kernel_rfl⟩
 | false,none=>⟨bE 1121111120544442044,by kernel_rfl⟩
 | true,some (m,cs)=>⟨bE 112111112252044442044,by kernel_rfl⟩
 | false,some (m,cs)=>⟨bE 112111112252044442044,by kernel_rfl⟩
def tI(s:Bool)(st:AV×aB)(ac:Ac)(Q:VQ->Prop):Bool->Prop
 | true=>ba n i (aS i n/\fu (re v (0+i*4)) (nk 4 ac (nR i (Q (.a,[pA s n K,.g 15 0,(ij 4 (rC (nU v (0+i*4))) [] st).1,.b true,iX i],(ij 4 (rC (nU v (0+i*4))) [] st).2))))) (Q (.b 6,[pA s n K,.g 15 0,st.1,.b true,iV i],st.2))
 | false=>ba n i (aS i n/\fu (re v (0+i*4)) (fk (iM r (nU v (0+i*4))) (nk 4 ac (aS i n/\nE (re v (0+i*4)) (nk 4 (zw (rC r) ac) (nR i (Q (.a,[pA s n K,.g 15 0,(ij 4 (rC (nU v (0+i*4))) [] (ij 4 (rC r) [] st)).1,.b true,iX i],(ij 4 (rC (nU v (0+i*4))) [] (ij 4 (rC r) [] st)).2)))))) (aS i n/\nE (re v (0+i*4)) (nk 4 ac (nR i (Q (.a,[pA s n K,.g 15 0,(ij 4 (rC (nU v (0+i*4))) [] st).1,.b false,iX i],(ij 4 (rC (nU v (0+i*4))) [] st).2))))))) (Q (.b 6,[pA s n K,.g 15 0,st.1,.b false,iV i],st.2))
theorem rI:∀(d s:Bool) (ac:Ac),∃D,gG Q (rT kB jE [.a (bif s then v else W) false none] 162 3 85 [0,3,9,10,11] [pA s n K,.g 15 0,(w6 4 (pN s) (pB s v r) ac).1,.b d,iV i] J (w6 4 (pN s) (pB s v r) ac).2) D=tI v n i K r s (w6 4 (pN s) (pB s v r) ac) ac Q d
 | true,true,none=>⟨bE 11111120544442064,by kernel_rfl⟩
 | true,false,none=>⟨bE 11111120544442064,by kernel_rfl⟩
 | true,true,some (m,cs)=>⟨bE 1111112252044442064,by kernel_rfl⟩
 | true,false,some (m,cs)=>⟨bE 1111112252044442064,by kernel_rfl⟩
 | false,true,none=>⟨bE 1111112052270120005227064544440264,by kernel_rfl⟩
 | false,false,none=>⟨bE 1111112052270120005227064544440264,by kernel_rfl⟩
 | false,true,some (m,cs)=>⟨bE 1111112252022701225202270252054544440264,by kernel_rfl⟩
 | false,false,some (m,cs)=>⟨bE 1111112252022701225202270252054544440264,by kernel_rfl⟩
end
theorem SO(w cs:List AV)(kt:Int)(J:Nat->Value){Q:VQ->Prop}:gG Q (rT kB jE [.a w false none] 162 1 85 [0,3,5,6] [.f,.g 15 0,.a .i64 kt,.a .i64 0] J ⟨1,[.a cs true none],[]⟩) (.e .z)=(Q (AX.b 2,([AV.f,AV.g 15 0,AV.a .i64 kt,AV.a .i64 0],{ n:=1,os:=[cD.a cs true Option.none],le:=[] }))):=by rfl
theorem Sr(w cs:List AV)(dn:Bool)(J:Nat->Value){Q:VQ->Prop}:gG Q (rT kB jE [.a w false none] 162 3 85 [0,3,9,10,11] [.f,.g 15 0,.f,.b dn,.a .i64 0] J ⟨1,[.a cs true none],[]⟩) (.e .z)=(Q (AX.b 6,([AV.f,AV.g 15 0,AV.f,AV.b dn,AV.a .i64 0],{ n:=1,os:=[cD.a cs true Option.none],le:=[] }))):=by rfl
theorem alf:ec tab 236=some (dH 236,aL 236):=by rfl
theorem alg:ec tab 237=some (dH 237,aL 237):=by rfl
theorem ag1:ak Tryz.prog cfg zt:=eG aW Oz
theorem al5(hS:ak Tryz.prog cfg S):ak Tryz.prog cfg (d5 S 236 Cp):=by
 refine au hS λargs t v he hv=>?_;unfold Cp at he;split at he
 . rename_i a b c d e f g h;cases he;cases hv;refine kA ag1 (L:=jE) alf (by simp) ai (eD λQ' hQ=>cg ((Ow a b c d e f g h).mpr ?_)) (by rfl);grind [fD]
 grind
theorem anO(hS:ak Tryz.prog cfg S):ak Tryz.prog cfg (d5 S 237 Cm):=by
 refine au hS λargs t v he hv=>?_;unfold Cm at he;split at he
 . rename_i a b c d e f g h;cases he;cases hv;refine kA ag1 (L:=jE) alg (by simp) ai (eD λQ' hQ=>cg ((Ot a b c d e f g h).mpr ?_)) (by rfl);grind [gc,iI,In,ao]
 grind
theorem amP(hS:ak Tryz.prog cfg S):ak Tryz.prog cfg (d5 S 99 Cq):=by
 refine au hS λargs t v he hv=>?_;unfold Cq at he;split at he
 . rename_i a b c d e f g h;cases he;replace hv:=aF hv;obtain⟨⟨h1,h2,-⟩,hv⟩:=hv;cases hv;intro D m w hi hok;have hs:aiv [.h [.a .i8 a,.a .i64 b,.a .i8 c,.a .i64 d],.h [.a .i8 e,.a .i64 f,.a .i8 g,.a .i64 h]]=some (lu (af .i64 d) (lu (af .i64 h) (.a0 (.b (ada a b c d e f g h))))):=rfl;have hr:(lu (af .i64 d) (lu (af .i64 h) (Tr.a0 (AV.b (ada a b c d e f g h))))).b0=some (.b (abV ⟨a,b,c,d⟩ ⟨e,f,g,h⟩)):=by rw[h1,h2];rfl
   exact(af3 _ _ _ hs hr (Cw cfg []) D m ⟨0,[],[]⟩ w hi hok).a0 λV w' ⟨q1,q2,q3,_⟩=>⟨D,m,q1,q2,q3⟩
 grind
theorem aag:ak Tryz.prog cfg kB:=anO (al5 (amP aW))
theorem acG(h:i<R.length):(bh R).getD (0+i*4) (.d [])=.a .i8 (R.getD i ek).a/\(bh R).getD (0+i*4+1) (.d [])=.a .i64 (R.getD i ek).b/\(bh R).getD (0+i*4+1+1) (.d [])=.a .i8 (R.getD i ek).c/\(bh R).getD (0+i*4+1+1+1) (.d [])=.a .i64 (R.getD i ek).d:=by
 have:=afL (A:=bh (R.take i)) (B:=bh (R.drop (i+1))) (r:=R.getD i ek) (n:=i) (by grind [kC]);grind [abI]
theorem aka(h:pF R)(hi:i<R.length):af .i64 (R.getD i ek).d=true:=by
 grind [pF]
theorem ait{B:List cD}:n<=(adH n B L).n:=by
 cases L
 . exact π _
 . exact Nat.le_succ _
theorem aer:cR k (aah r):=⟨rfl,λi hi=>by grind [aah,HL,bw,aC]⟩
theorem ajv:∀z∈[aah r],cR k z:=λz hz=>by grind [aer]
theorem am7:∀z∈[cD.a (bh R) true (some 4),aah r],cR k z:=λz hz=>by
 grind [hH,aer]
theorem A1(h:i<R.length):R.take (i+1)=R.take i++[R.getD i ek]:=by
 simp_all
theorem aiA{e:Nat}(h:i<R.length):(R.take (i+1)).eraseIdx e=bif σ i e then(R.take i).eraseIdx e else(R.take i).eraseIdx e++[R.getD i ek]:=by
 have hl:(R.take i).length=i:=by grind
 rw[A1 h];by_cases h1:i=e
 . subst h1;rw[aJ.mpr rfl,cond_true,List.eraseIdx_append_of_length_le (by omega),hl,Nat.sub_self,List.eraseIdx_of_length_le (l:=R.take i) (by omega)];simp
 . rw[b9.mpr h1,cond_false];grind [List.eraseIdx_of_length_le]
theorem adU{r x:Rn}:∀{L:List Rn},iB r L->aaQ r (L++[x])=aaQ r L++[x]
 | [],h=>by cases h
 | y::L,h=>by
   unfold iB at h;rw[List.any_cons,Bool.or_eq_true]at h;show(bif iM r y then r::y::(L++[x])else y::aaQ r (L++[x]))=(bif iM r y then r::y::L else y::aaQ r L)++[x];cases hy:iM r y with
   | true=>rfl
   | false=>
     rw[hy]at h;rcases h with h|h
     . grind
     . rw[cond_false,cond_false,adU (L:=L) h];rfl
theorem ads{r:Rn}:∀{L M:List Rn},iB r L=false->aaQ r (L++M)=L++aaQ r M
 | [],M,_=>rfl
 | y::L,M,h=>by
   unfold iB at h;rw[List.any_cons,Bool.or_eq_false_iff]at h;show(bif iM r y then _ else y::aaQ r (L++M))=_;rw[h.1,cond_false,ads (L:=L) h.2];rfl
theorem afY{x:Rn}:iB r (L++[x])=(iB r L || iM r x):=by
 grind [iB]
theorem aew(h:i<R.length):q9 r (R.take (i+1))=(bif iB r (R.take i)then q9 r (R.take i)++[R.getD i ek]else bif iM r (R.getD i ek)then q9 r (R.take i)++[r,R.getD i ek]else q9 r (R.take i)++[R.getD i ek])/\iB r (R.take (i+1))=(iB r (R.take i) || iM r (R.getD i ek)):=by
 rw[A1 h,afY];refine⟨?_,rfl⟩;unfold q9;rw[afY];cases hd:iB r (R.take i)with
 | true=>grind [adU]
 | false=>
   rw[Bool.false_or,cond_false,cond_false];cases hx:iM r (R.getD i ek)with
   | true=>
     rw[cond_true,cond_true,ads hd];show _++(bif iM r (R.getD i ek)then[r,R.getD i ek]else _)=_;grind
   | false=>rfl
theorem ab5{r:Rn}:∀{L:List Rn},(aaQ r L).length=L.length+1
 | []=>rfl
 | y::L=>by
   show(bif iM r y then r::y::L else y::aaQ r L).length=_;cases iM r y
   . rw[cond_false,zAd,ab5];rfl
   . rfl
theorem afP:(q9 r L).length<=L.length+1:=by
 grind [q9,ab5]
theorem aic{r:Rn}{L:List Rn}:L.length<=(q9 r L).length:=by
 grind [q9,ab5]
theorem ad0(h:i<R.length):Tk (re (bh R) (0+i*4))/\nU (bh R) (0+i*4)=R.getD i ek:=by
 obtain⟨f1,f2,f3,f4⟩:=acG h;unfold re nU bt;rw[f1,f2,f3,f4];exact⟨⟨rfl,rfl,rfl,rfl,trivial⟩,rfl⟩
theorem ajl{X:Prop}(h:L.length<=2000)(hX:X):nk 4 (zw (rC r) (fF L)) X:=by
 cases L with
 | nil=>exact hX
 | cons y L=>
   have:=@abE (y::L++[r]) X (by simp at *;omega) hX;simp only[fF,τ,nk,zAe,zAd,List.length_nil]at this;simp only[fF,zw,nk,<-τ]
   rwa [<-τ,ym]at this
section
variable{R W:List Rn}{K:fg}{r:Rn}{s:Bool}{J:Nat->Value}{Q:VQ->Prop}
theorem JB:∀x∈[cD.a (bif s then bh R else bh W) false none],cR 14 x:=by
 cases s<;>exact jz
theorem ah3:∀b∈pB s (bh R) r,cR k b:=by
 cases s
 . exact am7
 . exact ajv
theorem ahx:(pB s (bh R) r).length=pN s:=by cases s<;>rfl
theorem Rv{e:Int}(ρ:List (Nat×Nat)):yw (kG (15+pN s) ρ 20) [pA s n K,.g 15 0,.a .i64 e]=some [pA s n K,.g 15 0,.a .i64 e]:=by cases s<;>rfl
theorem kS(h2:R.length<=1000)(h3:pF R)(h4:af .i64 r.d)(hq:Q (.b 2,[pA s R.length K,.g 15 0,.a .i64 (fA R r R.length),iV R.length],⟨pN s,pB s (bh R) r,[]⟩)):bN Tryz.prog (cH cfg kB) (Cw cfg [.a (bif s then bh R else bh W) false none]) (.loop (lb 162 1)) (tr 85 [0,3,5,6] [pA s R.length K,.g 15 0,.a .i64 (-1),.a .i64 0] J ⟨pN s,pB s (bh R) r,[]⟩) λr=>∃ax vs' o' J',Q (ax,vs',o')/\r=(ax,tr 85 [0,3,5,6] vs' J' o'):=by
 refine ia aag rfl rfl ai (ι:={i:Nat // i<=R.length}) (λx=>[pA s R.length K,.g 15 0,.a .i64 (fA R r x.1),iV x.1]) (λ_=>⟨pN s,pB s (bh R) r,[]⟩) (λx=>R.length-x.1) (pN s) (λ_=>π _) (λx J=>?_) (π _) (λJ=>Wk.a0 ⟨⟨0,Nat.zero_le _⟩,J,rfl⟩) J;obtain⟨i,hi⟩:=x;refine eD λQ' hQ=>cg ((rS _ _ _ i K r _ J s).mpr (abi hi (λhl=>?_) λh=>?_))
 . obtain⟨k1,k2⟩:=ad0 hl;rw[k2];refine⟨aU.2 hl,j6 (j6 ?_ (bs:=[_,_]) ⟨aka h3 hl,h4,trivial⟩) k1⟩;constructor<;>intro hb<;>refine aaH hl h2 (hQ _ ⟨⟨i+1,hl⟩,by dsimp only;omega,VW.b0 ?_ rfl⟩)<;>simp only[fA,hb,zAj]<;>rfl
 . subst h;exact hQ _ ⟨_,_,VW.a0,hq⟩
theorem kR{e:Nat}(h2:R.length<=1000)(hq:Q (.b 4,[pA s R.length K,.g 15 0,iV e,(w6 4 (pN s) (pB s (bh R) r) (fF (R.eraseIdx e))).1,iV R.length],(w6 4 (pN s) (pB s (bh R) r) (fF (R.eraseIdx e))).2)):bN Tryz.prog (cH cfg kB) (Cw cfg [.a (bif s then bh R else bh W) false none]) (.loop (lb 162 2)) (tr 85 [0,3,5,7,8] [pA s R.length K,.g 15 0,iV e,.f,.a .i64 0] J ⟨pN s,pB s (bh R) r,[]⟩) λr=>∃ax vs' o' J',Q (ax,vs',o')/\r=(ax,tr 85 [0,3,5,7,8] vs' J' o'):=by
 refine ia aag rfl rfl ai (ι:={i:Nat // i<=R.length}) (λx=>[pA s R.length K,.g 15 0,iV e,(w6 4 (pN s) (pB s (bh R) r) (fF ((R.take x.1).eraseIdx e))).1,iV x.1]) (λx=>(w6 4 (pN s) (pB s (bh R) r) (fF ((R.take x.1).eraseIdx e))).2) (λx=>R.length-x.1) (pN s) (λx=>afz) (λx J=>?_) (π _) (λJ=>Wk.a0 ⟨⟨0,Nat.zero_le _⟩,J,rfl⟩) J;obtain⟨i,hi⟩:=x;refine eD λQ' hQ=>?_;obtain⟨D,hD⟩:=@rR (bh R) (bh W) R.length i K r (ν e) J Q' s (fF ((R.take i).eraseIdx e));refine cg (hD.mpr (abi hi (λhl=>?_) λh=>?_))
 . obtain⟨k1,k2⟩:=ad0 hl;rw[k2];have nx:=aiA (e:=e) hl;constructor<;>intro hb
   . refine⟨aU.2 hl,j6 (abE (Nat.le_trans (List.length_eraseIdx_le _ _) (by simp;omega)) (aaH hl h2 (hQ _ ?_))) k1⟩;refine⟨⟨i+1,hl⟩,by dsimp only;omega,?_⟩;rw[show σ i e=false from Bool.not_eq_true' _▸hb]at nx;dsimp only;rw[nx];exact aeW (P:=[_,_,_]) (T:=[_]) aeH JB ahx ah3 Rv λ_=>rfl
   . refine aaH hl h2 (hQ _ ⟨⟨i+1,hl⟩,by dsimp only;omega,VW.b0 ?_ ?_⟩)<;>dsimp only<;>rw[nx,show σ i e=true from Bool.not_eq_false' _▸hb]<;>rfl
 . subst h;rw[List.take_length];exact hQ _ ⟨_,_,VW.a0,hq⟩
theorem Rs(ρ:List (Nat×Nat)):yw (kG (15+pN s) ρ 20) [pA s n K,.g 15 0]=some [pA s n K,.g 15 0]:=by cases s<;>rfl
theorem kI(h2:R.length<=1000)(hq:Q (.b 6,[pA s R.length K,.g 15 0,(w6 4 (pN s) (pB s (bh R) r) (fF (q9 r R))).1,.b (iB r R),iV R.length],(w6 4 (pN s) (pB s (bh R) r) (fF (q9 r R))).2)):bN Tryz.prog (cH cfg kB) (Cw cfg [.a (bif s then bh R else bh W) false none]) (.loop (lb 162 3)) (tr 85 [0,3,9,10,11] [pA s R.length K,.g 15 0,.f,.b false,.a .i64 0] J ⟨pN s,pB s (bh R) r,[]⟩) λr=>∃ax vs' o' J',Q (ax,vs',o')/\r=(ax,tr 85 [0,3,9,10,11] vs' J' o'):=by
 refine ia aag rfl rfl ai (ι:={i:Nat // i<=R.length}) (λx=>[pA s R.length K,.g 15 0,(w6 4 (pN s) (pB s (bh R) r) (fF (q9 r (R.take x.1)))).1,.b (iB r (R.take x.1)),iV x.1]) (λx=>(w6 4 (pN s) (pB s (bh R) r) (fF (q9 r (R.take x.1)))).2) (λx=>R.length-x.1) (pN s) (λx=>afz) (λx J=>?_) (π _) (λJ=>Wk.a0 ⟨⟨0,Nat.zero_le _⟩,J,rfl⟩) J;obtain⟨i,hi⟩:=x;refine eD λQ' hQ=>?_;obtain⟨D,hD⟩:=@rI (bh R) (bh W) R.length i K r J Q' (iB r (R.take i)) s (fF (q9 r (R.take i)));have hE:i=R.length->Q' (.b 6,[pA s R.length K,.g 15 0,(w6 4 (pN s) (pB s (bh R) r) (fF (q9 r (R.take i)))).1,.b (iB r (R.take i)),iV i],(w6 4 (pN s) (pB s (bh R) r) (fF (q9 r (R.take i)))).2):=λh=>by
  subst h;rw[List.take_length];exact hQ _ ⟨_,_,VW.a0,hq⟩
 have hX:∀{M d st},i<R.length->vI (pN s) (pB s (bh R) r) M st->q9 r (R.take (i+1))=M->iB r (R.take (i+1))=d->nR i (Q' (.a,[pA s R.length K,.g 15 0,st.1,.b d,iX i],st.2)):=λhl ha e1 e2=>aaH hl h2 (hQ _ (by
  refine⟨⟨i+1,hl⟩,by dsimp only;omega,?_⟩;dsimp only;rw[e1,e2];exact aeW (P:=[_,_]) (T:=[_,_]) ha JB ahx ah3 Rs λ_=>rfl))
 have ll:i<=R.length->(q9 r (R.take i)).length<=1001:=λh=>Nat.le_trans afP (by simp;omega);refine cg (hD.mpr ?_);cases hd:iB r (R.take i)<;>rw[hd]at hE
 . refine abi hi (λhl=>?_) hE;obtain⟨k1,k2⟩:=ad0 hl;obtain⟨n1,n2⟩:=aew (r:=r) hl;rw[hd]at n1 n2;rw[k2];refine⟨aU.2 hl,j6 ⟨λhb=>?_,λhb=>?_⟩ k1⟩<;>rw[hb]at n1 n2
   . refine abE (by have:=ll hi;omega) ⟨aU.2 hl,mz (ajl (by have:=ll hi;omega) (hX hl (aj4 aeH) (n1.trans ?_) n2)) k1⟩;simp
   . exact⟨aU.2 hl,mz (abE (by have:=ll hi;omega) (hX hl aeH n1 n2)) k1⟩
 . refine abi hi (λhl=>?_) hE;obtain⟨k1,k2⟩:=ad0 hl;obtain⟨n1,n2⟩:=aew (r:=r) hl;rw[hd]at n1 n2;rw[k2];exact⟨aU.2 hl,j6 (abE (by have:=ll hi;omega) (hX hl aeH n1 n2)) k1⟩
end
theorem ap0:cu Tryz.prog (cH cfg kB) (Cw cfg [.a (bh R) false none]) (lb 162 1) 85 [0,3,5,6] (EA R):=by
 intro vs o t Q hv hq J;unfold EA at hv;split at hv
 . rename_i n K kt i a b c d;cases hv;replace hq:=cO hq;obtain⟨⟨h1,h2,h3,h4,h5,h6,-⟩,hq⟩:=hq;rw[aJ]at h1;rw[al]at h2;rw[ao]at h5 h6;subst h1 h5 h6;exact kS (s:=true) (W:=[]) (r:=⟨a,b,c,d⟩) h2 h3 h4 hq
 . cases hv
theorem ao8:cu Tryz.prog (cH cfg kB) (Cw cfg [.a (bh W) false none]) (lb 162 1) 85 [0,3,5,6] (EV):=by
 intro vs o t Q hv hq J;unfold EV at hv;split at hv
 . rename_i n kt i v a b c d;cases hv;replace hq:=cO hq;obtain⟨⟨hr,h1,h2,h3,h4,h5,h6,-⟩,hq⟩:=hq;obtain⟨R,rfl⟩:∃R,v=bh R:=⟨g8 v,(hZ hr).symm⟩;rw[mZ]at *;rw[aJ]at h1;rw[al]at h2;rw[ao]at h5 h6;subst h1 h5 h6;exact kS (s:=false) (W:=W) (r:=⟨a,b,c,d⟩) h2 h3 h4 hq
 . cases hv
theorem aqn:cu Tryz.prog (cH cfg kB) (Cw cfg [.a (bh R) false none]) (lb 162 2) 85 [0,3,5,7,8] (Er R):=by
 intro vs o t Q hv hq J;unfold Er at hv;split at hv
 . rename_i n K kt i a b c d;cases hv;replace hq:=cO hq;obtain⟨⟨h1,h2,h3,h4,-⟩,hq⟩:=hq;rw[aJ]at h1;rw[al]at h2;rw[ao]at h3;rw[aq]at h4;obtain⟨e,rfl⟩:∃e:Nat,kt=ν e:=⟨kt.toNat,(Int.toNat_of_nonneg h4).symm⟩;subst h1 h3;refine kR (s:=true) (W:=[]) (r:=⟨a,b,c,d⟩) h2 ?_;rw[show oz R (ν e)=(R.eraseIdx e).length from rfl,show qA R (ν e)=R.eraseIdx e from rfl]at hq;cases h:R.eraseIdx e<;>rw[h]at hq<;>exact hq
 . cases hv
theorem aqb:cu Tryz.prog (cH cfg kB) (Cw cfg [.a (bh W) false none]) (lb 162 2) 85 [0,3,5,7,8] (Ey):=by
 intro vs o t Q hv hq J;unfold Ey at hv;split at hv
 . rename_i n kt i v a b c d;cases hv;replace hq:=cO hq;obtain⟨⟨hr,h1,h2,h3,h4,-⟩,hq⟩:=hq;obtain⟨R,rfl⟩:∃R,v=bh R:=⟨g8 v,(hZ hr).symm⟩;rw[mZ]at *;rw[aJ]at h1;rw[al]at h2;rw[ao]at h3;rw[aq]at h4;obtain⟨e,rfl⟩:∃e:Nat,kt=ν e:=⟨kt.toNat,(Int.toNat_of_nonneg h4).symm⟩;subst h1 h3;refine kR (s:=false) (W:=W) (r:=⟨a,b,c,d⟩) h2 ?_;rw[show oz R (ν e)=(R.eraseIdx e).length from rfl,show qA R (ν e)=R.eraseIdx e from rfl]at hq;cases h:R.eraseIdx e<;>rw[h]at hq<;>exact hq
 . cases hv
theorem aow:cu Tryz.prog (cH cfg kB) (Cw cfg [.a (bh R) false none]) (lb 162 3) 85 [0,3,9,10,11] (Du R):=by
 intro vs o t Q hv hq J;unfold Du at hv;split at hv
 . rename_i n K dn i a b c d;cases hv;replace hq:=cO hq;obtain⟨⟨h1,h2,h3,h4,h5,-⟩,hq⟩:=hq;rw[aJ]at h1;rw[al]at h2;replace h3:=yl h3;rw[ao]at h4;rw[al]at h5;subst h1 h3 h4;refine kI (s:=true) (W:=[]) (r:=⟨a,b,c,d⟩) h2 ?_;have hg:=@aic ⟨a,b,c,d⟩ R;unfold aaY at hq;cases h:q9 ⟨a,b,c,d⟩ R with
   | nil=>rw[h,List.length_nil]at hg;omega
   | cons y L=>rw[h]at hq;exact hq
 . cases hv
theorem aoA:cu Tryz.prog (cH cfg kB) (Cw cfg [.a (bh W) false none]) (lb 162 3) 85 [0,3,9,10,11] (Dv):=by
 intro vs o t Q hv hq J;unfold Dv at hv;split at hv
 . rename_i n dn i v a b c d;cases hv;replace hq:=cO hq;obtain⟨⟨hr,h1,h2,h3,h4,h5,-⟩,hq⟩:=hq;obtain⟨R,rfl⟩:∃R,v=bh R:=⟨g8 v,(hZ hr).symm⟩;rw[mZ]at *;rw[aJ]at h1;rw[al]at h2;replace h3:=yl h3;rw[ao]at h4;rw[al]at h5;subst h1 h3 h4;refine kI (s:=false) (W:=W) (r:=⟨a,b,c,d⟩) h2 ?_;have hg:=@aic ⟨a,b,c,d⟩ R;unfold aaY at hq;cases h:q9 ⟨a,b,c,d⟩ R with
   | nil=>rw[h,List.length_nil]at hg;omega
   | cons y L=>rw[h]at hq;exact hq
 . cases hv
theorem apR:cu Tryz.prog (cH cfg kB) (Cw cfg [.a (bh W) false none]) (lb 162 1) 85 [0,3,5,6] EW:=by
 intro vs o t Q hv hq J;unfold EW at hv;split at hv
 . rename_i kt cs;cases hv;refine ia aag rfl rfl ai (ι:=Unit) (λ_=>[.f,.g 15 0,.a .i64 kt,.a .i64 0]) (λ_=>⟨1,[.a cs true none],[]⟩) (λ_=>0) 1 (λ_=>π _) (λx J=>?_) (π _) (λJ=>Wk.a0 ⟨(),J,rfl⟩) J;refine eD λQ' hQ=>cg ((SO (bh W) cs kt J).mpr ?_);exact hQ _ ⟨_,_,VW.a0,hq⟩
 grind
theorem ao6:cu Tryz.prog (cH cfg kB) (Cw cfg [.a (bh W) false none]) (lb 162 3) 85 [0,3,9,10,11] DJ:=by
 intro vs o t Q hv hq J;unfold DJ at hv;split at hv
 . rename_i dn cs;cases hv;refine ia aag rfl rfl ai (ι:=Unit) (λ_=>[.f,.g 15 0,.f,.b dn,.a .i64 0]) (λ_=>⟨1,[.a cs true none],[]⟩) (λ_=>0) 1 (λ_=>π _) (λx J=>?_) (π _) (λJ=>Wk.a0 ⟨(),J,rfl⟩) J;refine eD λQ' hQ=>cg ((Sr (bh W) cs dn J).mpr ?_);exact hQ _ ⟨_,_,VW.a0,hq⟩
 grind
end Go.Ev
