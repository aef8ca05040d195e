import Derived.Test.YtcffhjfdlflbgaaGreatDoorP35
set_option linter.all false
open Nat renaming ble->ν,beq->ο,le_refl->σ
open Int renaming ofNat->ξ
open HAdd renaming hAdd->π
open List renaming getD->ς
open HMul renaming hMul->τ
set_option linter.all false
set_option maxRecDepth 100000
set_option maxHeartbeats 4000000
namespace Go.Ev
open Go Go.Proofs
variable{Q:AV->Prop}{S:aQ}{r:Rn}{R:List Rn}{K:fg}
def GG:aQ:=d5 (d5 (d5 (d5 (d5 (d5 gZ 19 X9) 22 ahD) 24 ai2) 68 YA) 71 alc) 70 ahu
def aiN:dP:=λ
 | [.g [.a .u8 f,.e ng,.a .u16 n,.a .u8 z0,.a .u8 z1,.a .u8 m,.a .u8 d,.a .u8 x,.a .u8 y,.a .u8 z,.a .u8 r,.a .u8 f',.e ng',.a .u16 n',.a .u8 z0',.a .u8 z1',.a .u8 m',.a .u8 d',.a .u8 x',.a .u8 y',.a .u8 z'],.e all]=>some (aH [Ip.ok ⟨⟨f,ng,n,z0,z1,m,d,x,y,z⟩,r,⟨f',ng',n',z0',z1',m',d',x',y',z'⟩⟩] (.a0 (.g (dp [abu all ⟨⟨f,ng,n,z0,z1,m,d,x,y,z⟩,r,⟨f',ng',n',z0',z1',m',d',x',y',z'⟩⟩]))))
 | _=>none
def dJ(k:Int)(x:Da):Bool:=(aa k 1&&fL x.ng x.lg x.s x.e x.g x.mo x.da x.a x.b x.c) || ((aa k 2 || aa k 3)&&dZ x.ng x.lg x.s x.e x.g x.mo x.da x.a x.b x.c)
def akm:dP:=λ
 | [.g [.a .u8 k,.e ng,.e lg,.f s,.a .i64 e,.a .i64 g,.f mo,.f da,.a .u8 a,.a .u8 b,.a .u8 c]]=>some (aH [dJ k ⟨ng,lg,s,e,g,mo,da,a,b,c⟩] (.a0 (.a .i64 0)))
 | _=>none
def jM(k:Int)(x:Da)(l:Int)(y:Da):Int:=bif !(aa k 1)&&!(aa l 1)then 11 else bif (aa k 1&&aa l 1)&&!(ab (aP x.ng x.s x.e x.mo x.da) (bq y.ng y.s y.e y.mo y.da))then 11 else 0
def aiH:dP:=λ
 | [.g [.a .u8 k,.e ng,.e lg,.f s,.a .i64 e,.a .i64 g,.f mo,.f da,.a .u8 a,.a .u8 b,.a .u8 c],.g [.a .u8 l,.e ng',.e lg',.f s',.a .i64 e',.a .i64 g',.f mo',.f da',.a .u8 a',.a .u8 b',.a .u8 c']]=>some (aH [dJ k ⟨ng,lg,s,e,g,mo,da,a,b,c⟩,dJ l ⟨ng',lg',s',e',g',mo',da',a',b',c'⟩] (.a0 (jM k ⟨ng,lg,s,e,g,mo,da,a,b,c⟩ l ⟨ng',lg',s',e',g',mo',da',a',b',c'⟩)))
 | _=>none
def w5(k:Int):Int:=bif aa (k%6) 0 then 2 else bif aa (k%6) 1 then 3 else 1
def qf(k:Int)(D:Dp):Da:=bif aa (k%6) 0 || aa (k%6) 1 then gL else D.e
def ak9:dP:=λ
 | [.g [.a .u8 k,.a .u8 f,.e ng,.a .u16 n,.a .u8 z0,.a .u8 z1,.a .u8 m,.a .u8 d,.a .u8 x,.a .u8 y,.a .u8 z]]=>some (aH [af .u8 k,Dp.ok ⟨f,ng,n,z0,z1,m,d,x,y,z⟩] (.a0 (.g (.a .u8 (w5 k)::(qf k ⟨f,ng,n,z0,z1,m,d,x,y,z⟩).cs))))
 | _=>none
def y8:aQ:=d5 (d5 gZ 46 tw) 126 ag_
def G1:aQ:=d5 (d5 gZ 69 akm) 70 ahu
def apz(f:Int)(ng:Bool)(n z0 z1 m d x y z r f':Int)(ng':Bool)(n' z0' z1' m' d' x' y' z':Int)(all:Bool):gG Q (pT GG jE 23 [.g [.a .u8 f,ng,.a .u16 n,.a .u8 z0,.a .u8 z1,.a .u8 m,.a .u8 d,.a .u8 x,.a .u8 y,.a .u8 z,.a .u8 r,.a .u8 f',ng',.a .u16 n',.a .u8 z0',.a .u8 z1',.a .u8 m',.a .u8 d',.a .u8 x',.a .u8 y',.a .u8 z'],all]) (bE 111111111104444444440061104006411111000661000566664400640566666640064006400)=((λ(u3 u4 u5 u6 u7:AV)(u0:Bool)(u1 u2:Dp)(u9 ua:List UInt8)=>(λ(uc ud uf:Da)(ug:Int)(ub ue:Prop)=>(λ(uh:Int)=>(λ(ui uj:Da)=>(λ(uu uv uw ux uy uz uA uB uC uD:AV)(uk up:Bool)(um ur:Int)(ul un uo uq us ut:List UInt8)=>(λ(uH uI:AV)(uE uF uG:Bool)=>(u0->(ub->(Dp.ok u2->(uE->(uF->(uG->Q (AV.g [up,uu,uq,uH,uv,us,ut,uw,ux,uy,u3,uk,uz,ul,uI,uA,un,uo,uB,uC,uD]))/\(uG=false->Q (AV.g [uk,uz,ul,uI,uA,un,uo,uB,uC,uD,u3,up,uu,uq,uH,uv,us,ut,uw,ux,uy])))/\(uF=false->False))/\(uE=false->False))/\(Dp.ok u2=false->False))/\ue)/\(u0=false->(all->(ub->Q (AV.g [(Da.ng uf),(Da.lg uf),(Da.s uf),(Da.e uf),(Da.g uf),(Da.mo uf),(Da.da uf),AV.a .u8 (Da.a uf),AV.a .u8 (Da.b uf),AV.a .u8 (Da.c uf),u4,u4,u4,u5,u6,u6,u5,u5,u7,u7,u7]))/\ue)/\(all=false->(af .u8 f->(af .u16 n->(af .u8 z0->(af .u8 z1->(af .u8 m->(af .u8 d->(af .u8 x->(af .u8 y->(af .u8 z->Q (AV.g [(qV f ng n z0 z1),(sY f),(gw f n z0 z1),(kQ f z1),(dr f n z0 z1),u9,ua,AV.a .u8 (Em ug 0 x),AV.a .u8 (Em ug 1 y),AV.a .u8 (Em ug 2 z),u4,u4,u4,u5,u6,u6,u5,u5,u7,u7,u7]))/\(af .u8 z=false->False))/\(af .u8 y=false->False))/\(af .u8 x=false->False))/\(af .u8 d=false->False))/\(af .u8 m=false->False))/\(af .u8 z1=false->False))/\(af .u8 z0=false->False))/\(af .u16 n=false->False))/\(af .u8 f=false->False)))) ur um (fL uk (Da.lg ui) ul um (Da.g ui) un uo (Da.a ui) (Da.b ui) (Da.c ui)) (fL up (Da.lg uj) uq ur (Da.g uj) us ut (Da.a uj) (Da.b uj) (Da.c uj)) (not (ab (aP uk ul um un uo) (aP up uq ur us ut)))) (Da.lg uj) (Da.g uj) (AV.a .u8 (Da.a uj)) (AV.a .u8 (Da.b uj)) (AV.a .u8 (Da.c uj)) (Da.lg ui) (Da.g ui) (AV.a .u8 (Da.a ui)) (AV.a .u8 (Da.b ui)) (AV.a .u8 (Da.c ui)) (Da.ng ui) (Da.ng uj) (Da.e ui) (Da.e uj) (Da.s ui) (Da.mo ui) (Da.da ui) (Da.s uj) (Da.mo uj) (Da.da uj)) (acC uc uh) (acC ud uh)) (gY (dq (Da.mo uc) (Da.da uc)) (dq (Da.mo ud) (Da.da ud)))) (Dp.p u1) (Dp.p u2) (Dp.e u1) (dq u9 ua) (Dp.ok u1=true) (Dp.ok u1=false->False)) true false (AV.f []) (AV.a .i64 0) (AV.a .u8 0) (aa (Int.tmod r 2) 1) (Dp.mk f ng n z0 z1 m d x y z) (Dp.mk f' ng' n' z0' z1' m' d' x' y' z') (jZ f n z0 z1 m) (nY f n z0 z1 m d)):=by kernel_rfl
theorem ap9(x:Da):gG Q (pT y8 jE 69 [.g (.a .u8 1::x.cs)]) (bE 103811114224420206242256)=((λ(u2 u3 u4:Bool)(u1:Int)(u0:Prop)=>(λ(u5 u6 u7:Prop)=>u0/\af .i64 x.4/\(u5->u5/\u5/\u0/\(u2->(u3->u5/\u5/\(u4->Q (AV.a .i64 11))/\(u4=false->u6))/\(u3=false->False))/\(u2=false->False))/\(u7->u7/\u7/\u7/\u7/\u6)) (aa u1 0=true) (Q u1) (aa u1 0=false)) (ν (List.length x.6) 1000) (ν (List.length x.7) 1000) (aa (bI (cK x.3 x.5 x.6 x.7)) 0) (bW x.1 x.2 x.3 x.4 x.5 x.6 x.7 x.8 x.9 x.10) (ν (List.length x.3) 1000=true)):=by rfl
theorem aoH(k:Int)(x:Da):gG Q (pT y8 jE 69 [.g (.a .u8 k::x.cs)]) (bE 11140066411400662430)=((λ(u1:Bool)(u0:Prop)=>(λ(u2:Prop)=>aa k 1=false/\(u0->u0/\u2)/\(aa k 2=false->(aa k 3->u2)/\(aa k 3=false->Q (AV.a .i64 18)))) ((u1->Q (AV.a .i64 5))/\(u1=false->Q (AV.a .i64 0)))) (not (and (and (bQ x.1 false) (and (bQ x.2 false) (and (ae x.3 []) (and (aa x.4 0) (and (aa x.5 0) true))))) (and (ae x.6 []) (and (ae x.7 []) (and (and (aa x.8 0) (and (aa x.9 0) (and (aa x.10 0) true))) true))))) (aa k 2=true)):=by rfl
theorem apx(k l:Int)(x y:Da):gG Q (pT G1 jE 21 [.g (.a .u8 k::x.cs),.g (.a .u8 l::y.cs)]) (bE 11111114400640064220220081038014220240045640006)=((λ(u0 u1 u4 u5 u6:Bool)(u2 u3:Prop)=>(λ(u7 u9 ua ub:Prop)=>(dJ k (Da.mk x.1 x.2 x.3 x.4 x.5 x.6 x.7 x.8 x.9 x.10)->(dJ l (Da.mk y.1 y.2 y.3 y.4 y.5 y.6 y.7 y.8 y.9 y.10)->(u7->u7/\u7/\u7/\(not u1->u2)/\(not u1=false->u9/\u9/\u9/\u9/\u3))/\(ua->ua/\ua/\ua/\ub/\ub/\ub/\ub/\(u1->(u4->(u5->(u6->u2)/\(u6=false->u3))/\(u5=false->False))/\(u4=false->False))/\(u1=false->u3)))/\(dJ l (Da.mk y.1 y.2 y.3 y.4 y.5 y.6 y.7 y.8 y.9 y.10)=false->False))/\(dJ k (Da.mk x.1 x.2 x.3 x.4 x.5 x.6 x.7 x.8 x.9 x.10)=false->False)) (not u0=true) (u0=false) (not u0=false) (u0=true)) (aa k 1) (aa l 1) (fL x.1 x.2 x.3 x.4 x.5 x.6 x.7 x.8 x.9 x.10) (fL y.1 y.2 y.3 y.4 y.5 y.6 y.7 y.8 y.9 y.10) (not (ab (aP x.1 x.3 x.4 x.6 x.7) (bq y.1 y.3 y.4 y.6 y.7))) (Q (AV.a .i64 11)) (Q (AV.a .i64 0))):=by rfl
theorem apy(k f:Int)(ng:Bool)(n z0 z1 m d x y z:Int):gG Q (pT yZ jE 20 [.g [.a .u8 k,.a .u8 f,ng,.a .u16 n,.a .u8 z0,.a .u8 z1,.a .u8 m,.a .u8 d,.a .u8 x,.a .u8 y,.a .u8 z]]) (bE 110400610410400)=((λ(u1 u2 u3 u4:AV)(u0 u5:Bool)(u6:Dp)=>(λ(u7:Da)=>(u0->Q (AV.g [AV.a .u8 2,u1,u1,u2,u3,u3,u2,u2,u4,u4,u4]))/\(u0=false->(u5->Q (AV.g [AV.a .u8 3,u1,u1,u2,u3,u3,u2,u2,u4,u4,u4]))/\(u5=false->(Dp.ok u6->Q (AV.g [AV.a .u8 1,(Da.ng u7),(Da.lg u7),(Da.s u7),(Da.e u7),(Da.g u7),(Da.mo u7),(Da.da u7),AV.a .u8 (Da.a u7),AV.a .u8 (Da.b u7),AV.a .u8 (Da.c u7)]))/\(Dp.ok u6=false->False)))) (Dp.e u6)) false (AV.f []) (AV.a .i64 0) (AV.a .u8 0) (aa (Int.tmod k 6) 0) (aa (Int.tmod k 6) 1) (Dp.mk f ng n z0 z1 m d x y z)):=by rfl
theorem ajd:ec eS 23=some (dH 23,aL 23):=by rfl
theorem afQ:ec eS 69=some (dH 69,aL 69):=by rfl
theorem aiW:ec eS 21=some (dH 21,aL 21):=by rfl
theorem aiq:ec eS 20=some (dH 20,aL 20):=by rfl
theorem akY:ak Tryz.prog cfg GG:=afd (akR (bm (ah6 (ae3 (UZ aW))) (MW 68 _ rfl)))
theorem ahC:ak Tryz.prog cfg y8:=afa (aeN aW)
theorem aj9{x:It}:aC (.g (dp [x]))=[]:=by rfl
theorem agW(hS:ak Tryz.prog cfg S):ak Tryz.prog cfg (d5 S 23 aiN):=by
 refine au hS λargs t v he hv=>?_;unfold aiN at he;split at he
 . rename_i f ng n z0 z1 m d x y z r f' ng' n' z0' z1' m' d' x' y' z' all;cases he;replace hv:=aF hv;obtain⟨⟨h0,-⟩,hv⟩:=hv;cases hv;obtain⟨⟨a1,a2⟩,⟨b1,b2⟩,-⟩:=ajw h0;have ea:=qd (show wa _ _ _ _ _ _ _ _ _ _=true from a1) (qc.1 (show eX _ _ _ _=true from a2)).1;have eb:=qd (show wa _ _ _ _ _ _ _ _ _ _=true from b1) (qc.1 (show eX _ _ _ _=true from b2)).1;unfold Ip.ok at h0;simp only[zAa]at h0;obtain⟨k1,k2,k3⟩:=h0;obtain⟨h1,h2,h3,h4,h5,h6,h7,h8,h9⟩:=Dp.a0.1 k1;dsimp only at h1 h2 h3 h4 h5 h6 h7 h8 h9;refine kA akY (L:=jE) ajd (by simp) ai (eD λQ' hQ=>cg ((apz f ng n z0 z1 m d x y z r f' ng' n' z0' z1' m' d' x' y' z' all).mpr ?_)) aj9;have hQ:=hQ _ rfl;rw[aE]at k2;simp only[eH,eE]at k2;have tm:Int.tmod r 2=r%2:=Int.tmod_eq_emod_of_nonneg k2.1;have i1:=aai h1;have i2:=ajR h2;have i3:=aai h3;have i4:=aai h4;have i5:=aai h5;have i6:=aai h6;have i7:=aai h7;have i8:=aai h8;have i9:=aai h9;unfold abu at hQ;dsimp only at hQ;unfold kD at hQ;unfold pV p_ qk at hQ;unfold pV qk at ea;unfold p_ qk at eb;dsimp only at hQ ea eb;try dsimp only
   rw[tm];cases hr:aa (r%2) 1 with
   | false=>
     rw[hr,cond_false]at hQ;cases all<;>simp only[zAj]at hQ<;>simp only[k1,i1,i2,i3,i4,i5,i6,i7,i8,i9,true_and,and_true,true_imp_iff,reduceCtorEq,false_imp_iff]<;>exact hQ
   | true=>
     rw[hr,cond_true]at hQ;generalize Dp.p ⟨f,ng,n,z0,z1,m,d,x,y,z⟩=X at *;generalize Dp.p ⟨f',ng',n',z0',z1',m',d',x',y',z'⟩=Y at *;rw[show gY (dq (Da.mo X) (Da.da X)) (dq (Da.mo Y) (Da.da Y))=gY (dq X.mo X.da) (dq Y.mo Y.da)from rfl];generalize acC X (gY (dq X.mo X.da) (dq Y.mo Y.da))=X at *;generalize acC Y (gY _ _)=Y at *;cases hl:ab (aP X.ng X.s X.e X.mo X.da) (aP Y.ng Y.s Y.e Y.mo Y.da)<;>rw[hl]at hQ<;>simp only[zAj]at hQ<;>simp only[k1,k3,ea,eb,hl,Bool.not_true,Bool.not_false,true_and,and_true,true_imp_iff,reduceCtorEq,false_imp_iff]<;>exact hQ
 grind
theorem acR{k:Int}{x:Da}:dJ k x=true↔(k=1/\fL x.ng x.lg x.s x.e x.g x.mo x.da x.a x.b x.c=true)\/((k=2\/k=3)/\dZ x.ng x.lg x.s x.e x.g x.mo x.da x.a x.b x.c=true):=by
 grind [dJ,ao]
theorem akQ(hS:ak Tryz.prog cfg S):ak Tryz.prog cfg (d5 S 69 akm):=by
 refine au hS λargs t v he hv=>?_;unfold akm at he;split at he
 . rename_i k ng lg s e g mo da a b c;cases he;replace hv:=aF hv;obtain⟨⟨h0,-⟩,hv⟩:=hv;cases hv;rcases acR.1 h0 with⟨rfl,hx⟩|⟨hk,hz⟩
   . refine kA ahC (L:=jE) afQ (by simp) ai (eD λQ' hQ=>cg ((ap9 ⟨ng,lg,s,e,g,mo,da,a,b,c⟩).mpr ?_)) (by rfl);have hQ:=hQ _ rfl;obtain⟨h6,i1,i2,i3,i4,e0,nx,rfl⟩:=ye.1 hx;dsimp only at h6 i1 i2 i3 i4 e0 nx;have hn:cK s 0 mo da=true:=by unfold cK;rw[nx];rfl
     have d0:=Cc e0;have nl:∀l:List UInt8,H4 l->ν l.length 1000=true:=λl hl=>by
      rcases x5 hl with rfl|⟨u,v,rfl,-⟩<;>rfl
     obtain⟨_,_,p3,p4,_⟩:=aaj e0 nx h6;simp_all [aa,bI]
   . refine kA ahC (L:=jE) afQ (by simp) ai (eD λQ' hQ=>cg ((aoH k ⟨ng,lg,s,e,g,mo,da,a,b,c⟩).mpr ?_)) (by rfl);have hQ:=hQ _ rfl;unfold dZ at hz;try dsimp only at hz ⊢
     have k1:aa k 1=false:=aw.mpr (by omega);rw[show(and (and (bQ ng false) (and (bQ lg false) (and (ae s []) (and (aa e 0) (and (aa g 0) true))))) (and (ae mo []) (and (ae da []) (and (and (aa a 0) (and (aa b 0) (and (aa c 0) true))) true))))=true from hz];rcases hk with rfl|rfl<;>simp_all [aa]
 grind
theorem aky:ak Tryz.prog cfg G1:=afd (akQ aW)
theorem agM(hS:ak Tryz.prog cfg S):ak Tryz.prog cfg (d5 S 21 aiH):=by
 refine au hS λargs t v he hv=>?_;unfold aiH at he;split at he
 . rename_i k ng lg s e g mo da a b c l ng' lg' s' e' g' mo' da' a' b' c';cases he;replace hv:=aF hv;obtain⟨⟨h1,h2,-⟩,hv⟩:=hv;cases hv;refine kA aky (L:=jE) aiW (by simp) ai (eD λQ' hQ=>cg ((apx k l ⟨ng,lg,s,e,g,mo,da,a,b,c⟩ ⟨ng',lg',s',e',g',mo',da',a',b',c'⟩).mpr ?_)) (by rfl);have hQ:=hQ _ rfl;unfold jM at hQ;try dsimp only at hQ ⊢
   have x1:aa k 1->fL ng lg s e g mo da a b c=true:=λq=>by
    grind [ao,acR]
   have x2:aa l 1->fL ng' lg' s' e' g' mo' da' a' b' c'=true:=λq=>by
    grind [ao,acR]
   cases hk:aa k 1<;>cases hl:aa l 1<;>rw[hk,hl]at hQ<;>simp only[zAi,Bool.and_false,Bool.false_and,zAj]at hQ<;>grind
 grind
theorem akJ(hS:ak Tryz.prog cfg S):ak Tryz.prog cfg (d5 S 20 ak9):=by
 refine au hS λargs t v he hv=>?_;unfold ak9 at he;split at he
 . rename_i k f ng n z0 z1 m d x y z;cases he;replace hv:=aF hv;obtain⟨⟨h1,h2,-⟩,hv⟩:=hv;cases hv;refine kA aid (L:=jE) aiq (by simp) ai (eD λQ' hQ=>cg ((apy k f ng n z0 z1 m d x y z).mpr ?_)) (by rfl);have hQ:=hQ _ rfl;rw[aE]at h1;simp only[eH,eE]at h1;have tm:Int.tmod k 6=k%6:=Int.tmod_eq_emod_of_nonneg h1.1;unfold w5 qf at hQ;try dsimp only
   rw[tm];cases h0:aa (k%6) 0<;>cases h3:aa (k%6) 1<;>rw[h0,h3]at hQ<;>simp only[Bool.or_true,Bool.or_false,zAj]at hQ<;>simp only[h2,true_and,and_true,true_imp_iff,reduceCtorEq,false_imp_iff]<;>exact hQ
 grind
def xt(l:List Rn)(r:Rn):Nat:=(aaJ l r).length
def akh:aav:=λ
 | [.d,.g [.a .i8 a,.a .i64 b,.a .i8 c,.a .i64 d]],[]=>some (.a0 (.b 14 0 1 (.a 0),[.a [.a .i8 a,b,.a .i8 c,d] true (some 4)]))
 | [.b 14 0 n K,.g [.a .i8 a,.a .i64 b,.a .i8 c,.a .i64 d]],[.a w false none]=>some (aH [eJ w,ο (g8 w).length n,ν 1 n,ν n 900,af .i64 b,af .i64 d] (.a0 (.b 15 0 (xt (g8 w) ⟨a,b,c,d⟩) (.a 0),[.a (bh (aaJ (g8 w) ⟨a,b,c,d⟩)) true (some 4)])))
 | _,_=>none
def Gy:aQ:=eQ gZ 162 (fl 14 [4] akh)
def cA(R:List Rn)(i:Nat):List Rn:=(R.take i).foldl aaJ []
def pP(R:List Rn):Nat:=(cA R R.length).length
def Dr(R:List Rn):dW:=λ
 | [.b 14 0 n K,.d,.a .i64 i],⟨0,[],[]⟩=>some (aH [ο R.length n,ν 1 n,ν n 900,aa i 0] (.a0 (.b 0,[.b 14 0 n K,.b 15 0 (pP R) (.a 0),(ξ n)],⟨1,[.a (bh (cA R n)) true (some 4)],[]⟩)))
 | _,_=>none
def ME(R:List Rn):cx:=iz jE 0 (d9 18 [0,3,4] (Dr R))
theorem ajp{s:Rn}{P:List Rn}:aaQ s P=bif iB s P then q9 s P else q9 s P++[s]:=by
 unfold q9;cases h:iB s P with
 | true=>rfl
 | false=>
   rw[cond_false,cond_false];have:=@ads s P [] h;rw[List.append_nil]at this;exact this
theorem adt:∀{n:Nat} {L:List Rn} {r:Rn},(W1 n L r).1.length<=L.length
 | 0,L,r=>σ _
 | n+1,L,r=>by
   show(bif ab 0 (fA L r L.length)then W1 n (L.eraseIdx (fA L r L.length).toNat) (fD (L.getD (fA L r L.length).toNat fo) r)else(L,r)).1.length<=_;cases ab 0 (fA L r L.length)with
   | true=>rw[cond_true];exact Nat.le_trans adt (List.length_eraseIdx_le _ _)
   | false=>simp
theorem aee:∀{n:Nat} {L:List Rn} {r:Rn},eJ (bh L)->(af .i64 r.b/\af .i64 r.d=true)->eJ (bh (W1 n L r).1)/\(af .i64 (W1 n L r).2.b/\af .i64 (W1 n L r).2.d=true)
 | 0,L,r,h1,h2=>⟨h1,h2⟩
 | n+1,L,r,h1,h2=>by
   show eJ (bh (bif ab 0 (fA L r L.length)then W1 n (L.eraseIdx (fA L r L.length).toNat) (fD (L.getD (fA L r L.length).toNat fo) r)else(L,r)).1)/\(af .i64 (bif ab 0 (fA L r L.length)then W1 n (L.eraseIdx (fA L r L.length).toNat) (fD (L.getD (fA L r L.length).toNat fo) r)else(L,r)).2.b/\af .i64 (bif ab 0 (fA L r L.length)then W1 n (L.eraseIdx (fA L r L.length).toNat) (fD (L.getD (fA L r L.length).toNat fo) r)else(L,r)).2.d=true);cases h:ab 0 (fA L r L.length)with
   | true=>
     rw[cond_true];obtain⟨i,i1,i2,i3⟩:=acd h;rw[i2];exact aee (abF h1) (ad8 (wy h1 i1) h2)
   | false=>grind
theorem ai5:∀{L:List Rn},eJ (bh L)->(af .i64 r.b/\af .i64 r.d=true)->eJ (bh (aaQ r L))=true:=λ{L} h1 h2=>by
 grind [abh,acb]
theorem ajq{L:List Rn}(h1:eJ (bh L))(h2:af .i64 r.b/\af .i64 r.d):eJ (bh (aaJ L r))=true:=by
 obtain⟨a,b⟩:=aee (n:=L.length) h1 h2;exact ai5 a b
theorem aeB{L:List Rn}{r:Rn}:1<=(aaJ L r).length/\(aaJ L r).length<=L.length+1:=by
 grind [aaJ,ab5,adt,jF]
theorem aoU(hR:eJ (bh R))(h1:1<=R.length)(hn:R.length<=900)(hr:af .i64 r.b/\af .i64 r.d):bu Tryz.prog cfg 162 [.b 14 0 R.length K,.g [.a .i8 r.a,r.b,.a .i8 r.c,r.d]] [.a (bh R) false none] (.b 15 0 (aaJ R r).length (.a 0)) [.a (bh (aaJ R r)) true (some 4)]:=by
 refine Bu aag (L:=MV R r) akK (by simp) (dv aiE λi hi e he st Q hw=>?_) (jJ (bE 1111114540542002211111114540542004441064427424) (R:=λQ=>(λ(O P T V W Y:Bool)(A:fg)(E F U Z:List AV)(N:Nat)=>(λ(B H:cD)(G u0 u1:Bool)(C:List Rn)=>(λ(u5:cD)(u2 u3 u4:Bool)(I:List AV)=>(λ(u6:Bool)=>(G->O/\(P->aa (Rn.a r) (Rn.a r)/\aa (Rn.b r) (Rn.b r)/\aa (Rn.c r) (Rn.c r)/\aa (Rn.d r) (Rn.d r)/\(u0->(T->(∀J1 J2:Nat->Value,Q (.b 17 0 1 A,⟨3,[.a E true (some 4),B,B],[]⟩)))/\(T=false->(∀J1:Nat->Value,(eJ U->(u2->(V->ν 1 (oM R r)/\(∀J2:Nat->Value,(u3->(u4->(u6->Q (.b 19 0 (π (aaY (f_ R r) C) 1) A,⟨5,[.a (I++E) true (some 4),B,cD.b,u5,B],[]⟩))/\(u6=false->False))/\(u4=false->False))/\(u3=false->Q (.b 17 0 (aaY (f_ R r) C) A,⟨3,[.a I true (some 4),u5,B],[]⟩))))/\(V=false->False))/\(u2=false->False))/\(eJ U=false->False))))/\(u0=false->(∀J1:Nat->Value,G/\O/\ν 1 R.length/\(∀J2:Nat->Value,(W->(Y->(u1->Q (.b 18 0 (π (aaY r R) 1) A,⟨4,[.a (F++Z) true (some 4),H,cD.b,H],[]⟩))/\(u1=false->False))/\(Y=false->False))/\(W=false->Q (.b 16 0 (aaY r R) A,⟨2,[.a F true (some 4),H],[]⟩))))))/\(P=false->False))/\(G=false->False)) (and true (ο I.length (τ (aaY (f_ R r) C) 4)))) (.a (bh C) true (some 4)) (ο C.length (oM R r)) (not (iB (f_ R r) C)) (and (and (ν (π (aaY (f_ R r) C) 1) 1000000) true) true) (bh (q9 (f_ R r) C))) (.a E true none) (.a Z true none) (ο N R.length) (ab 0 (fA R r N)) (and true (ο F.length (τ (aaY r R) 4))) (g8 U)) (ν R.length 1000) (af .i64 (Rn.d r)) (ο (oM R r) 0) (ν (oM R r) 1000) (not (iB r R)) (and (and (ν (π (aaY r R) 1) 1000000) true) true) (fg.a 0) [.a .i8 (Rn.a (f_ R r)),(Rn.b (f_ R r)),.a .i8 (Rn.c (f_ R r)),(Rn.d (f_ R r))] (bh (q9 r R)) (bh (jF R r)) [.a .i8 (Rn.a r),(Rn.b r),.a .i8 (Rn.c r),(Rn.d r)] R.length) (λ_=>by rfl) λQ' hQ=>?_)
 . have hi:i=0\/i=1\/i=2\/i=3:=by grind
   rcases hi with rfl|rfl|rfl|rfl
   . cases he;exact bR (cC.a0 aag) (by decide) rfl (R_ hR h1 hr.1) hw
   . cases he
   . cases he
   . cases he;exact bR (cC.a0 aag) (by decide) rfl (adj aow (adj aoA ao6)) hw
 . try dsimp only
   have hw:=@jz R;have bb:∀n:Nat,ο n n=true:=λn=>aJ.mpr rfl;have ee:∀n:Int,aa n n=true:=λn=>ao.mpr rfl;have hn1:ν R.length 1000=true:=al.mpr (by omega);have h1':ν 1 R.length=true:=al.mpr h1;obtain⟨pi,si⟩:=aee (n:=R.length) hR hr;have pl:=@adt R.length R r;have go:∀(n k m:Nat) (os:List cD) (cs:List AV),cs=bh (aaJ R r)->m=(aaJ R r).length->k<n->os.getD (n-1-k) .b=.a cs true (some 4)->Q' (.b (15+k) 0 m (.a 0),⟨n,os,[]⟩):=λn k m os cs e1 e2 hk he=>by
    subst e1 e2;refine hQ _ (dL.at hw rfl hk he hH ?_);grind [To,xx,aU,gm,kG,ob]
   have lo:(q9 (f_ R r) (jF R r)).length<=R.length+1:=Nat.le_trans afP (by unfold jF;omega);have ep:aaJ R r=bif iB (f_ R r) (jF R r)then q9 (f_ R r) (jF R r)else q9 (f_ R r) (jF R r)++[f_ R r]:=ajp
   try dsimp only
   rw[mZ];cases ht:ab 0 (fA R r R.length)with
   | false=>
     have e0:jF R r=R/\f_ R r=r:=by grind [jF,f_,adJ]
     rw[e0.1,e0.2]at ep lo;have m1:ν (aaY r R+1) 1000000=true:=al.mpr (by unfold aaY;omega);grind [bh,aaY,kC,ym]
   | true=>
     have m1:ν (aaY (f_ R r) (jF R r)+1) 1000000=true:=al.mpr (by unfold aaY;omega);have m2:ο (bh (q9 (f_ R r) (jF R r))).length (aaY (f_ R r) (jF R r)*4)=true:=aJ.mpr (by unfold aaY;rw[kC]);have m3:eJ (bh (jF R r))=true:=pi;have m4:ν (oM R r) 1000=true:=al.mpr (by grind [oM,jF]);have m5:ο (jF R r).length (oM R r)=true:=aJ.mpr rfl;have sd:af .i64 (f_ R r).d=true:=si.2;simp only[bb,ee,hn1,h1',hr.2,true_and,and_true,true_imp_iff,reduceCtorEq,false_imp_iff];refine⟨λhz=>?_,λhz=>?_⟩
     . rw[aJ]at hz;have hnil:jF R r=[]:=List.eq_nil_of_length_eq_zero hz;have ep2:aaJ R r=[f_ R r]:=by unfold aaJ;rw[hnil];rfl
       grind [bh]
     . have m6:ν 1 (oM R r)=true:=al.mpr (by rw[b9]at hz;omega);simp only[m1,m2,m3,m4,m5,m6,sd,ee,zAi,true_and,and_true,true_imp_iff,reduceCtorEq,false_imp_iff];intro _ _;cases hd:iB (f_ R r) (jF R r)with
       | true=>
         rw[hd,cond_true]at ep;exact⟨λh=>(by cases h),λ_=>go 3 2 _ _ _ (by rw[ep]) (by rw[ep];rfl) (by decide) rfl⟩
       | false=>
         rw[hd,cond_false]at ep;exact⟨λ_=>go 5 4 _ _ (bh (q9 (f_ R r) (jF R r))++bh [f_ R r]) (by rw[ep,ym]) (by rw[ep,zAe];rfl) (by decide) rfl,λh=>(by cases h)⟩
theorem Ri:bu Tryz.prog cfg 162 [.d,.g [.a .i8 r.a,r.b,.a .i8 r.c,r.d]] [] (.b 14 0 1 (.a 0)) [.a (bh [r]) true (some 4)]:=by
 refine Cs aag ai (bE 156) (R:=λQ=>(λ(A:List AV)=>(λ(B:cD)=>Q (.b 16 0 1 (fg.a 0),⟨3,[.a A true (some 4),B,B],[]⟩)) (.a A true none)) [.a .i8 r.1,r.2,.a .i8 r.3,r.4]) (λ_=>by rfl) λQ' hQ=>?_;try dsimp only
 exact hQ _ (dL.at (k:=2) (λx hx=>by grind) rfl (by simp) rfl (hH (R:=[r])) rfl)
theorem akL(hS:ak Tryz.prog cfg S):ak Tryz.prog cfg (eQ S 162 (fl 14 [4] akh)):=by
 refine bm hS (fW dI.lv Az λargs ws t r he hr=>?_);unfold akh at he;split at he
 . rename_i a b c d;cases he;cases hr;exact⟨Ri (r:=⟨a,b,c,d⟩),λx hx=>by rw[List.mem_singleton.1 hx];exact hH (R:=[⟨a,b,c,d⟩])⟩
 . rename_i n K a b c d w;cases he;replace hr:=aF hr;obtain⟨⟨h1,h2,h3,h4,h5,h6,-⟩,hr⟩:=hr;rw[aJ]at h2;rw[al]at h3 h4;have ew:=hZ h1;generalize g8 w=R at *;subst h2 ew;cases hr;exact⟨aoU (r:=⟨a,b,c,d⟩) h1 h3 h4 ⟨h5,h6⟩,λx hx=>by grind [hH]⟩
 grind
theorem afl:ak Tryz.prog cfg Gy:=akL aW
theorem alk:ec eS 90=some (dH 90,aL 90):=by rfl
theorem aiT:(bz (aL 90)).map (·.1)=[0]:=by rfl
theorem adn{i:Nat}(h:i<R.length):cA R (i+1)=aaJ (cA R i) (R.getD i fo):=by
 grind [cA,A1]
theorem ahs{R:List Rn}(hR:eJ (bh R)):∀{i:Nat},i<=R.length->eJ (bh (cA R i))/\(cA R i).length<=i/\(1<=i->cA R i≠[])
 | 0,_=>⟨rfl,σ _,λh=>by omega⟩
 | i+1,h=>by
   obtain⟨h1,h2,-⟩:=ahs hR (i:=i) (by omega);grind [adn,aeB,ajq,wy]
theorem aoF(hR:eJ (bh R)):cu Tryz.prog (cH cfg Gy) (Cw cfg [.a (bh R) false none]) (lb 90 0) 18 [0,3,4] (Dr R):=by
 have hw:=@jz R;intro vs o t Q hv hq J;unfold Dr at hv;split at hv
 . rename_i n K i;cases hv;replace hq:=cO hq;obtain⟨⟨h1,h2,h3,h4,-⟩,hq⟩:=hq;rw[aJ]at h1;rw[al]at h2 h3;rw[ao]at h4;subst h1 h4;simp only[aH,Tr.wp]at hq;refine ia afl rfl rfl ai (ι:={i:Nat // i<=R.length}) (λx=>[.b 14 0 R.length K,aey 15 (cA R x.1),(ξ x.1)]) (λx=>adH 0 [] (cA R x.1)) (λx=>R.length-x.1) 0 (λ_=>Nat.zero_le _) (λx J=>?_) (σ _) (λJ=>Wk.a0 ⟨⟨0,Nat.zero_le _⟩,J,rfl⟩) J;obtain⟨i,hi⟩:=x;dsimp only;have kk:∀(a:IntKind) (n:Int),eB a (.a a n)=true:=λa n=>by cases a<;>rfl
   have io:∀(a:IntKind) (n:Int),dx (.a a n)=n:=λ_ _=>rfl;have facts:i<R.length->ab (ξ R.length) (ξ i)=false/\aS i R.length/\af .i64 (Int.add (ξ i) 1)=true:=λh=>⟨by grind [bF],aU.2 h,by grind [aE,eH,eE]⟩;obtain⟨a1,a2,a3⟩:=ahs hR hi;have nx:i<R.length->cA R (i+1)=aaJ (cA R i) (R.getD i fo):=adn;by_cases hi0:i=0
   . subst hi0;have hlt:0<R.length:=by omega
     obtain⟨j1,j2,j3⟩:=facts hlt;refine jJ (bE 10022702) (R:=λQ=>(λ(A:AV)=>(λ(B C E F:AV)=>not (ab (ξ R.length) 0)/\aS 0 R.length/\eB .i8 B/\eB .i64 C/\eB .i8 E/\eB .i64 F/\Q (.a,[.b 14 0 R.length K,.b 15 0 1 (fg.a 0),.a .i64 1],⟨1,[.a [.a .i8 (dx B),(dx C),.a .i8 (dx E),(dx F)] true (some 4)],[]⟩)) (ς (bh R) 0 A) (ς (bh R) 1 A) (ς (bh R) 2 A) (ς (bh R) 3 A)) (.c [])) (λ_=>by rfl) λQ' hQ=>?_;try dsimp only
     obtain⟨f1,f2,f3,f4⟩:=acG hlt;have go:Q' (AX.a,([.b 14 0 R.length K,.b 15 0 1 (.a 0),.a .i64 1],⟨1,[.a (bh [R.getD 0 fo]) true (some 4)],[]⟩)):=by
      refine hQ _ ⟨⟨1,hlt⟩,by grind,?_⟩;dsimp only;rw[nx hlt];exact VW.b0 rfl rfl
     grind [bh]
   . have hne:=a3 (by omega);rw[(aaT (b:=15) (n:=0) (B:=[]) hne).1,(aaT (b:=15) (n:=0) (B:=[]) hne).2];refine jJ (bE 112777704) (R:=λQ=>(λ(A I:AV)(B:Int)(C:List AV)(G H:Nat)=>(λ(V:cD)(O:AV)(N:Bool)(U:Int)(E:List AV)(T:Nat)=>(λ(W:AV)(F:List Rn)(Y:Nat)=>(λ(Z u0:AV)=>(λ(u1:Rn)=>(N->aS i R.length/\eB .i8 O/\eB .i64 W/\eB .i8 Z/\eB .i64 u0/\and true (and (ν (π 0 H) C.length) (bc 14 E))/\eJ E/\ο F.length (cA R i).length/\ν 1 (cA R i).length/\ν (cA R i).length 900/\af .i64 (dx W)/\af .i64 (dx u0)/\af .i64 U/\Q (.a,[I,.b 16 0 (xt F u1) (fg.a 0),U],⟨2,[.a (bh (aaJ F u1)) true (some 4),V],[]⟩))/\(N=false->Q (.b 0,[I,.b 15 0 (cA R i).length (fg.a 0),B],⟨1,[V],[]⟩))) (Rn.mk (dx O) (dx W) (dx Z) (dx u0))) (ς (bh R) Y A) (ς (bh R) (π Y 1) A)) (ς (bh R) T A) (g8 E) (π T 1)) (.a C true (some 4)) (ς (bh R) G A) (not (ab (ξ R.length) B)) (Int.add B 1) (b_ C 0 H) (π G 1)) (.c []) (.b 14 0 R.length K) (ξ i) (bh (cA R i)) (π 0 (τ i 4)) (τ (cA R i).length 4)) (λ_=>by rfl) λQ' hQ=>?_;try dsimp only
     have hpos:=List.length_pos_iff.2 hne;by_cases hlt:i<R.length
     . obtain⟨j1,j2,j3⟩:=facts hlt;obtain⟨f1,f2,f3,f4⟩:=acG hlt;have hin:=wy hR hlt;have hw4:b_ (bh (cA R i)) 0 ((cA R i).length*4)=bh (cA R i):=by
        grind [b_,kC]
       have l1:ν (0+(cA R i).length*4) (bh (cA R i)).length=true:=by rw[al,kC];omega
       have l2:ο (cA R i).length (cA R i).length=true:=aJ.mpr rfl;have l3:ν 1 (cA R i).length=true:=al.mpr hpos;have l4:ν (cA R i).length 900=true:=al.mpr (by omega);have go:Q' (AX.a,([.b 14 0 R.length K,.b 16 0 (xt (cA R i) (R.getD i fo)) (.a 0),(Int.add (ξ i) 1)],⟨2,[.a (bh (aaJ (cA R i) (R.getD i fo))) true (some 4),.a (bh (cA R i)) true (some 4)],[]⟩)):=by
        refine hQ _ ⟨⟨i+1,hlt⟩,by dsimp only;omega,?_⟩;dsimp only;rw[nx hlt];unfold xt;have hp:=@aeB (cA R i) (R.getD i fo);have hn2:aaJ (cA R i) (R.getD i fo)≠[]:=λe=>by rw[e]at hp;simp at hp
        rw[(aaT (b:=15) (n:=0) (B:=[]) hn2).1,(aaT (b:=15) (n:=0) (B:=[]) hn2).2];exact aeh (k:=1) hw (by decide) rfl hH rfl
       rw[hw4,ma,mZ];generalize R.getD i fo=x at *;simp only[f1,f2,f3,f4,kk,io,j1,j2,j3,a1,l1,l2,l3,l4,hin.1,hin.2,Bool.and_true,Bool.not_false,true_and,and_true,true_imp_iff,reduceCtorEq,false_imp_iff];exact go
     . obtain rfl:i=R.length:=by omega
       have j1:ab (ξ R.length) (ξ R.length)=true:=by rw[aq];exact Int.le_refl _
       simp only[j1,Bool.not_true,true_and,and_true,true_imp_iff,reduceCtorEq,false_imp_iff];exact hQ _ ⟨_,_,VW.a0,hq⟩
 . cases hv
theorem Jy(hR:eJ (bh R))(h1:1<=R.length)(hn:R.length<=900):bu Tryz.prog cfg 90 [.b 14 0 R.length K] [.a (bh R) false none] (.b 15 0 (pP R) (.a 0)) [.a (bh (cA R R.length)) true (some 4)]:=by
 refine Bu afl (L:=ME R) alk (by simp) (dv aiT λi hi e he st Q hw=>?_) (jJ (bE 107) (R:=λQ=>ο R.length R.length/\ν 1 R.length/\ν R.length 900/\(∀J1:Nat->Value,Q (.b 15 0 (pP R) (fg.a 0),⟨1,[.a (bh (cA R R.length)) true (some 4)],[]⟩))) (λ_=>by rfl) λQ' hQ=>?_)
 . have hi:i=0:=by grind
   subst hi;cases he;exact bR (cC.a0 afl) (by decide) rfl (aoF hR) hw
 . try dsimp only
   rw[show ο R.length R.length=true from aJ.mpr rfl];simp only[al.mpr h1,al.mpr hn,true_and,and_true,true_imp_iff,reduceCtorEq,false_imp_iff];exact λ_=>hQ _ dL.b0
def Fj:aav:=λ
 | [.b 14 0 n K],[.a w false none]=>some (aH [eJ w,ο (g8 w).length n,ν 1 n,ν n 900] (.a0 (.b 15 0 (pP (g8 w)) (.a 0),[.a (bh (cA (g8 w) n)) true (some 4)])))
 | _,_=>none
theorem anp(hS:ak Tryz.prog cfg S):ak Tryz.prog cfg (eQ S 90 (fl 14 [4] Fj)):=by
 refine bm hS (fW dI.lv Az λargs ws t r he hr=>?_);unfold Fj at he;split at he
 . rename_i n K w;cases he;replace hr:=aF hr;obtain⟨⟨h1,h2,h3,h4,-⟩,hr⟩:=hr;rw[aJ]at h2;rw[al]at h3 h4;have ew:=hZ h1;generalize g8 w=R at *;subst h2 ew;cases hr;grind [Jy,hH]
 grind
theorem aeE:∀{n:Nat} {L:List Rn} {r:Rn},L.length<=n->aaw L->eo r->aaw (W1 n L r).1/\eo (W1 n L r).2/\(∀x∈(W1 n L r).1,abV x (W1 n L r).2=false)/\∀d,(xb (W1 n L r).1 d\/adA (W1 n L r).2 d)↔(xb L d\/adA r d)
 | 0,L,r,hl,h,hr=>by
   obtain rfl:L=[]:=List.eq_nil_of_length_eq_zero (by omega);exact⟨h,hr,λx hx=>(by cases hx),λd=>Iff.rfl⟩
 | n+1,L,r,hl,h,hr=>by
   have e:W1 (n+1) L r=bif ab 0 (fA L r L.length)then W1 n (L.eraseIdx (fA L r L.length).toNat) (fD (L.getD (fA L r L.length).toNat fo) r)else(L,r):=rfl
   rw[e];cases ht:ab 0 (fA L r L.length)with
   | true=>
     obtain⟨i,i1,i2,i3⟩:=acd ht;rw[cond_true,i2,show(ξ i).toNat=i from rfl];obtain⟨c1,c2,c3⟩:=ahV h hr i1 i3;obtain⟨d1,d2,d3,d4⟩:=aeE (n:=n) (L:=L.eraseIdx i) (r:=fD (L.getD i fo) r) (by grind) c1 c2;grind
   | false=>
     rw[cond_false];refine⟨h,hr,λx hx=>?_,λd=>Iff.rfl⟩;obtain⟨i,hi,rfl⟩:=List.getElem_of_mem hx;have:=aeL ht i hi;grind
theorem ajc{L:List Rn}(h:aaw L)(hr:eo r):aaw (aaJ L r)/\∀d,xb (aaJ L r) d↔xb L d\/adA r d:=by
 obtain⟨d1,d2,d3,d4⟩:=aeE (σ _) h hr;exact⟨agf d2 d1 d3,λd=>aiB.trans (d4 d)⟩
theorem ahR{R:List Rn}(hR:∀x∈R,eo x):∀{i:Nat},i<=R.length->aaw (cA R i)/\∀d,xb (cA R i) d↔xb (R.take i) d
 | 0,_=>⟨⟨λx hx=>(by cases hx),List.Pairwise.nil⟩,λd=>Iff.rfl⟩
 | i+1,h=>by
   obtain⟨h1,h2⟩:=ahR hR (i:=i) (by omega);grind [ajc,adn,A1,xb]
theorem am0(hR:∀x∈R,eo x):cA R R.length=rF R:=by
 obtain⟨h1,h2⟩:=ahR hR (σ R.length);rw[List.take_length]at h2;obtain⟨g1,g2⟩:=afK hR;exact ahN h1 g1 λn=>(h2 n).trans (g2 n).symm
def aeK(R:List Rn):Bool:=R.all λx=>aa (bA x.a x.b x.c x.d) 0
def GX:aQ:=eQ (pX gZ 48 Pm) 90 (fl 14 [4] Fj)
def Ej(R:List Rn):dW:=λ
 | [.b 14 0 n K,.a .i64 i],⟨0,[],[]⟩=>some (aH [ο R.length n,ν n 900,aeK R,aa i 0] (.a0 (.b 0,[.b 14 0 n K,.a .i64 (ξ n)],dO)))
 | _,_=>none
def MQ(R:List Rn):cx:=iz jE 0 (d9 25 [0,4] (Ej R))
def FN:aav:=λ
 | [.b 14 0 n K],[.a w false none]=>some (aH [eJ w,ο (g8 w).length n,ν 1 n,ν n 900,aeK (g8 w)] (.a0 (.c [.b 15 0 (pP (g8 w)) (.a 0),.a .i64 0],[.a (bh (cA (g8 w) n)) true (some 4)])))
 | _,_=>none
theorem akE:ec eS 37=some (dH 37,aL 37):=by rfl
theorem aiz:(bz (aL 37)).map (·.1)=[0]:=by rfl
theorem aeV:ak Tryz.prog cfg GX:=anp (eG aW RQ)
theorem aiY(h:aeK R){i:Nat}(hi:i<R.length):aa (bA (R.getD i fo).a (R.getD i fo).b (R.getD i fo).c (R.getD i fo).d) 0=true:=by
 grind [aeK]
theorem aoR:cu Tryz.prog (cH cfg GX) (Cw cfg [.a (bh R) false none]) (lb 37 0) 25 [0,4] (Ej R):=by
 intro vs o t Q hv hq J;unfold Ej at hv;split at hv
 . rename_i n K i;cases hv;replace hq:=cO hq;obtain⟨⟨h1,h2,h3,h4,-⟩,hq⟩:=hq;rw[aJ]at h1;rw[al]at h2;rw[ao]at h4;subst h1 h4;simp only[aH,Tr.wp]at hq;refine ia aeV rfl rfl ai (ι:={i:Nat // i<=R.length}) (λx=>[.b 14 0 R.length K,.a .i64 (ξ x.1)]) (λ_=>dO) (λx=>R.length-x.1) 0 (λ_=>Nat.zero_le _) (λx J=>?_) (σ _) (λJ=>Wk.a0 ⟨⟨0,Nat.zero_le _⟩,J,rfl⟩) J;obtain⟨i,hi⟩:=x;dsimp only;have kk:∀(a:IntKind) (n:Int),eB a (.a a n)=true:=λa n=>by cases a<;>rfl
   have io:∀(a:IntKind) (n:Int),dx (.a a n)=n:=λ_ _=>rfl;refine jJ (bE 1121422704) (R:=λQ=>(λ(A E:AV)(B:Int)(C:Nat)=>(λ(G:AV)(F:Bool)(I:Int)(H:Nat)=>(λ(N:AV)(O:Nat)=>(λ(P T:AV)=>(λ(U:Bool)=>(F->aS i R.length/\eB .i8 G/\eB .i64 N/\eB .i8 P/\eB .i64 T/\(U->Q (.c,[E,.a .i64 B],⟨0,[],[]⟩))/\(U=false->af .i64 I/\Q (.a,[E,.a .i64 I],⟨0,[],[]⟩)))/\(F=false->Q (.b 0,[E,.a .i64 B],⟨0,[],[]⟩))) (not (aa (bA (dx G) (dx N) (dx P) (dx T)) 0))) (ς (bh R) O A) (ς (bh R) (π O 1) A)) (ς (bh R) H A) (π H 1)) (ς (bh R) C A) (not (ab (ξ R.length) B)) (Int.add B 1) (π C 1)) (.c []) (.b 14 0 R.length K) (ξ i) (π 0 (τ i 4))) (λ_=>by rfl) λQ' hQ=>?_;try dsimp only
   try dsimp only
   by_cases hlt:i<R.length
   . have j1:ab (ξ R.length) (ξ i)=false:=by grind [bF]
     have j2:aS i R.length=true:=aU.2 hlt;have j3:af .i64 (Int.add (ξ i) 1)=true:=by grind [aE,eH,eE]
     obtain⟨f1,f2,f3,f4⟩:=acG hlt;have ok:=aiY h3 hlt;have go:Q' (AX.a,([.b 14 0 R.length K,.a .i64 (Int.add (ξ i) 1)],dO)):=hQ _ ⟨⟨i+1,hlt⟩,by grind,VW.b0 rfl rfl⟩;grind
   grind [aq,VW.a0]
 grind
theorem Rf(hR:eJ (bh R))(h1:1<=R.length)(hn:R.length<=900)(ho:aeK R):bu Tryz.prog cfg 37 [.b 14 0 R.length K] [.a (bh R) false none] (.c [.b 15 0 (pP R) (.a 0),.a .i64 0]) [.a (bh (cA R R.length)) true (some 4)]:=by
 refine Bu aeV (L:=MQ R) akE (by simp) (dv aiz λi hi e he st Q hw=>?_) (jJ (bE 1227073) (R:=λQ=>(λ(C:Bool)(E:Nat)=>(λ(A:List AV)=>(λ(B:List Rn)=>not (ab (ξ R.length) 4096)=false/\ο R.length R.length/\C/\aeK R/\(∀J1:Nat->Value,and true (and (ν (π 0 E) (bh R).length) (bc 14 A))/\eJ A/\ο B.length R.length/\ν 1 R.length/\C/\Q (.c [.b 15 0 (pP B) (fg.a 0),.a .i64 0],⟨1,[.a (bh (cA B R.length)) true (some 4)],[]⟩))) (g8 A)) (b_ (bh R) 0 E)) (ν R.length 900) (τ R.length 4)) (λ_=>by rfl) λQ' hQ=>?_)
 . have hi:i=0:=by grind
   subst hi;cases he;exact bR (cC.a0 aeV) (by decide) rfl aoR hw
 . try dsimp only
   have l0:ab (ξ R.length) 4096=true:=by grind [aq]
   have hw4:b_ (bh R) 0 (R.length*4)=bh R:=by
    grind [b_,kC]
   have l1:ν (0+R.length*4) (bh R).length=true:=by rw[al,kC];omega
   rw[hw4,ma,mZ,show ο R.length R.length=true from aJ.mpr rfl];simp only[l0,l1,hR,ho,al.mpr h1,al.mpr hn,Bool.and_true,Bool.not_true,true_and,and_true,true_imp_iff,reduceCtorEq,false_imp_iff];exact λ_=>hQ _ dL.b0
theorem al9(hS:ak Tryz.prog cfg S):ak Tryz.prog cfg (eQ S 37 (fl 14 [4] FN)):=by
 refine bm hS (fW dI.lv Az λargs ws t r he hr=>?_);unfold FN at he;split at he
 . rename_i n K w;cases he;replace hr:=aF hr;obtain⟨⟨h1,h2,h3,h4,h5,-⟩,hr⟩:=hr;rw[aJ]at h2;rw[al]at h3 h4;have ew:=hZ h1;generalize g8 w=R at *;subst h2 ew;cases hr;grind [Rf,hH]
 grind
end Go.Ev
