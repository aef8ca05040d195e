import Derived.Test.YtcffhjfdlflbgaaGreatDoorP27
set_option linter.all false
open Int renaming ofNat->ν,ofNat_eq_natCast->χ,natCast_nonneg->ω
open Nat renaming ble->ξ,beq->σ
open Option renaming none->ο
open List renaming length->π,all->ς,length_map->ψ
open HAdd renaming hAdd->τ
open HMul renaming hMul->υ
open Bool renaming not_false->Α,false_or->Β,and_self->Γ
set_option linter.all false
set_option maxRecDepth 100000
set_option maxHeartbeats 4000000
namespace Go.Ev
open Go Go.Proofs
variable{Q:AV->Prop}
noncomputable def api:cx:=iz jE 4 (d9 88 agG arp)
def aro:dW:=λvs o=>match vs,o with
 | [.h 17 0,.a .i64 sm,.a .i64 y,.c 15 0 nM km,.a .i64 lM,.a .i64 i],⟨4,[.a [.b ng,.b lg,.e s,.a .i64 e,.a .i64 g,.e mo,.e da,.a .u8 a,.a .u8 b,.a .u8 c,.c 15 0 nM' km',.c 16 0 nD kd] true none,.a w2 true gd,.a w1 true gm,.a B true none],[]⟩=>
   some (aH [aa i 0,aa lM (ν nM),ξ nM 1000,ξ nD 1000,ς w1 (eB .i64),ς w2 (eB .i64),σ w1.length nM,σ w2.length nD,ab 0 sm,ab sm 10000000,ab1 y,jY da (d7 w1),iw B] (.a0 (.b 2,[.h 17 0,.a .i64 (sm+ν (VE da (d7 w1) (d7 w2) y)),.a .i64 y,.c 15 0 nM km,.a .i64 lM,.a .i64 lM],o)))
 | _,_=>none
def ao1(ng lg:Bool)(s mo da:List UInt8)(e g a b c:Int)(w2 w1 B:List AV)(gd gm:Option Nat)(nM nM' nD:Nat)(km km' kd:fg)(sm y:Int)(i:Nat)(J:Nat->Value){Q:VQ->Prop}:gG Q (rT SCn api [] 112 1 88 ac0 [.h 17 0,.a .i64 sm,.a .i64 y,.c 15 0 nM km,.a .i64 (ν nM),.a .i64 (ν i)] J ⟨4,[.a [.b ng,.b lg,.e s,.a .i64 e,.a .i64 g,.e mo,.e da,.a .u8 a,.a .u8 b,.a .u8 c,.c 15 0 nM' km',.c 16 0 nD kd] true none,.a w2 true gd,.a w1 true gm,.a B true none],[]⟩) (bE 1111111111140044444442002564204)=((λ(u5 u6 u7 u9 ua:AV)(u1 u2 u3 u4:Bool)(u0:Int)=>(λ(ub:Bool)(uc:Int)=>(ub->aS i nM/\(u1->ae da []/\aa (ν nD) (ν nD)/\(u2->(ς w2 (eB .i64)->(u3->(ab 0 sm->(u4->(iw w1->(iw B->(∀J1:Nat->Value,(af .i64 uc->Q (AX.a,([u5,u6,u7,u9,ua,AV.a .i64 uc],{ n:=4,os:=[cD.a [AV.b ng,AV.b lg,AV.e s,AV.a .i64 e,AV.a .i64 g,AV.e mo,AV.e da,AV.a .u8 a,AV.a .u8 b,AV.a .u8 c,AV.c 15 0 nM' km',AV.c 16 0 nD kd] true ο,cD.a w2 true gd,cD.a w1 true gm,cD.a B true ο],le:=[] })))/\(af .i64 uc=false->Q (AX.a,([u5,u6,u7,u9,ua,AV.a .i64 (IntKind.wrap .i64 uc)],{ n:=4,os:=[cD.a [AV.b ng,AV.b lg,AV.e s,AV.a .i64 e,AV.a .i64 g,AV.e mo,AV.e da,AV.a .u8 a,AV.a .u8 b,AV.a .u8 c,AV.c 15 0 nM' km',AV.c 16 0 nD kd] true ο,cD.a w2 true gd,cD.a w1 true gm,cD.a B true ο],le:=[] })))))/\(iw B=false->False))/\(iw w1=false->False))/\(u4=false->False))/\(ab 0 sm=false->False))/\(u3=false->False))/\(ς w2 (eB .i64)=false->False))/\(u2=false->False))/\(u1=false->False))/\(ub=false->Q (AX.b 2,([u5,AV.a .i64 sm,u7,u9,ua,AV.a .i64 u0],{ n:=4,os:=[cD.a [AV.b ng,AV.b lg,AV.e s,AV.a .i64 e,AV.a .i64 g,AV.e mo,AV.e da,AV.a .u8 a,AV.a .u8 b,AV.a .u8 c,AV.c 15 0 nM' km',AV.c 16 0 nD kd] true ο,cD.a w2 true gd,cD.a w1 true gm,cD.a B true ο],le:=[] })))) (not (ab (ν nM) u0)) (Int.add u0 1)) (AV.h 17 0) (AV.a .i64 (τ sm (ν (Vz (d7 w2) 0)))) (AV.a .i64 y) (AV.c 15 0 nM km) (AV.a .i64 (ν nM)) (eB .i64 (List.getD w1 (τ 0 (υ i 1)) (AV.d []))) (ξ nD 1000) (σ (π w2) nD) (ab sm 1000000000) (ν i)):=ε
def ao3(ng lg:Bool)(s mo da:List UInt8)(e g a b c:Int)(w2 w1 B:List AV)(gd gm:Option Nat)(nM nM' nD:Nat)(km km' kd:fg)(sm y:Int)(i:Nat)(J:Nat->Value){Q:VQ->Prop}:gG Q (rT SCn api [] 112 1 88 ac0 [.h 17 0,.a .i64 sm,.a .i64 y,.c 15 0 nM km,.a .i64 (ν nM),.a .i64 (ν i)] J ⟨4,[.a [.b ng,.b lg,.e s,.a .i64 e,.a .i64 g,.e mo,.e da,.a .u8 a,.a .u8 b,.a .u8 c,.c 15 0 nM' km',.c 16 0 nD kd] true none,.a w2 true gd,.a w1 true gm,.a B true none],[]⟩) (bE 11111111111111114044444444200444403564204)=((λ(u1 u7 u9 ua ub:AV)(u2 u3 u4 u5 u6:Bool)(u0:Int)=>(λ(uc:Bool)(ud ue:Int)=>(λ(ug:AV)(uf:Bool)=>(uc->aS i nM/\(eB .i64 u1->ae da []=false/\(u2->(u3->(ab 1 ud->(ab ud 12->aa (ν nD) (ν nD)/\(u4->(ς w2 (eB .i64)->(u5->(ab 0 sm->(u6->(iw w1->(iw B->(uf->(∀J1:Nat->Value,(af .i64 ue->Q (AX.a,([u7,ug,u9,ua,ub,AV.a .i64 ue],{ n:=4,os:=[cD.a [AV.b ng,AV.b lg,AV.e s,AV.a .i64 e,AV.a .i64 g,AV.e mo,AV.e da,AV.a .u8 a,AV.a .u8 b,AV.a .u8 c,AV.c 15 0 nM' km',AV.c 16 0 nD kd] true ο,cD.a w2 true gd,cD.a w1 true gm,cD.a B true ο],le:=[] })))/\(af .i64 ue=false->Q (AX.a,([u7,ug,u9,ua,ub,AV.a .i64 (IntKind.wrap .i64 ue)],{ n:=4,os:=[cD.a [AV.b ng,AV.b lg,AV.e s,AV.a .i64 e,AV.a .i64 g,AV.e mo,AV.e da,AV.a .u8 a,AV.a .u8 b,AV.a .u8 c,AV.c 15 0 nM' km',AV.c 16 0 nD kd] true ο,cD.a w2 true gd,cD.a w1 true gm,cD.a B true ο],le:=[] })))))/\(uf=false->False))/\(iw B=false->False))/\(iw w1=false->False))/\(u6=false->False))/\(ab 0 sm=false->False))/\(u5=false->False))/\(ς w2 (eB .i64)=false->False))/\(u4=false->False))/\(ab ud 12=false->False))/\(ab 1 ud=false->False))/\(u3=false->False))/\(u2=false->False))/\(eB .i64 u1=false->False))/\(uc=false->Q (AX.b 2,([u7,AV.a .i64 sm,u9,ua,ub,AV.a .i64 u0],{ n:=4,os:=[cD.a [AV.b ng,AV.b lg,AV.e s,AV.a .i64 e,AV.a .i64 g,AV.e mo,AV.e da,AV.a .u8 a,AV.a .u8 b,AV.a .u8 c,AV.c 15 0 nM' km',AV.c 16 0 nD kd] true ο,cD.a w2 true gd,cD.a w1 true gm,cD.a B true ο],le:=[] })))) (AV.a .i64 (τ sm (ν (Vz (d7 w2) (bP y ud))))) (af .i64 (bP y ud))) (not (ab (ν nM) u0)) (dx u1) (Int.add u0 1)) (List.getD w1 (τ 0 (υ i 1)) (AV.d [])) (AV.h 17 0) (AV.a .i64 y) (AV.c 15 0 nM km) (AV.a .i64 (ν nM)) (ab (Neg.neg 10000000000000000) y) (ab y 10000000000000000) (ξ nD 1000) (σ (π w2) nD) (ab sm 1000000000) (ν i)):=ε
def alW:(bz (lb 112 1)).map (·.1)=[4]:=ε
def aod:((bz (lb 112 1)).getD 0 (0,.skip)).2=lb 112 2:=ε
theorem aqW:qI Tryz.prog (cH cfg SCn) (Cw cfg []) api (lb 112 1):=by
 refine dv alW λi hi e he st Q hw=>?_;have hi:i=0:=by simp at hi;omega
 subst hi;cases he;rw[aod];exact bR (cC.a0 TV) ζ rfl asN hw
theorem amX{f:Int->Nat}{M:List Int}{i:Nat}(h:i<M.length):Ul f (M.take (i+1))=Ul f (M.take i)+f (M.getD i 0):=by
 rw[ZS h,abp];rfl
theorem aaA{f:Int->Nat}{b:Nat}(hf:∀m,f m<=b):∀{M:List Int},Ul f M<=M.length*b
 | []=>Nat.zero_le _
 | m::M=>by
   have:=@aaA f b hf M;have:=hf m;rw[Ul,zAd,Nat.add_mul];omega
theorem an8{da:List UInt8}{D:List Int}{y m:Int}:UY da D y m<=D.length:=by unfold UY;exact List.length_filter_le _ _
theorem asM:cu Tryz.prog (cH cfg SCn) (Cw cfg []) (lb 112 1) 88 ac0 aro:=by
 intro vs o t Q hv hq J;unfold aro at hv;split at hv
 . rename_i sm y nM km lM i ng lg s e g mo da a b c nM' km' nD kd w2 gd w1 gm B;cases hv;replace hq:=cO hq;obtain⟨⟨k1,k2,k3,k4,k5,k6,k7,k8,k9,k10,k11,k12,k13,-⟩,hq⟩:=hq;rw[ao]at k1 k2;rw[al]at k3 k4;rw[aJ]at k7 k8;rw[aq]at k9 k10;rw[iZ]at k11;subst k1 k2;have ew1:=gV k5;have el1:(d7 w1).length=w1.length:=by unfold d7;rw[ψ]
   have ew2:=gV k6;have el2:(d7 w2).length=w2.length:=by unfold d7;rw[ψ]
   generalize d7 w1=M at *;generalize d7 w2=D at *;rw[k7]at el1;rw[k8]at el2;subst el1 ew1 el2 ew2;have hq:Q (.b 2,[.h 17 0,.a .i64 (sm+ν (VE da M D y)),.a .i64 y,.c 15 0 M.length km,.a .i64 (ν M.length),.a .i64 (ν M.length)],⟨4,[.a [.b ng,.b lg,.e s,.a .i64 e,.a .i64 g,.e mo,.e da,.a .u8 a,.a .u8 b,.a .u8 c,.c 15 0 nM' km',.c 16 0 D.length kd] true none,.a (aI D) true gd,.a (aI M) true gm,.a B true none],[]⟩):=hq;refine ia TV rfl rfl aqW (ι:={i:Nat // i<=M.length}) (λz=>[.h 17 0,.a .i64 (sm+ν (Ul (UY da D y) (M.take z.1))),.a .i64 y,.c 15 0 M.length km,.a .i64 (ν M.length),.a .i64 (ν z.1)]) (λz=>⟨4,[.a [.b ng,.b lg,.e s,.a .i64 e,.a .i64 g,.e mo,.e da,.a .u8 a,.a .u8 b,.a .u8 c,.c 15 0 nM' km',.c 16 0 D.length kd] true none,.a (aI D) true gd,.a (aI M) true gm,.a B true none],[]⟩) (λz=>M.length-z.1) 4 (λz=>Nat.le_refl _) (λz J=>?_) (Nat.le_refl _) (λJ=>Wk.a0 ⟨⟨0,Nat.zero_le _⟩,J,by simp only[List.take_zero];rw[show sm+ν (Ul (UY da D y) [])=sm from Int.add_zero sm];rfl⟩) J;obtain⟨i,hi⟩:=z;dsimp only;have one:=@amX (UY da D y) M i;have hcl:Ul (UY da D y) (M.take i)<=10000000:=by
    have h1:=@aaA (UY da D y) 1000 (λm=>Nat.le_trans an8 k4) (M.take i);rw[List.length_take]at h1;have h2:min i M.length*1000<=1000*1000:=Nat.mul_le_mul_right _ δ;omega
   have fin:i=M.length->∃vs2 o2,VW cfg (Cw cfg []) 4 88 ac0 [.h 17 0,.a .i64 (sm+ν (Ul (UY da D y) (M.take i))),.a .i64 y,.c 15 0 M.length km,.a .i64 (ν M.length),.a .i64 (ν i)] ⟨4,[.a [.b ng,.b lg,.e s,.a .i64 e,.a .i64 g,.e mo,.e da,.a .u8 a,.a .u8 b,.a .u8 c,.c 15 0 nM' km',.c 16 0 D.length kd] true none,.a (aI D) true gd,.a (aI M) true gm,.a B true none],[]⟩ vs2 o2/\Q (.b 2,vs2,o2):=λh=>by
    subst h;rw[List.take_length];exact⟨_,_,VW.a0,hq⟩
   have go:i<M.length->∀vs o,VW cfg (Cw cfg []) 4 88 ac0 vs o [.h 17 0,.a .i64 (sm+ν (Ul (UY da D y) (M.take (i+1)))),.a .i64 y,.c 15 0 M.length km,.a .i64 (ν M.length),.a .i64 (ν (i+1))] ⟨4,[.a [.b ng,.b lg,.e s,.a .i64 e,.a .i64 g,.e mo,.e da,.a .u8 a,.a .u8 b,.a .u8 c,.c 15 0 nM' km',.c 16 0 D.length kd] true none,.a (aI D) true gd,.a (aI M) true gm,.a B true none],[]⟩->∃z:{i:Nat // i<=M.length},M.length-z.1<M.length-i/\VW cfg (Cw cfg []) 4 88 ac0 vs o [.h 17 0,.a .i64 (sm+ν (Ul (UY da D y) (M.take z.1))),.a .i64 y,.c 15 0 M.length km,.a .i64 (ν M.length),.a .i64 (ν z.1)] ⟨4,[.a [.b ng,.b lg,.e s,.a .i64 e,.a .i64 g,.e mo,.e da,.a .u8 a,.a .u8 b,.a .u8 c,.c 15 0 nM' km',.c 16 0 D.length kd] true none,.a (aI D) true gd,.a (aI M) true gm,.a B true none],[]⟩:=λh vs o hv=>⟨⟨i+1,h⟩,by dsimp only;omega,hv⟩;clear hq;have ca:=@sW M i;have om:i<M.length->okM da (M.getD i 0)=true:=λh=>by
    unfold jY at k12;rw[zAf,List.getElem?_eq_getElem h];exact List.all_eq_true.1 k12 _ (List.getElem_mem _)
   have n1:=@yY M;have l1:=al.mpr k4;have l2:=@ow D;have l3:σ (aI D).length D.length=true:=aJ.mpr cY;have l4:aa (ν D.length) (ν D.length)=true:=ao.mpr rfl;have eu:=@oL D;by_cases h0:i<M.length
   . have go2:=go h0;rw[one h0]at go2;generalize Ul (UY da D y) (M.take i)=m at *;have hl:aS i M.length=true:=aU.2 h0;have b3:af .i64 (Int.add (ν i) 1)=true:=by rw[aE];simp only[eH,eE];show _<=(i:Int)+1/\(i:Int)+1<=_;omega
     have s1:ab 0 (sm+ν m)=true:=aq.mpr (by have:(0:Int)<=ν m:=ω m;omega);have s2:ab (sm+ν m) 1000000000=true:=aq.mpr (by simp only[χ];omega);have om:=om h0;have ca:=ca h0;clear go fin one;have eS:∀k:Nat,sm+ν (m+k)=sm+ν m+ν k:=λk=>by simp only[χ];omega
     rw[eS]at go2;have eC:UY da D y (M.getD i 0)=Vz D (kN y (M.getD i 0) da):=rfl;rw[eC]at go2;unfold kN at go2;cases hd:ae da []with
     | true=>
       rw[hd,cond_true]at go2;refine bb λQ' hQ=>cg ((ao1 ng lg s mo da e g a b c (aI D) (aI M) B gd gm M.length nM' D.length km km' kd (sm+ν m) y i J).mpr ?_);dsimp only;have go3:=hQ (.a,_,_) (go2 _ _ VW.a0);try dsimp only
       rw[VM,decide_eq_false δ,ca];simp only[eB,dx,zb,abw,show σ 3 3=true from rfl,hl,hd,b3,s1,s2,n1,k13,l1,l2,l3,l4,eu,Α,reduceCtorEq,zAh];exact λ_=>go3
     | false=>
       rw[hd,cond_false]at go2;refine bb λQ' hQ=>cg ((ao3 ng lg s mo da e g a b c (aI D) (aI M) B gd gm M.length nM' D.length km km' kd (sm+ν m) y i J).mpr ?_);dsimp only;have go3:=hQ (.a,_,_) (go2 _ _ VW.a0);try dsimp only
       rw[VM,decide_eq_false δ,ca];unfold okM at om;rw[hd,Β,zAa]at om;generalize M.getD i 0=mm at *;have ml:=mr y mm;have b5:af .i64 (bP y mm)=true:=by rw[aE];simp only[eH,eE];omega
       have y1:ab (Neg.neg 10000000000000000) y=true:=aq.mpr k11.1;have y2:=aq.mpr k11.2;simp only[eB,dx,zb,abw,show σ 3 3=true from rfl,hl,hd,b3,b5,s1,s2,n1,k13,l1,l2,l3,l4,eu,y1,y2,om.1,om.2,Α,reduceCtorEq,zAh];exact λ_=>go3
   . have hd2:ae da []\/ae da []=false:=by cases ae da []<;>simp
     rcases hd2 with hd|hd
     . refine bb λQ' hQ=>cg ((ao1 ng lg s mo da e g a b c (aI D) (aI M) B gd gm M.length nM' D.length km km' kd (sm+ν (Ul (UY da D y) (M.take i))) y i J).mpr ?_);dsimp only;have fin2:=hQ (.b 2,_,_) (fin δ);try dsimp only
       rw[VM,decide_eq_true δ];simp only[Bool.not_true,reduceCtorEq,zAh];exact fin2
     . refine bb λQ' hQ=>cg ((ao3 ng lg s mo da e g a b c (aI D) (aI M) B gd gm M.length nM' D.length km km' kd (sm+ν (Ul (UY da D y) (M.take i))) y i J).mpr ?_);dsimp only;have fin2:=hQ (.b 2,_,_) (fin δ);try dsimp only
       rw[VM,decide_eq_true δ];simp only[Bool.not_true,reduceCtorEq,zAh];exact fin2
 . cases hv
noncomputable def arB:cx:=iz jE 2 (d9 88 ac0 aro)
abbrev aq4:List Nat:=[5,8,9,10]
def arn:dW:=λvs o=>match vs,o with
 | [.h 17 0,.a .i64 sm,.a .i64 y,.b ok],⟨4,[.a [.b ng,.b lg,.e s,.a .i64 e,.a .i64 g,.e mo,.e da,.a .u8 a,.a .u8 b,.a .u8 c,.c 15 0 nM km,.c 16 0 nD kd] true none,.a w2 true gd,.a w1 true gm,.a B true none],[]⟩=>
   some (aH [ξ nM 1000,ξ nD 1000,ς w1 (eB .i64),ς w2 (eB .i64),σ w1.length nM,σ w2.length nD,ab 0 sm,ab1 y,jY da (d7 w1),iw B,aV ng lg s e g,ξ s.length 1000,lP s,ab (sm+ν (Vf ng s e da (d7 w1) (d7 w2) y ok)) 10000000] (.e0 λJ=>.a0 (.b 0,[.h 17 0,.a .i64 (sm+ν (Vf ng s e da (d7 w1) (d7 w2) y ok)),.j (J 0),.b false],o)))
 | _,_=>none
def atV(ng lg:Bool)(s mo da:List UInt8)(e g a b c:Int)(w2 w1 B:List AV)(gd gm:Option Nat)(nM nD:Nat)(km kd:fg)(sm y:Int)(ok:Bool)(J:Nat->Value){Q:VQ->Prop}:gG Q (rT SCn arB [] 112 0 88 aq4 [.h 17 0,.a .i64 sm,.a .i64 y,.b ok] J ⟨4,[.a [.b ng,.b lg,.e s,.a .i64 e,.a .i64 g,.e mo,.e da,.a .u8 a,.a .u8 b,.a .u8 c,.c 15 0 nM km,.c 16 0 nD kd] true none,.a w2 true gd,.a w1 true gm,.a B true none],[]⟩) (bE 111111111111111117444411112744440006444444444442004)=((λ(ud ue:AV)(u0 u1 u4 u5:Bool)(u6:Int)(u2 u3 u7 u9:Nat)(ua ub uc:Prop)=>(λ(uf ug ui uj:Bool)(uk:Int)(uh:Prop)=>(λ(ul:Bool)(um un:Prop)=>(λ(uo:Prop)=>(ok->aa (ν nM) (ν nM)/\(u0->(u1->(ς w1 (eB .i64)->(ς w2 (eB .i64)->(uf->(ug->(ab 0 sm->(u4->(ab1 y->(u5->(iw B->(∀J1:Nat->Value,(uh->(ul->(ui->(uj->uh/\ua/\ub/\uc/\Q (AX.a,([ud,ue,AV.a .i64 (yV ng s e u6 true),AV.b (yB ng s e u6 true)],{ n:=4,os:=[cD.a [AV.b ng,AV.b lg,AV.e s,AV.a .i64 e,AV.a .i64 g,AV.e mo,AV.e da,AV.a .u8 a,AV.a .u8 b,AV.a .u8 c,AV.c 15 0 nM km,AV.c 16 0 nD kd] true ο,cD.a w2 true gd,cD.a w1 true gm,cD.a B true ο],le:=[] })))/\um)/\un)/\uo)/\(af .i64 u6=false->(ul->(ui->(uj->(af .i64 uk->ua/\ub/\uc/\Q (AX.a,([ud,ue,AV.a .i64 (yV ng s e uk true),AV.b (yB ng s e uk true)],{ n:=4,os:=[cD.a [AV.b ng,AV.b lg,AV.e s,AV.a .i64 e,AV.a .i64 g,AV.e mo,AV.e da,AV.a .u8 a,AV.a .u8 b,AV.a .u8 c,AV.c 15 0 nM km,AV.c 16 0 nD kd] true ο,cD.a w2 true gd,cD.a w1 true gm,cD.a B true ο],le:=[] })))/\(af .i64 uk=false->False))/\um)/\un)/\uo)))/\(iw B=false->False))/\(u5=false->False))/\(ab1 y=false->False))/\(u4=false->False))/\(ab 0 sm=false->False))/\(ug=false->False))/\(uf=false->False))/\(ς w2 (eB .i64)=false->False))/\(ς w1 (eB .i64)=false->False))/\(u1=false->False))/\(u0=false->False))/\(ok=false->Q (AX.b 0,([ud,AV.a .i64 sm,AV.a .i64 y,AV.b ok],{ n:=4,os:=[cD.a [AV.b ng,AV.b lg,AV.e s,AV.a .i64 e,AV.a .i64 g,AV.e mo,AV.e da,AV.a .u8 a,AV.a .u8 b,AV.a .u8 c,AV.c 15 0 nM km,AV.c 16 0 nD kd] true ο,cD.a w2 true gd,cD.a w1 true gm,cD.a B true ο],le:=[] })))) (ul=false->False)) (and (and true (and (ξ (τ 0 u7) u2) ui)) (and (ξ (τ 0 u9) u3) uj)) (uj=false->False) (ui=false->False)) (σ u2 nM) (σ u3 nD) (bc 14 (b_ w1 0 u7)) (bc 14 (b_ w2 0 u9)) (IntKind.wrap .i64 u6) (af .i64 u6=true)) (AV.h 17 0) (AV.a .i64 (τ sm (ν (VE da (d7 w1) (d7 w2) y)))) (ξ nM 1000) (ξ nD 1000) (ab sm 10000000) (jY da (d7 w1)) (Int.add y 1) (π w1) (π w2) (υ nM 1) (υ nD 1) (aV ng lg s e g=true) (ξ (π s) 1000=true) (lP s=true)):=ε
def agE:(bz (lb 112 0)).map (·.1)=[2,4]:=ε
def alV:((bz (lb 112 0)).getD 0 (0,.skip)).2=lb 112 1:=ε
theorem aqV:qI Tryz.prog (cH cfg SCn) (Cw cfg []) arB (lb 112 0):=by
 refine dv agE λi hi e he st Q hw=>?_;have hi:i=0\/i=1:=by simp at hi;omega
 rcases hi with rfl|rfl
 . cases he;rw[alV];exact bR (cC.a0 TV) ζ rfl asM hw
 . cases he
theorem asL:cu Tryz.prog (cH cfg SCn) (Cw cfg []) (lb 112 0) 88 aq4 arn:=by
 intro vs o t Q hv hq J;unfold arn at hv;split at hv
 . rename_i sm y ok ng lg s e g mo da a b c nM km nD kd w2 gd w1 gm B;cases hv;replace hq:=cO hq;obtain⟨⟨k3,k4,k5,k6,k7,k8,k9,k11,k12,k13,o1,o2,o3,k14,-⟩,hq⟩:=hq;rw[al]at k3 k4;rw[aJ]at k7 k8;rw[aq]at k9 k14;rw[iZ]at k11;have ew1:=gV k5;have el1:(d7 w1).length=w1.length:=by unfold d7;rw[ψ]
   have ew2:=gV k6;have el2:(d7 w2).length=w2.length:=by unfold d7;rw[ψ]
   generalize d7 w1=M at *;generalize d7 w2=D at *;rw[k7]at el1;rw[k8]at el2;subst el1 ew1 el2 ew2;have hq:∀J:Nat->Value,Q (.b 0,[.h 17 0,.a .i64 (sm+ν (Vf ng s e da M D y ok)),.j (J 0),.b false],⟨4,[.a [.b ng,.b lg,.e s,.a .i64 e,.a .i64 g,.e mo,.e da,.a .u8 a,.a .u8 b,.a .u8 c,.c 15 0 M.length km,.c 16 0 D.length kd] true none,.a (aI D) true gd,.a (aI M) true gm,.a B true none],[]⟩):=hq;refine ia TV rfl rfl aqV (ι:={x:Int×Int×Bool // (-10000000000000000<=x.2.1/\x.2.1<=10000000000000000)/\0<=x.1/\sm+ν (Vf ng s e da M D y ok)=x.1+ν (Vf ng s e da M D x.2.1 x.2.2)}) (λx=>[.h 17 0,.a .i64 x.1.1,.a .i64 x.1.2.1,.b x.1.2.2]) (λx=>⟨4,[.a [.b ng,.b lg,.e s,.a .i64 e,.a .i64 g,.e mo,.e da,.a .u8 a,.a .u8 b,.a .u8 c,.c 15 0 M.length km,.c 16 0 D.length kd] true none,.a (aI D) true gd,.a (aI M) true gm,.a B true none],[]⟩) (λx=>MZ x.1.2.1 x.1.2.2) 4 (λz=>Nat.le_refl _) (λx J=>?_) (Nat.le_refl _) (λJ=>Wk.a0 ⟨⟨(sm,y,ok),k11,k9,rfl⟩,J,rfl⟩) J;obtain⟨⟨s0,z,zk⟩,hz,hs0,hs⟩:=x;dsimp only at hz hs0 hs ⊢;refine bb λQ' hQ=>cg ((atV ng lg s mo da e g a b c (aI D) (aI M) B gd gm M.length D.length km kd s0 z zk J).mpr ?_);dsimp only;have n1:=@ow M;have n2:=@ow D;have n3:σ (aI M).length M.length=true:=aJ.mpr cY;have n4:σ (aI D).length D.length=true:=aJ.mpr cY;have n5:aa (ν M.length) (ν M.length)=true:=ao.mpr rfl;have n6:ξ (0+M.length*1) (aI M).length=true:=al.mpr (by rw[cY];omega);have n7:ξ (0+D.length*1) (aI D).length=true:=al.mpr (by rw[cY];omega);have m1:=al.mpr k3;have m2:=al.mpr k4;have e1:=@oL M;have e2:=@oL D;have bM:=@cz M;have bD:=@cz D;rw[hs]at hq k14;have s1:ab 0 s0=true:=aq.mpr hs0;have s2:ab s0 10000000=true:=aq.mpr (by have:(0:Int)<=ν (Vf ng s e da M D z zk):=ω _;omega);have yb:=iZ.2 hz;have yi:af .i64 (Int.add z 1)=true:=by rw[aE];simp only[eH,eE];show _<=z+1/\z+1<=_;omega
   try dsimp only
   cases zk with
   | false=>
     rw[ad5,show s0+ν 0=s0 from Int.add_zero s0]at hq;have fin2:=hQ (.b 0,[.h 17 0,.a .i64 s0,.a .i64 z,.b false],⟨4,[.a [.b ng,.b lg,.e s,.a .i64 e,.a .i64 g,.e mo,.e da,.a .u8 a,.a .u8 b,.a .u8 c,.c 15 0 M.length km,.c 16 0 D.length kd] true none,.a (aI D) true gd,.a (aI M) true gm,.a B true none],[]⟩) ⟨_,_,VW.c0 (.a0 (.a0 (.b0 (.a0 .c0)))) rfl,hq (jv [_])⟩;simp only[reduceCtorEq,zAh];exact fin2
   | true=>
     have nx:=@Zu ng lg s e g da M D z o1 hz.2;have hmu:=mC (ng:=ng) (s:=s) (e:=e) hz.2;have hbn:=iP (n:=z+1) (up:=true) o1;have hsum:sm+ν (Vf ng s e da M D y ok)=s0+ν (VE da M D z)+ν (Vf ng s e da M D (yV ng s e (z+1) true) (yB ng s e (z+1) true)):=by
      rw[hs,nx];simp only[χ];omega
     have h0:0<=s0+ν (VE da M D z):=by have:(0:Int)<=ν (VE da M D z):=ω _;omega
     have go3:=hQ (.a,_,_) ⟨⟨(s0+ν (VE da M D z),yV ng s e (z+1) true,yB ng s e (z+1) true),hbn,h0,hsum⟩,hmu,VW.a0⟩;rw[qz,qz];simp only[n1,n2,n3,n4,n5,n6,n7,m1,m2,e1,e2,bM,bD,s1,s2,yb,yi,o1,o2,o3,k12,k13,Γ,Bool.and_true,Bool.true_and,reduceCtorEq,zAh];exact λ_=>go3
 . cases hv
noncomputable def L64:cx:=iz jE 0 (d9 88 aq4 arn)
def ac2:dP:=λargs=>match args with
 | [.g [.b ng,.b lg,.e s,.a .i64 e,.a .i64 g,.e mo,.e da,.a .u8 a,.a .u8 b,.a .u8 c]]=>some (aH [ξ s.length 1000,ξ mo.length 1000,ξ da.length 1000,af .i64 e,aa g 0,af .u8 a,af .u8 b,af .u8 c,aa (bW ng lg s e g mo da a b c) 0,ξ (Yh ng s e mo da).length 10000000] (.a0 (.d [.a .i64 (Ya ng s e mo da),.a .i64 0])))
 | _=>none
def arM(lg:Bool)(c0 c1 c2 c3:UInt8)(e:Int)(mo:List UInt8)(a b c:Int):gG Q (pT SCn jE 112 [.g [.b false,.b lg,.e [c0,c1,c2,c3],.a .i64 e,.a .i64 0,.e mo,.e [],.a .u8 a,.a .u8 b,.a .u8 c]]) (bE 1111114044440020667020202056370202566)=((λ(u5:List UInt8)(u0 u1 u2 u3 u4:Prop)=>(λ(u6:Nat)=>(λ(u7:Int)=>u0/\u1/\u2/\u3/\u4/\not (aa (bW false lg u5 e 0 mo [] a b c) 0)=false/\aae mo []/\u0/\u1/\u2/\u3/\u4/\not (σ u6 0)/\(fC c0->(fC c1->(fC c2->(fC c3->(af .i64 u7->Q (AV.d [AV.a .i64 u7,AV.a .i64 0]))/\(af .i64 u7=false->Q (AV.d [AV.a .i64 (IntKind.wrap .i64 u7),AV.a .i64 0])))/\(fC c3=false->False))/\(fC c2=false->False))/\(fC c1=false->False))/\(fC c0=false->False)) (Int.mul (lK (ν u6)) (ν (Uc (kI mo))))) (dT u5 88 88)) [c0,c1,c2,c3] (ξ (π mo) 1000=true) (af .i64 e=true) (af .u8 a=true) (af .u8 b=true) (af .u8 c=true)):=ε
def arN(ng lg:Bool)(s:List UInt8)(e:Int)(mo da:List UInt8)(a b c:Int):gG Q (pT SCn L64 112 [.g [.b ng,.b lg,.e s,.a .i64 e,.a .i64 0,.e mo,.e da,.a .u8 a,.a .u8 b,.a .u8 c]]) (bE 1111111111111147044044444470444556338004702270563702700066)=((λ(u7 ud ue:Bool)(uf:Int)(u9 ua:List AV)(u0 u1 u2 u3 u4 u5 u6 ub uc:Prop)=>(λ(ug uj ul um:Bool)(un:Int)(ui uk:Nat)(uh:Prop)=>(λ(uo up uq ur:Bool)=>u0/\u1/\u2/\u3/\u4/\u5/\u6/\not (aa (bW ng lg s e 0 mo da a b c) 0)=false/\aae mo da/\u0/\u1/\u2/\u3/\u4/\u5/\u6/\(ug->uh/\uh/\uh/\uh/\uh/\(uo->(uj->(ul->ub/\u0/\uc/\(ud->(ue->(ς u9 (eB .i64)->(ς ua (eB .i64)->(up->(uq->(ab1 uf->(um->ub/\u0/\uc/\(ur->(∀J1:Nat->Value,∀J2:Nat->Value,Q (AV.d [AV.a .i64 un,AV.a .i64 0])))/\(ur=false->False))/\(um=false->False))/\(ab1 uf=false->False))/\(uq=false->False))/\(up=false->False))/\(ς ua (eB .i64)=false->False))/\(ς u9 (eB .i64)=false->False))/\(ue=false->False))/\(ud=false->False))/\(ul=false->False))/\(uj=false->False))/\(uo=false->False))/\(ug=false->False)) (and (and true (and (ξ (τ 0 (υ (Uc (kI mo)) 1)) ui) uj)) (and (ξ (τ 0 (υ (Uc (sd da)) 1)) uk) ul)) (σ ui (Uc (kI mo))) (σ uk (Uc (sd da))) (ab un 10000000)) (or u7 (not (gU (sd da)))) (bc 14 (b_ u9 0 (υ (Uc (kI mo)) 1))) (bc 14 (b_ ua 0 (υ (Uc (sd da)) 1))) (jY da (d7 u9)) (τ 0 (ν (Vf ng s e da (d7 u9) (d7 ua) uf (yB ng s e (Neg.neg 9223372036854775808) true)))) (π u9) (π ua) (u7=false)) (ae da []) (ξ (Uc (kI mo)) 1000) (ξ (Uc (sd da)) 1000) (yV ng s e (Neg.neg 9223372036854775808) true) (aI (kI mo)) (aI (sd da)) (ξ (π s) 1000=true) (ξ (π mo) 1000=true) (ξ (π da) 1000=true) (af .i64 e=true) (af .u8 a=true) (af .u8 b=true) (af .u8 c=true) (aV ng lg s e 0=true) (lP s=true)):=ε
def arO(lg:Bool)(s:List UInt8)(e:Int)(mo:List UInt8)(a b c:Int):gG Q (pT SCn L64 112 [.g [.b true,.b lg,.e s,.a .i64 e,.a .i64 0,.e mo,.e [],.a .u8 a,.a .u8 b,.a .u8 c]]) (bE 11111111147044004040470044556670207056370202200066)=((λ(ua:Bool)(ub:Int)(u6:List AV)(u0 u1 u2 u3 u4 u5 u7 u9:Prop)=>(λ(ud ue:Bool)(uf:Int)(uc:Nat)=>(λ(ug uh ui:Bool)=>u0/\u1/\u2/\u3/\u4/\u5/\not (aa (bW true lg s e 0 mo [] a b c) 0)=false/\aae mo []/\u0/\u1/\u2/\u3/\u4/\u5/\(ug->(ud->u7/\u0/\u9/\(ua->(ς u6 (eB .i64)->(uh->(ab1 ub->(ue->u7/\u0/\u9/\(ui->(∀J1:Nat->Value,∀J2:Nat->Value,Q (AV.d [AV.a .i64 uf,AV.a .i64 0])))/\(ui=false->False))/\(ue=false->False))/\(ab1 ub=false->False))/\(uh=false->False))/\(ς u6 (eB .i64)=false->False))/\(ua=false->False))/\(ud=false->False))/\(ug=false->False)) (and (and true (and (ξ (τ 0 (υ (Uc (kI mo)) 1)) uc) ud)) true) (σ uc (Uc (kI mo))) (ab uf 10000000)) (bc 14 (b_ u6 0 (υ (Uc (kI mo)) 1))) (jY [] (d7 u6)) (τ 0 (ν (Vf true s e [] (d7 u6) (d7 (aI (sd []))) ub (yB true s e (Neg.neg 9223372036854775808) true)))) (π u6)) (ξ (Uc (kI mo)) 1000) (yV true s e (Neg.neg 9223372036854775808) true) (aI (kI mo)) (ξ (π s) 1000=true) (ξ (π mo) 1000=true) (af .i64 e=true) (af .u8 a=true) (af .u8 b=true) (af .u8 c=true) (aV true lg s e 0=true) (lP s=true)):=ε
def arP(lg:Bool)(s:List UInt8)(e:Int)(mo:List UInt8)(a b c:Int):gG Q (pT SCn L64 112 [.g [.b false,.b lg,.e s,.a .i64 e,.a .i64 0,.e mo,.e [],.a .u8 a,.a .u8 b,.a .u8 c]]) (bE 111111111470440040404700440006306670207056370202200066)=((λ(ua:Bool)(ub:Int)(u6:List AV)(u0 u1 u2 u3 u4 u5 u7 u9:Prop)=>(λ(ud ue:Bool)(uf:Int)(uc:Nat)=>(λ(ug uh ui:Bool)=>u0/\u1/\u2/\u3/\u4/\u5/\not (aa (bW false lg s e 0 mo [] a b c) 0)=false/\aae mo []/\u0/\u1/\u2/\u3/\u4/\u5/\not (σ (dT s 88 88) 0)=false/\(ug->(ud->u7/\u0/\u9/\(ua->(ς u6 (eB .i64)->(uh->(ab1 ub->(ue->u7/\u0/\u9/\(ui->(∀J1:Nat->Value,∀J2:Nat->Value,Q (AV.d [AV.a .i64 uf,AV.a .i64 0])))/\(ui=false->False))/\(ue=false->False))/\(ab1 ub=false->False))/\(uh=false->False))/\(ς u6 (eB .i64)=false->False))/\(ua=false->False))/\(ud=false->False))/\(ug=false->False)) (and (and true (and (ξ (τ 0 (υ (Uc (kI mo)) 1)) uc) ud)) true) (σ uc (Uc (kI mo))) (ab uf 10000000)) (bc 14 (b_ u6 0 (υ (Uc (kI mo)) 1))) (jY [] (d7 u6)) (τ 0 (ν (Vf false s e [] (d7 u6) (d7 (aI (sd []))) ub (yB false s e (Neg.neg 9223372036854775808) true)))) (π u6)) (ξ (Uc (kI mo)) 1000) (yV false s e (Neg.neg 9223372036854775808) true) (aI (kI mo)) (ξ (π s) 1000=true) (ξ (π mo) 1000=true) (af .i64 e=true) (af .u8 a=true) (af .u8 b=true) (af .u8 c=true) (aV false lg s e 0=true) (lP s=true)):=ε
def Wg:aY tab 112=some (dH 112,aL 112):=ε
def acO:(bz (aL 112)).map (·.1)=[0,2,4]:=ε
theorem alY:qI Tryz.prog (cH cfg SCn) (Cw cfg []) L64 (aL 112):=by
 refine dv acO λi hi e he st Q hw=>?_;have hi:i=0\/i=1\/i=2:=by simp at hi;omega
 rcases hi with rfl|rfl|rfl
 . cases he;exact bR (cC.a0 TV) ζ rfl asL hw
 . cases he
 . cases he
theorem afp{s:List UInt8}{g:Nat}:(Co s g).length<=g:=by
 unfold Co;split
 . exact eV _ _ _
 . exact Nat.zero_le _
theorem al3{mo:List UInt8}:(kI mo).length<=12:=by
 unfold kI;cases ae mo []with
 | true=>simp
 | false=>
   cases aa (aR mo) 0 with
   | true=>exact afp
   | false=>simp
theorem aly{da:List UInt8}:(sd da).length<=31:=by
 unfold sd;cases ae da []with
 | true=>simp
 | false=>exact afp
theorem ajn{ng lg:Bool}{s:List UInt8}{e:Int}{mo da:List UInt8}{a b c:Int}(hE:bW ng lg s e 0 mo da a b c=0):jY da (kI mo)=true:=by
 cases hd:ae da []with
 | true=>
   unfold jY okM;rw[hd];simp
 | false=>
   obtain⟨m0,m1,d0,d1,rfl,rfl,_,_,_,_,_,_,hse,_⟩:=adC (abb hE) hd;have:kI [m0,m1]=ay m0 m1 12:=by unfold kI;rw[ao.mpr hse];rfl
   rw[this];exact pk
theorem aqC{ng lg:Bool}{s:List UInt8}{e:Int}{mo da:List UInt8}{a b c:Int}(h1:ξ s.length 1000)(h2:ξ mo.length 1000)(h3:ξ da.length 1000)(h4:af .i64 e)(h5:af .u8 a)(h6:af .u8 b)(h7:af .u8 c)(hE:bW ng lg s e 0 mo da a b c=0)(hc:ξ (Yh ng s e mo da).length 10000000) :
 bu Tryz.prog cfg 112 [.g [.b ng,.b lg,.e s,.a .i64 e,.a .i64 0,.e mo,.e da,.a .u8 a,.a .u8 b,.a .u8 c]] [] (.d [.a .i64 (Ya ng s e mo da),.a .i64 0]) []:=by
 have h8:=ao.mpr hE;obtain⟨ho,hx,_⟩:=dC (abb hE) dE;have md:=aoi hE;have am:=ajn hE;have cn:=@an9 ng lg s e 0 mo da ho hx;have yb:ab1 (yV ng s e (Neg.neg 9223372036854775808) true)=true:=iZ.2 (iP ho);have lM:=@al3 mo;have lD:=@aly da;have hid:∀n:Int,aC (.d [.a .i64 n,.a .i64 0])=[]:=λn=>by simp[aC,bw]
 cases hm:(ae da []&&(!ng&&!(σ (dT s 88 88) 0)))with
 | true=>
   have eM:Ya ng s e mo da=((10^dT s 88 88*(kI mo).length:Nat):Int):=by unfold Ya;rw[hm,cond_true]
   rw[eM];simp only[zAa,Bool.not_eq_true',oy]at hm;obtain⟨rfl,rfl,hX⟩:=hm;obtain⟨c0,c1,c2,c3,rfl,g0,g1,g2,g3⟩:=sV hx hX;have n4:=ab6 [c0,c1,c2,c3] 88 88;refine kA TV (L:=jE) Wg θ ai (bb λQ' hQ=>cg ((arM lg c0 c1 c2 c3 e mo a b c).mpr ?_)) (hid _);dsimp only;have hQ:=hQ _ rfl;try dsimp only
   have ep:Int.mul (lK (ν (dT [c0,c1,c2,c3] 88 88))) (ν (Uc (kI mo)))=((10^dT [c0,c1,c2,c3] 88 88*(kI mo).length:Nat):Int):=by
    rw[Int.natCast_mul];rfl
   rw[ep];have bn:af .i64 ((10^dT [c0,c1,c2,c3] 88 88*(kI mo).length:Nat):Int)=true:=by
    simp only[zAd,List.length_nil]at n4;have h10:10^dT [c0,c1,c2,c3] 88 88<=10^4:=Nat.pow_le_pow_right ζ n4;have:10^dT [c0,c1,c2,c3] 88 88*(kI mo).length<=10^4*12:=Nat.mul_le_mul h10 lM;rw[aE];simp only[eH,eE];omega
   simp only[h2,h4,h5,h6,h7,h8,md,hX,g0,g1,g2,g3,bn,Bool.not_true,Α,reduceCtorEq,zAh];exact hQ
 | false=>
   have eM:Ya ng s e mo da=((Yh ng s e mo da).length:Int):=by unfold Ya;rw[hm,cond_false]
   rw[eM];have li:∀l:List Int,Uc l=l.length:=λ_=>rfl;have l1:ξ (kI mo).length 1000=true:=al.mpr δ;have l2:ξ (sd da).length 1000=true:=al.mpr δ;have l3:σ (aI (kI mo)).length (kI mo).length=true:=aJ.mpr cY;have l4:σ (aI (sd da)).length (sd da).length=true:=aJ.mpr cY;have l5:ξ (0+(kI mo).length*1) (aI (kI mo)).length=true:=al.mpr (by rw[cY];omega);have l6:ξ (0+(sd da).length*1) (aI (sd da)).length=true:=al.mpr (by rw[cY];omega);have n1:=@ow (kI mo);have n2:=@ow (sd da);have e1:=@oL (kI mo);have e2:=@oL (sd da);have bM:=@cz (kI mo);have bD:=@cz (sd da);have wM:=@qz (kI mo);have wD:=@qz (sd da);have hl:ab (0+ν (Yh ng s e mo da).length) 10000000=true:=aq.mpr (by rw[al]at hc;simp only[χ];omega);have fin:∀Q':AV->Prop,(∀q,q=AV.d [.a .i64 ((Yh ng s e mo da).length:Int),.a .i64 0]->Q' q)->Q' (.d [.a .i64 (0+ν (Yh ng s e mo da).length),.a .i64 0]):=λQ' h=>h _ (by rw[Int.zero_add];rfl);cases hd:ae da []with
   | false=>
     have nd:gU (sd da)=false:=by
      obtain⟨m0,m1,d0,d1,rfl,rfl,_,_,_,_,_,k1,_⟩:=adC (abb hE) hd;exact acT k1
     refine kA TV (L:=L64) Wg θ alY (bb λQ' hQ=>cg ((arN ng lg s e mo da a b c).mpr ?_)) (hid _);dsimp only;have f:=fin Q' hQ;try dsimp only
     simp only[li];rw[wM,wD,e1,e2,show Neg.neg (9223372036854775808:Int) = -9223372036854775808 from rfl,cn];simp only[h1,h2,h3,h4,h5,h6,h7,h8,md,ho,hx,am,l1,l2,l3,l4,l5,l6,n1,n2,bM,bD,show ab1 (yV ng s e (-9223372036854775808) true)=true from yb,hl,hd,nd,zAi,Γ,Bool.or_true,Bool.true_or,Β,reduceCtorEq,zAh];exact λ_ _=>f
   | true=>
     have hda:=oy.1 hd;subst hda;cases ng with
     | true=>
       refine kA TV (L:=L64) Wg θ alY (bb λQ' hQ=>cg ((arO lg s e mo a b c).mpr ?_)) (hid _);dsimp only;have f:=fin Q' hQ;try dsimp only
       simp only[li];rw[wM,e1,e2,show Neg.neg (9223372036854775808:Int) = -9223372036854775808 from rfl,cn];simp only[h1,h2,h3,h4,h5,h6,h7,h8,md,ho,hx,am,l1,l2,l3,l4,l5,l6,n1,n2,bM,bD,show ab1 (yV true s e (-9223372036854775808) true)=true from yb,hl,zAi,Γ,Bool.or_true,Bool.true_or,Β,reduceCtorEq,zAh];exact λ_ _=>f
     | false=>
       rw[hd]at hm;simp only[Α,Bool.true_and,Bool.not_eq_false']at hm;refine kA TV (L:=L64) Wg θ alY (bb λQ' hQ=>cg ((arP lg s e mo a b c).mpr ?_)) (hid _);dsimp only;have f:=fin Q' hQ;try dsimp only
       simp only[li];rw[wM,e1,e2,show Neg.neg (9223372036854775808:Int) = -9223372036854775808 from rfl,cn];simp only[h1,h2,h3,h4,h5,h6,h7,h8,md,ho,hx,am,hm,l1,l2,l3,l4,l5,l6,n1,n2,bM,bD,show ab1 (yV false s e (-9223372036854775808) true)=true from yb,hl,zAi,Γ,Bool.or_true,Bool.true_or,Β,reduceCtorEq,zAh];exact λ_ _=>f
theorem aiC{S:aQ}(hS:ak Tryz.prog cfg S):ak Tryz.prog cfg (aK S 112 ac2):=au hS λargs t v he hv=>by
 unfold ac2 at he;split at he
 . rename_i ng lg s e g mo da a b c;cases he;replace hv:=aF hv;obtain⟨⟨h1,h2,h3,h4,h5,h6,h7,h8,h9,h10,-⟩,hv⟩:=hv;rw[ao]at h5 h9;subst h5;cases hv;exact aqC h1 h2 h3 h4 h6 h7 h8 h9 h10
 . cases he
end Go.Ev
