import Derived.Test.YtoghlpcacfnjbaaGreatDoorP42
set_option linter.all false
set_option maxRecDepth 100000
set_option maxHeartbeats 4000000
namespace Go.Ev
open Go Go.Proofs
noncomputable def Qg:cz:=iz io 4 (eb 88 Ks QA)
def RX:d9:=λvs o=>match vs,o with
 | [.ptr 17 0,.int .i64 sm,.int .i64 y,.slice 15 0 nM km,.int .i64 lM,.int .i64 i],⟨4,[.cells [.bool ng,.bool lg,.str s,.int .i64 e,.int .i64 g,.str mo,.str da,.int .u8 a,.int .u8 b,.int .u8 c,.slice 15 0 nM' km',.slice 16 0 nD kd] true none,.cells w2 true gd,.cells w1 true gm,.cells B true none],[]⟩=>
   some (aH [aa i 0,aa lM (Int.ofNat nM),Nat.ble nM 1000,Nat.ble nD 1000,List.all w1 (cq .i64),List.all w2 (cq .i64),Nat.beq w1.length nM,Nat.beq w2.length nD,ab 0 sm,ab sm 1000000,gh y,mN da (gE w1),e_ B] (.ret (.exit 2,[.ptr 17 0,.int .i64 (sm+Int.ofNat (pH da (gE w1) (gE w2) y)),.int .i64 y,.slice 15 0 nM km,.int .i64 lM,.int .i64 lM],o)))
 | _,_=>none
def O7(ng lg:Bool)(s mo da:List UInt8)(e g a b c:Int)(w2 w1 B:List AV)(gd gm:Option Nat)(nM nM' nD:Nat)(km km' kd:eZ)(sm y:Int)(i:Nat)(J:Nat->Value){Q:VQ->Prop}:fx Q (rT NO Qg [] 64 1 88 Em [.ptr 17 0,.int .i64 sm,.int .i64 y,.slice 15 0 nM km,.int .i64 (Int.ofNat nM),.int .i64 (Int.ofNat i)] J ⟨4,[.cells [.bool ng,.bool lg,.str s,.int .i64 e,.int .i64 g,.str mo,.str da,.int .u8 a,.int .u8 b,.int .u8 c,.slice 15 0 nM' km',.slice 16 0 nD kd] true none,.cells w2 true gd,.cells w1 true gm,.cells B true none],[]⟩) (bA 1114002277002562204)=((λ(C E F O:AV)(A I N:Int)=>(λ(H:AV)(P:Bool)(G:Int)=>(λ(T:Bool)=>(P->aW i nM/\cq .i64 (List.getD w1 (HAdd.hAdd 0 (HMul.hMul i 1)) (.tuple []))/\af da []/\aa N N/\Nat.ble nD 1000/\List.all w2 (cq .i64)/\Nat.beq w2.length nD/\ab 0 sm/\ab sm 1000000000/\e_ w1/\e_ B/\(∀J1:Nat->Value,(T->Q (.normal,[C,O,E,F,H,.int .i64 G],⟨4,[.cells [.bool ng,.bool lg,.str s,.int .i64 e,.int .i64 g,.str mo,.str da,.int .u8 a,.int .u8 b,.int .u8 c,.slice 15 0 nM' km',.slice 16 0 nD kd] true none,.cells w2 true gd,.cells w1 true gm,.cells B true none],[]⟩))/\(T=false->Q (.normal,[C,O,E,F,H,.int .i64 (IntKind.wrap .i64 G)],⟨4,[.cells [.bool ng,.bool lg,.str s,.int .i64 e,.int .i64 g,.str mo,.str da,.int .u8 a,.int .u8 b,.int .u8 c,.slice 15 0 nM' km',.slice 16 0 nD kd] true none,.cells w2 true gd,.cells w1 true gm,.cells B true none],[]⟩))))/\(P=false->Q (.exit 2,[C,.int .i64 sm,E,F,H,.int .i64 A],⟨4,[.cells [.bool ng,.bool lg,.str s,.int .i64 e,.int .i64 g,.str mo,.str da,.int .u8 a,.int .u8 b,.int .u8 c,.slice 15 0 nM' km',.slice 16 0 nD kd] true none,.cells w2 true gd,.cells w1 true gm,.cells B true none],[]⟩))) (ae .i64 G)) (.int .i64 I) (not (ab I A)) (Int.add A 1)) (.ptr 17 0) (.int .i64 y) (.slice 15 0 nM km) (.int .i64 (HAdd.hAdd sm (Int.ofNat (og (gE w2) 0)))) (Int.ofNat i) (Int.ofNat nM) (Int.ofNat nD)):=by kernel_rfl
def O8(ng lg:Bool)(s mo da:List UInt8)(e g a b c:Int)(w2 w1 B:List AV)(gd gm:Option Nat)(nM nM' nD:Nat)(km km' kd:eZ)(sm y:Int)(i:Nat)(J:Nat->Value){Q:VQ->Prop}:fx Q (rT NO Qg [] 64 1 88 Em [.ptr 17 0,.int .i64 sm,.int .i64 y,.slice 15 0 nM km,.int .i64 (Int.ofNat nM),.int .i64 (Int.ofNat i)] J ⟨4,[.cells [.bool ng,.bool lg,.str s,.int .i64 e,.int .i64 g,.str mo,.str da,.int .u8 a,.int .u8 b,.int .u8 c,.slice 15 0 nM' km',.slice 16 0 nD kd] true none,.cells w2 true gd,.cells w1 true gm,.cells B true none],[]⟩) (bA 11140777002703562204)=((λ(C E F O:AV)(A N P:Int)=>(λ(I:AV)(T:Bool)(G H:Int)=>(λ(V:AV)(U:Bool)=>(T->aW i nM/\cq .i64 O/\af da []=false/\ab (Neg.neg 10000000000000000) y/\ab y 10000000000000000/\ab 1 G/\ab G 12/\aa P P/\Nat.ble nD 1000/\List.all w2 (cq .i64)/\Nat.beq w2.length nD/\ab 0 sm/\ab sm 1000000000/\e_ w1/\e_ B/\ae .i64 (bP y G)/\(∀J1:Nat->Value,(U->Q (.normal,[C,V,E,F,I,.int .i64 H],⟨4,[.cells [.bool ng,.bool lg,.str s,.int .i64 e,.int .i64 g,.str mo,.str da,.int .u8 a,.int .u8 b,.int .u8 c,.slice 15 0 nM' km',.slice 16 0 nD kd] true none,.cells w2 true gd,.cells w1 true gm,.cells B true none],[]⟩))/\(U=false->Q (.normal,[C,V,E,F,I,.int .i64 (IntKind.wrap .i64 H)],⟨4,[.cells [.bool ng,.bool lg,.str s,.int .i64 e,.int .i64 g,.str mo,.str da,.int .u8 a,.int .u8 b,.int .u8 c,.slice 15 0 nM' km',.slice 16 0 nD kd] true none,.cells w2 true gd,.cells w1 true gm,.cells B true none],[]⟩))))/\(T=false->Q (.exit 2,[C,.int .i64 sm,E,F,I,.int .i64 A],⟨4,[.cells [.bool ng,.bool lg,.str s,.int .i64 e,.int .i64 g,.str mo,.str da,.int .u8 a,.int .u8 b,.int .u8 c,.slice 15 0 nM' km',.slice 16 0 nD kd] true none,.cells w2 true gd,.cells w1 true gm,.cells B true none],[]⟩))) (.int .i64 (HAdd.hAdd sm (Int.ofNat (og (gE w2) (bP y G))))) (ae .i64 H)) (.int .i64 N) (not (ab N A)) (bC O) (Int.add A 1)) (.ptr 17 0) (.int .i64 y) (.slice 15 0 nM km) (List.getD w1 (HAdd.hAdd 0 (HMul.hMul i 1)) (.tuple [])) (Int.ofNat i) (Int.ofNat nM) (Int.ofNat nD)):=by kernel_rfl
def KG:(bj (lb 64 1)).map (·.1)=[4]:=by kernel_rfl
def Nr:((bj (lb 64 1)).getD 0 (0,.skip)).2=lb 64 2:=by kernel_rfl
theorem PZ:qv Tryz.prog (cH cfg NO) (Cw cfg []) Qg (lb 64 1):=by
 refine dv KG λi hi e he st Q hw=>?_;have hi:i=0:=by simp at hi;omega
 subst hi;cases he;rw[Nr];exact b7 (cF.good lm) (by decide) rfl Ui hw
theorem IN{f:Int->Nat}{M:List Int}{i:Nat}(h:i<M.length):la f (M.take (i+1))=la f (M.take i)+f (M.getD i 0):=by
 rw[oW h,CL];rfl
theorem Fg{f:Int->Nat}{b:Nat}(hf:∀m,f m<=b):∀{M:List Int},la f M<=M.length*b
 | []=>Nat.zero_le _
 | m::M=>by
   have:=@Fg f b hf M;have:=hf m;rw[la,zAd,Nat.add_mul];omega
theorem Mf{da:List UInt8}{D:List Int}{y m:Int}:oe da D y m<=D.length:=by unfold oe;exact List.length_filter_le _ _
theorem TQ:cx Tryz.prog (cH cfg NO) (Cw cfg []) (lb 64 1) 88 Em RX:=by
 intro vs o t Q hv hq J;unfold RX at hv;split at hv
 . rename_i sm y nM km lM i ng lg s e g mo da a b c nM' km' nD kd w2 gd w1 gm B;cases hv;replace hq:=cL hq;obtain⟨⟨k1,k2,k3,k4,k5,k6,k7,k8,k9,k10,k11,k12,k13,-⟩,hq⟩:=hq;rw[al]at k1 k2;rw[aq]at k3 k4;rw[aK]at k7 k8;rw[ao]at k9 k10;rw[fi]at k11;subst k1 k2;have ew1:=kA k5;have el1:(gE w1).length=w1.length:=by unfold gE;rw[List.length_map]
   have ew2:=kA k6;have el2:(gE w2).length=w2.length:=by unfold gE;rw[List.length_map]
   generalize gE w1=M at *;generalize gE w2=D at *;rw[k7]at el1;rw[k8]at el2;subst el1 ew1 el2 ew2;have hq:Q (.exit 2,[.ptr 17 0,.int .i64 (sm+Int.ofNat (pH da M D y)),.int .i64 y,.slice 15 0 M.length km,.int .i64 (Int.ofNat M.length),.int .i64 (Int.ofNat M.length)],⟨4,[.cells [.bool ng,.bool lg,.str s,.int .i64 e,.int .i64 g,.str mo,.str da,.int .u8 a,.int .u8 b,.int .u8 c,.slice 15 0 nM' km',.slice 16 0 D.length kd] true none,.cells (aQ D) true gd,.cells (aQ M) true gm,.cells B true none],[]⟩):=hq;refine im lm rfl rfl PZ (ι:={i:Nat // i<=M.length}) (λz=>[.ptr 17 0,.int .i64 (sm+Int.ofNat (la (oe da D y) (M.take z.1))),.int .i64 y,.slice 15 0 M.length km,.int .i64 (Int.ofNat M.length),.int .i64 (Int.ofNat z.1)]) (λz=>⟨4,[.cells [.bool ng,.bool lg,.str s,.int .i64 e,.int .i64 g,.str mo,.str da,.int .u8 a,.int .u8 b,.int .u8 c,.slice 15 0 nM' km',.slice 16 0 D.length kd] true none,.cells (aQ D) true gd,.cells (aQ M) true gm,.cells B true none],[]⟩) (λz=>M.length-z.1) 4 (λz=>Nat.le_refl _) (λz J=>?_) (Nat.le_refl _) (λJ=>Wk.refl ⟨⟨0,Nat.zero_le _⟩,J,by simp only[List.take_zero];rw[show sm+Int.ofNat (la (oe da D y) [])=sm from Int.add_zero sm];rfl⟩) J;obtain⟨i,hi⟩:=z;dsimp only;have one:=@IN (oe da D y) M i;have hcl:la (oe da D y) (M.take i)<=1000000:=by
    have h1:=@Fg (oe da D y) 1000 (λm=>Nat.le_trans Mf k4) (M.take i);rw[List.length_take]at h1;have h2:min i M.length*1000<=1000*1000:=Nat.mul_le_mul_right _ (by omega);omega
   have fin:i=M.length->∃vs2 o2,VW cfg (Cw cfg []) 4 88 Em [.ptr 17 0,.int .i64 (sm+Int.ofNat (la (oe da D y) (M.take i))),.int .i64 y,.slice 15 0 M.length km,.int .i64 (Int.ofNat M.length),.int .i64 (Int.ofNat i)] ⟨4,[.cells [.bool ng,.bool lg,.str s,.int .i64 e,.int .i64 g,.str mo,.str da,.int .u8 a,.int .u8 b,.int .u8 c,.slice 15 0 nM' km',.slice 16 0 D.length kd] true none,.cells (aQ D) true gd,.cells (aQ M) true gm,.cells B true none],[]⟩ vs2 o2/\Q (.exit 2,vs2,o2):=λh=>by
    subst h;rw[List.take_length];exact⟨_,_,VW.refl,hq⟩
   have go:i<M.length->∀vs o,VW cfg (Cw cfg []) 4 88 Em vs o [.ptr 17 0,.int .i64 (sm+Int.ofNat (la (oe da D y) (M.take (i+1)))),.int .i64 y,.slice 15 0 M.length km,.int .i64 (Int.ofNat M.length),.int .i64 (Int.ofNat (i+1))] ⟨4,[.cells [.bool ng,.bool lg,.str s,.int .i64 e,.int .i64 g,.str mo,.str da,.int .u8 a,.int .u8 b,.int .u8 c,.slice 15 0 nM' km',.slice 16 0 D.length kd] true none,.cells (aQ D) true gd,.cells (aQ M) true gm,.cells B true none],[]⟩->∃z:{i:Nat // i<=M.length},M.length-z.1<M.length-i/\VW cfg (Cw cfg []) 4 88 Em vs o [.ptr 17 0,.int .i64 (sm+Int.ofNat (la (oe da D y) (M.take z.1))),.int .i64 y,.slice 15 0 M.length km,.int .i64 (Int.ofNat M.length),.int .i64 (Int.ofNat z.1)] ⟨4,[.cells [.bool ng,.bool lg,.str s,.int .i64 e,.int .i64 g,.str mo,.str da,.int .u8 a,.int .u8 b,.int .u8 c,.slice 15 0 nM' km',.slice 16 0 D.length kd] true none,.cells (aQ D) true gd,.cells (aQ M) true gm,.cells B true none],[]⟩:=λh vs o hv=>⟨⟨i+1,h⟩,by dsimp only;omega,hv⟩;clear hq;have ca:=@qT M i;have om:i<M.length->okM da (M.getD i 0)=true:=λh=>by
    unfold mN at k12;rw[zAe,List.getElem?_eq_getElem h];exact List.all_eq_true.1 k12 _ (List.getElem_mem _)
   have n1:=@rB M;have l1:=aq.mpr k4;have l2:=@gR D;have l3:Nat.beq (aQ D).length D.length=true:=aK.mpr dF;have l4:aa (Int.ofNat D.length) (Int.ofNat D.length)=true:=al.mpr rfl;have eu:=@jo D;by_cases h0:i<M.length
   . have go2:=go h0;rw[one h0]at go2;generalize la (oe da D y) (M.take i)=m at *;have hl:aW i M.length=true:=aS.2 h0;have b3:ae .i64 (Int.add (Int.ofNat i) 1)=true:=by rw[aB];simp only[dP,dR];show _<=(i:Int)+1/\(i:Int)+1<=_;omega
     have s1:ab 0 (sm+Int.ofNat m)=true:=ao.mpr (by have:(0:Int)<=Int.ofNat m:=Int.natCast_nonneg m;omega);have s2:ab (sm+Int.ofNat m) 1000000000=true:=ao.mpr (by simp only[Int.ofNat_eq_natCast];omega);have om:=om h0;have ca:=ca h0;clear go fin one;have eS:∀k:Nat,sm+Int.ofNat (m+k)=sm+Int.ofNat m+Int.ofNat k:=λk=>by simp only[Int.ofNat_eq_natCast];omega
     rw[eS]at go2;have eC:oe da D y (M.getD i 0)=og D (nw y (M.getD i 0) da):=rfl;rw[eC]at go2;unfold nw at go2;cases hd:af da []with
     | true=>
       rw[hd,cond_true]at go2;refine dD λQ' hQ=>bG ((O7 ng lg s mo da e g a b c (aQ D) (aQ M) B gd gm M.length nM' D.length km km' kd (sm+Int.ofNat m) y i J).mpr ?_);dsimp only;have go3:=hQ (.normal,_,_) (go2 _ _ VW.refl);try dsimp only
       rw[jB,decide_eq_false (by omega),ca];simp only[cq,bC,gN,kS,show Nat.beq 3 3=true from rfl,hl,hd,b3,s1,s2,n1,k13,l1,l2,l3,l4,eu,Bool.not_false,reduceCtorEq,zAh];exact λ_=>go3
     | false=>
       rw[hd,cond_false]at go2;refine dD λQ' hQ=>bG ((O8 ng lg s mo da e g a b c (aQ D) (aQ M) B gd gm M.length nM' D.length km km' kd (sm+Int.ofNat m) y i J).mpr ?_);dsimp only;have go3:=hQ (.normal,_,_) (go2 _ _ VW.refl);try dsimp only
       rw[jB,decide_eq_false (by omega),ca];unfold okM at om;rw[hd,Bool.false_or,zAa]at om;generalize M.getD i 0=mm at *;have ml:=jl y mm;have b5:ae .i64 (bP y mm)=true:=by rw[aB];simp only[dP,dR];omega
       have y1:ab (Neg.neg 10000000000000000) y=true:=ao.mpr k11.1;have y2:=ao.mpr k11.2;simp only[cq,bC,gN,kS,show Nat.beq 3 3=true from rfl,hl,hd,b3,b5,s1,s2,n1,k13,l1,l2,l3,l4,eu,y1,y2,om.1,om.2,Bool.not_false,reduceCtorEq,zAh];exact λ_=>go3
   . have hd2:af da []\/af da []=false:=by cases af da []<;>simp
     rcases hd2 with hd|hd
     . refine dD λQ' hQ=>bG ((O7 ng lg s mo da e g a b c (aQ D) (aQ M) B gd gm M.length nM' D.length km km' kd (sm+Int.ofNat (la (oe da D y) (M.take i))) y i J).mpr ?_);dsimp only;have fin2:=hQ (.exit 2,_,_) (fin (by omega));try dsimp only
       rw[jB,decide_eq_true (by omega)];simp only[Bool.not_true,reduceCtorEq,zAh];exact fin2
     . refine dD λQ' hQ=>bG ((O8 ng lg s mo da e g a b c (aQ D) (aQ M) B gd gm M.length nM' D.length km km' kd (sm+Int.ofNat (la (oe da D y) (M.take i))) y i J).mpr ?_);dsimp only;have fin2:=hQ (.exit 2,_,_) (fin (by omega));try dsimp only
       rw[jB,decide_eq_true (by omega)];simp only[Bool.not_true,reduceCtorEq,zAh];exact fin2
 . cases hv
noncomputable def XC:cz:=iz io 2 (eb 88 Em RX)
abbrev T0:List Nat:=[5,8,9,10]
def QN:d9:=λvs o=>match vs,o with
 | [.ptr 17 0,.int .i64 sm,.int .i64 y,.bool ok],⟨4,[.cells [.bool ng,.bool lg,.str s,.int .i64 e,.int .i64 g,.str mo,.str da,.int .u8 a,.int .u8 b,.int .u8 c,.slice 15 0 nM km,.slice 16 0 nD kd] true none,.cells w2 true gd,.cells w1 true gm,.cells B true none],[]⟩=>
   some (aH [Nat.ble nM 1000,Nat.ble nD 1000,List.all w1 (cq .i64),List.all w2 (cq .i64),Nat.beq w1.length nM,Nat.beq w2.length nD,ab 0 sm,gh y,mN da (gE w1),e_ B,aZ ng lg s e g,Nat.ble s.length 1000,k_ s,ab (sm+Int.ofNat (nv ng s e da (gE w1) (gE w2) y ok)) 1000000] (.all λJ=>.ret (.exit 0,[.ptr 17 0,.int .i64 (sm+Int.ofNat (nv ng s e da (gE w1) (gE w2) y ok)),.any (J 0),.bool false],o)))
 | _,_=>none
def HH:(bj (lb 64 0)).map (·.1)=[2,4]:=by kernel_rfl
def Ku:((bj (lb 64 0)).getD 0 (0,.skip)).2=lb 64 1:=by kernel_rfl
theorem Ra:qv Tryz.prog (cH cfg NO) (Cw cfg []) XC (lb 64 0):=by
 refine dv HH λi hi e he st Q hw=>?_;have hi:i=0\/i=1:=by simp at hi;omega
 rcases hi with rfl|rfl
 . cases he;rw[Ku];exact b7 (cF.good lm) (by decide) rfl TQ hw
 . cases he
theorem TB:cx Tryz.prog (cH cfg NO) (Cw cfg []) (lb 64 0) 88 T0 QN:=by
 intro vs o t Q hv hq J;unfold QN at hv;split at hv
 . rename_i sm y ok ng lg s e g mo da a b c nM km nD kd w2 gd w1 gm B;cases hv;replace hq:=cL hq;obtain⟨⟨k3,k4,k5,k6,k7,k8,k9,k11,k12,k13,o1,o2,o3,k14,-⟩,hq⟩:=hq;rw[aq]at k3 k4;rw[aK]at k7 k8;rw[ao]at k9 k14;rw[fi]at k11;have ew1:=kA k5;have el1:(gE w1).length=w1.length:=by unfold gE;rw[List.length_map]
   have ew2:=kA k6;have el2:(gE w2).length=w2.length:=by unfold gE;rw[List.length_map]
   generalize gE w1=M at *;generalize gE w2=D at *;rw[k7]at el1;rw[k8]at el2;subst el1 ew1 el2 ew2;have hq:∀J:Nat->Value,Q (.exit 0,[.ptr 17 0,.int .i64 (sm+Int.ofNat (nv ng s e da M D y ok)),.any (J 0),.bool false],⟨4,[.cells [.bool ng,.bool lg,.str s,.int .i64 e,.int .i64 g,.str mo,.str da,.int .u8 a,.int .u8 b,.int .u8 c,.slice 15 0 M.length km,.slice 16 0 D.length kd] true none,.cells (aQ D) true gd,.cells (aQ M) true gm,.cells B true none],[]⟩):=hq;refine im lm rfl rfl Ra (ι:={x:Int×Int×Bool // (-10000000000000000<=x.2.1/\x.2.1<=10000000000000000)/\0<=x.1/\sm+Int.ofNat (nv ng s e da M D y ok)=x.1+Int.ofNat (nv ng s e da M D x.2.1 x.2.2)}) (λx=>[.ptr 17 0,.int .i64 x.1.1,.int .i64 x.1.2.1,.bool x.1.2.2]) (λx=>⟨4,[.cells [.bool ng,.bool lg,.str s,.int .i64 e,.int .i64 g,.str mo,.str da,.int .u8 a,.int .u8 b,.int .u8 c,.slice 15 0 M.length km,.slice 16 0 D.length kd] true none,.cells (aQ D) true gd,.cells (aQ M) true gm,.cells B true none],[]⟩) (λx=>DP x.1.2.1 x.1.2.2) 4 (λz=>Nat.le_refl _) (λx J=>?_) (Nat.le_refl _) (λJ=>Wk.refl ⟨⟨(sm,y,ok),k11,k9,rfl⟩,J,rfl⟩) J;obtain⟨⟨s0,z,zk⟩,hz,hs0,hs⟩:=x;dsimp only at hz hs0 hs ⊢;refine jT (bA 112771277400067777004) (R:=λQ=>(λ(C W:AV)(U V:Bool)(A I:Int)(N O P T:Nat)=>(λ(E F G:Bool)(H:Int)=>(λ(Y:Bool)=>(zk->aa I I/\Nat.ble M.length 1000/\Nat.ble D.length 1000/\List.all (aQ M) (cq .i64)/\List.all (aQ D) (cq .i64)/\Nat.beq N M.length/\Nat.beq O D.length/\ab 0 s0/\ab s0 1000000/\gh z/\mN da (gE (aQ M))/\e_ B/\(∀J1:Nat->Value,(E->Y/\F/\G/\E/\U/\V/\k_ s/\Q (.normal,[C,W,.int .i64 (yV ng s e A true),.bool (yB ng s e A true)],⟨4,[.cells [.bool ng,.bool lg,.str s,.int .i64 e,.int .i64 g,.str mo,.str da,.int .u8 a,.int .u8 b,.int .u8 c,.slice 15 0 M.length km,.slice 16 0 D.length kd] true none,.cells (aQ D) true gd,.cells (aQ M) true gm,.cells B true none],[]⟩))/\(E=false->Y/\F/\G/\ae .i64 H/\U/\V/\k_ s/\Q (.normal,[C,W,.int .i64 (yV ng s e H true),.bool (yB ng s e H true)],⟨4,[.cells [.bool ng,.bool lg,.str s,.int .i64 e,.int .i64 g,.str mo,.str da,.int .u8 a,.int .u8 b,.int .u8 c,.slice 15 0 M.length km,.slice 16 0 D.length kd] true none,.cells (aQ D) true gd,.cells (aQ M) true gm,.cells B true none],[]⟩))))/\(zk=false->Q (.exit 0,[C,.int .i64 s0,.int .i64 z,.bool zk],⟨4,[.cells [.bool ng,.bool lg,.str s,.int .i64 e,.int .i64 g,.str mo,.str da,.int .u8 a,.int .u8 b,.int .u8 c,.slice 15 0 M.length km,.slice 16 0 D.length kd] true none,.cells (aQ D) true gd,.cells (aQ M) true gm,.cells B true none],[]⟩))) (and (and true (and (Nat.ble (HAdd.hAdd 0 P) N) F)) (and (Nat.ble (HAdd.hAdd 0 T) O) G))) (ae .i64 A) (bw 14 (cN (aQ M) 0 P)) (bw 14 (cN (aQ D) 0 T)) (IntKind.wrap .i64 A)) (.ptr 17 0) (.int .i64 (HAdd.hAdd s0 (Int.ofNat (pH da (gE (aQ M)) (gE (aQ D)) z)))) (aZ ng lg s e g) (Nat.ble s.length 1000) (Int.add z 1) (Int.ofNat M.length) (aQ M).length (aQ D).length (HMul.hMul M.length 1) (HMul.hMul D.length 1)) (λ_=>by kernel_rfl) λQ' hQ=>?_;try dsimp only
   have n1:=@gR M;have n2:=@gR D;have n3:Nat.beq (aQ M).length M.length=true:=aK.mpr dF;have n4:Nat.beq (aQ D).length D.length=true:=aK.mpr dF;have n5:aa (Int.ofNat M.length) (Int.ofNat M.length)=true:=al.mpr rfl;have n6:Nat.ble (0+M.length*1) (aQ M).length=true:=aq.mpr (by rw[dF];omega);have n7:Nat.ble (0+D.length*1) (aQ D).length=true:=aq.mpr (by rw[dF];omega);have m1:=aq.mpr k3;have m2:=aq.mpr k4;have e1:=@jo M;have e2:=@jo D;have bM:=@cZ M;have bD:=@cZ D;rw[hs]at hq k14;have s1:ab 0 s0=true:=ao.mpr hs0;have s2:ab s0 1000000=true:=ao.mpr (by have:(0:Int)<=Int.ofNat (nv ng s e da M D z zk):=Int.natCast_nonneg _;omega);have yb:=fi.2 hz;have yi:ae .i64 (Int.add z 1)=true:=by rw[aB];simp only[dP,dR];show _<=z+1/\z+1<=_;omega
   try dsimp only
   cases zk with
   | false=>
     rw[Fm,show s0+Int.ofNat 0=s0 from Int.add_zero s0]at hq;have fin2:=hQ (.exit 0,[.ptr 17 0,.int .i64 s0,.int .i64 z,.bool false],⟨4,[.cells [.bool ng,.bool lg,.str s,.int .i64 e,.int .i64 g,.str mo,.str da,.int .u8 a,.int .u8 b,.int .u8 c,.slice 15 0 M.length km,.slice 16 0 D.length kd] true none,.cells (aQ D) true gd,.cells (aQ M) true gm,.cells B true none],[]⟩) ⟨_,_,VW.any (.same (.same (.int (.same .nil)))) rfl,hq (jv [_])⟩;simp only[reduceCtorEq,zAh];exact fin2
   | true=>
     have nx:=@zP ng lg s e g da M D z o1 hz.2;have hmu:=iD (ng:=ng) (s:=s) (e:=e) hz.2;have hbn:=i7 (n:=z+1) (up:=true) o1;have hsum:sm+Int.ofNat (nv ng s e da M D y ok)=s0+Int.ofNat (pH da M D z)+Int.ofNat (nv ng s e da M D (yV ng s e (z+1) true) (yB ng s e (z+1) true)):=by
      rw[hs,nx];simp only[Int.ofNat_eq_natCast];omega
     have h0:0<=s0+Int.ofNat (pH da M D z):=by have:(0:Int)<=Int.ofNat (pH da M D z):=Int.natCast_nonneg _;omega
     have go3:=hQ (.normal,_,_) ⟨⟨(s0+Int.ofNat (pH da M D z),yV ng s e (z+1) true,yB ng s e (z+1) true),hbn,h0,hsum⟩,hmu,VW.refl⟩;rw[ta,ta];simp only[n1,n2,n3,n4,n5,n6,n7,m1,m2,e1,e2,bM,bD,s1,s2,yb,yi,o1,o2,o3,k12,k13,Bool.and_self,Bool.and_true,Bool.true_and,reduceCtorEq,zAh];exact λ_=>go3
 . cases hv
noncomputable def W3:cz:=iz io 0 (eb 88 T0 QN)
def DS:dJ:=λargs=>match args with
 | [.agg [.bool ng,.bool lg,.str s,.int .i64 e,.int .i64 g,.str mo,.str da,.int .u8 a,.int .u8 b,.int .u8 c]]=>some (aH [Nat.ble s.length 1000,Nat.ble mo.length 1000,Nat.ble da.length 1000,ae .i64 e,aa g 0,ae .u8 a,ae .u8 b,ae .u8 c,aa (bJ ng lg s e g mo da a b c) 0,Nat.ble (bZ ng s e mo da).length 1000000] (.ret (.tuple [.int .i64 (gS ng s e mo da),.int .i64 0])))
 | _=>none
def Ec:(bj (aN 64)).map (·.1)=[0,2,4]:=by kernel_rfl
theorem J6:qv Tryz.prog (cH cfg NO) (Cw cfg []) W3 (aN 64):=by
 refine dv Ec λi hi e he st Q hw=>?_;have hi:i=0\/i=1\/i=2:=by simp at hi;omega
 rcases hi with rfl|rfl|rfl
 . cases he;exact b7 (cF.good lm) (by decide) rfl TB hw
 . cases he
 . cases he
theorem wu{s:List UInt8}{g:Nat}:(Bx s g).length<=g:=by
 unfold Bx;split
 . exact eU _ _ _
 . exact Nat.zero_le _
theorem JA{mo:List UInt8}:(cu mo).length<=12:=by
 unfold cu;cases af mo []with
 | true=>simp
 | false=>
   cases aa (aL mo) 0 with
   | true=>exact wu
   | false=>simp
theorem Io{da:List UInt8}:(eX da).length<=31:=by
 unfold eX;cases af da []with
 | true=>simp
 | false=>exact wu
theorem Ky{ng lg:Bool}{s:List UInt8}{e:Int}{mo da:List UInt8}{a b c:Int}(hE:bJ ng lg s e 0 mo da a b c=0):mN da (cu mo)=true:=by
 cases hd:af da []with
 | true=>
   unfold mN okM;rw[hd];simp
 | false=>
   obtain⟨m0,m1,d0,d1,rfl,rfl,_,_,_,_,_,_,hse,_⟩:=iT (iG hE) hd;have:cu [m0,m1]=aw m0 m1 12:=by unfold cu;rw[al.mpr hse];rfl
   rw[this];exact oZ
theorem PW{ng lg:Bool}{s:List UInt8}{e:Int}{mo da:List UInt8}{a b c:Int}(h1:Nat.ble s.length 1000)(h2:Nat.ble mo.length 1000)(h3:Nat.ble da.length 1000)(h4:ae .i64 e)(h5:ae .u8 a)(h6:ae .u8 b)(h7:ae .u8 c)(hE:bJ ng lg s e 0 mo da a b c=0)(hc:Nat.ble (bZ ng s e mo da).length 1000000) :
 bt Tryz.prog cfg 64 [.agg [.bool ng,.bool lg,.str s,.int .i64 e,.int .i64 0,.str mo,.str da,.int .u8 a,.int .u8 b,.int .u8 c]] [] (.tuple [.int .i64 (gS ng s e mo da),.int .i64 0]) []:=by
 have h8:=al.mpr hE;obtain⟨ho,hx,_⟩:=fm (iG hE) fo;have md:=Fp hE;have am:=Ky hE;have cn:=@Mu ng lg s e 0 mo da ho hx;have yb:gh (yV ng s e (Neg.neg 9223372036854775808) true)=true:=fi.2 (i7 ho);have lM:=@JA mo;have lD:=@Io da;have hid:∀n:Int,aD (.tuple [.int .i64 n,.int .i64 0])=[]:=λn=>by simp[aD,bz]
 cases hm:(af da []&&(!ng&&!(Nat.beq (aT s 88 88) 0)))with
 | true=>
   have eM:gS ng s e mo da=((10^aT s 88 88*(cu mo).length:Nat):Int):=by unfold gS;rw[hm,cond_true]
   rw[eM];simp only[zAa,Bool.not_eq_true',aP]at hm;obtain⟨rfl,rfl,hX⟩:=hm;obtain⟨c0,c1,c2,c3,rfl,g0,g1,g2,g3⟩:=rW hx hX;have n4:=m7 [c0,c1,c2,c3] 88 88;refine kP lm ag (bA 1140270020667020202056370202566) (R:=λQ=>(λ(E:AV)(B:Bool)(C:List UInt8)=>(λ(F:Nat)=>(λ(A:Int)=>(λ(G:Bool)=>(λ(H:Prop->Prop)=>H (not (aa (bJ false lg C e 0 mo [] a b c) 0)=false/\sQ mo []/\H (not (Nat.beq F 0)/\cg c0/\cg c1/\cg c2/\cg c3/\(G->Q (.tuple [.int .i64 A,E]))/\(G=false->Q (.tuple [.int .i64 (IntKind.wrap .i64 A),E]))))) (λu0=>B/\ae .i64 e/\ae .u8 a/\ae .u8 b/\ae .u8 c/\u0)) (ae .i64 A)) (Int.mul (jJ (Int.ofNat F)) (Int.ofNat (lc (cu mo))))) (aT C 88 88)) (.int .i64 0) (Nat.ble mo.length 1000) [c0,c1,c2,c3]) (λ_=>by kernel_rfl) (hi:=(hid _)) λQ' hQ=>?_;try dsimp only
   have ep:Int.mul (jJ (Int.ofNat (aT [c0,c1,c2,c3] 88 88))) (Int.ofNat (lc (cu mo)))=((10^aT [c0,c1,c2,c3] 88 88*(cu mo).length:Nat):Int):=by
    rw[Int.natCast_mul];rfl
   rw[ep];have bn:ae .i64 ((10^aT [c0,c1,c2,c3] 88 88*(cu mo).length:Nat):Int)=true:=by
    simp only[zAd,List.length_nil]at n4;have h10:10^aT [c0,c1,c2,c3] 88 88<=10^4:=Nat.pow_le_pow_right (by decide) n4;have:10^aT [c0,c1,c2,c3] 88 88*(cu mo).length<=10^4*12:=Nat.mul_le_mul h10 lM;rw[aB];simp only[dP,dR];omega
   simp only[h2,h4,h5,h6,h7,h8,md,hX,g0,g1,g2,g3,bn,Bool.not_true,Bool.not_false,reduceCtorEq,zAh];exact hQ
 | false=>
   have eM:gS ng s e mo da=((bZ ng s e mo da).length:Int):=by unfold gS;rw[hm,cond_false]
   rw[eM];have li:∀l:List Int,lc l=l.length:=λ_=>rfl;have l1:Nat.ble (cu mo).length 1000=true:=aq.mpr (by omega);have l2:Nat.ble (eX da).length 1000=true:=aq.mpr (by omega);have l3:Nat.beq (aQ (cu mo)).length (cu mo).length=true:=aK.mpr dF;have l4:Nat.beq (aQ (eX da)).length (eX da).length=true:=aK.mpr dF;have l5:Nat.ble (0+(cu mo).length*1) (aQ (cu mo)).length=true:=aq.mpr (by rw[dF];omega);have l6:Nat.ble (0+(eX da).length*1) (aQ (eX da)).length=true:=aq.mpr (by rw[dF];omega);have n1:=@gR (cu mo);have n2:=@gR (eX da);have e1:=@jo (cu mo);have e2:=@jo (eX da);have bM:=@cZ (cu mo);have bD:=@cZ (eX da);have wM:=@ta (cu mo);have wD:=@ta (eX da);have hl:ab (0+Int.ofNat (bZ ng s e mo da).length) 1000000=true:=ao.mpr (by rw[aq]at hc;simp only[Int.ofNat_eq_natCast];omega);have fin:∀Q':AV->Prop,(∀q,q=AV.tuple [.int .i64 ((bZ ng s e mo da).length:Int),.int .i64 0]->Q' q)->Q' (.tuple [.int .i64 (0+Int.ofNat (bZ ng s e mo da).length),.int .i64 0]):=λQ' h=>h _ (by rw[Int.zero_add];rfl);cases hd:af da []with
   | false=>
     have nd:g9 (eX da)=false:=by
      obtain⟨m0,m1,d0,d1,rfl,rfl,_,_,_,_,_,k1,_⟩:=iT (iG hE) hd;exact tB k1
     refine iI lm (L:=W3) J6 (bA 127022077707556338002702270563702700066) (R:=λQ=>(λ(B G H I N:Bool)(O:Int)(C:List AV)(F:List Int)=>(λ(T:Bool)(E:List AV)(P:Nat)(A:Prop)=>(λ(V:Bool)(W:Int)(U:Nat)=>(λ(Y:Prop->Prop)=>Y (not (aa (bJ ng lg s e 0 mo da a b c) 0)=false/\sQ mo da/\Y (or I (not (g9 F))/\A/\A/\A/\A/\A/\and (and true (and (Nat.ble (HAdd.hAdd 0 (HMul.hMul (lc (cu mo)) 1)) P) T)) (and (Nat.ble (HAdd.hAdd 0 (HMul.hMul (lc F) 1)) U) V)/\T/\V/\N/\B/\k_ s/\Nat.ble (lc (cu mo)) 1000/\Nat.ble (lc F) 1000/\List.all C (cq .i64)/\List.all E (cq .i64)/\Nat.beq P (lc (cu mo))/\Nat.beq U (lc F)/\gh O/\mN da (gE C)/\N/\B/\k_ s/\ab W 1000000/\(∀J1 J2:Nat->Value,Q (.tuple [.int .i64 W,.int .i64 0]))))) (λu0=>B/\G/\H/\ae .i64 e/\ae .u8 a/\ae .u8 b/\ae .u8 c/\u0)) (bw 14 (cN E 0 (HMul.hMul (lc F) 1))) (HAdd.hAdd 0 (Int.ofNat (nv ng s e da (gE C) (gE E) O (yB ng s e (Neg.neg 9223372036854775808) true)))) E.length) (bw 14 (cN C 0 (HMul.hMul (lc (cu mo)) 1))) (aQ F) C.length (I=false)) (Nat.ble s.length 1000) (Nat.ble mo.length 1000) (Nat.ble da.length 1000) (af da []) (aZ ng lg s e 0) (yV ng s e (Neg.neg 9223372036854775808) true) (aQ (cu mo)) (eX da)) (λ_=>by kernel_rfl) (hi:=(hid _)) λQ' hQ=>?_;try dsimp only
     have f:=fin Q' hQ;try dsimp only
     simp only[li];rw[wM,wD,e1,e2,show Neg.neg (9223372036854775808:Int) = -9223372036854775808 from rfl,cn];simp only[h1,h2,h3,h4,h5,h6,h7,h8,md,ho,hx,am,l1,l2,l3,l4,l5,l6,n1,n2,bM,bD,show gh (yV ng s e (-9223372036854775808) true)=true from yb,hl,hd,nd,zAi,Bool.and_self,Bool.or_true,Bool.true_or,Bool.false_or,reduceCtorEq,zAh];exact λ_ _=>f
   | true=>
     have hda:=aP.1 hd;subst hda;cases ng with
     | true=>
       refine iI lm (L:=W3) J6 (bA 127022002020270022556670207056370202200066) (R:=λQ=>(λ(A C E:Bool)(F:Int)(B:List AV)=>(λ(H:Bool)(I:Int)(G:Nat)=>(λ(N:Prop->Prop)=>N (not (aa (bJ true lg s e 0 mo [] a b c) 0)=false/\sQ mo []/\N (and (and true (and (Nat.ble (HAdd.hAdd 0 (HMul.hMul (lc (cu mo)) 1)) G) H)) true/\H/\E/\A/\k_ s/\Nat.ble (lc (cu mo)) 1000/\List.all B (cq .i64)/\Nat.beq G (lc (cu mo))/\gh F/\mN [] (gE B)/\E/\A/\k_ s/\ab I 1000000/\(∀J1 J2:Nat->Value,Q (.tuple [.int .i64 I,.int .i64 0]))))) (λu0=>A/\C/\ae .i64 e/\ae .u8 a/\ae .u8 b/\ae .u8 c/\u0)) (bw 14 (cN B 0 (HMul.hMul (lc (cu mo)) 1))) (HAdd.hAdd 0 (Int.ofNat (nv true s e [] (gE B) (gE (aQ (eX []))) F (yB true s e (Neg.neg 9223372036854775808) true)))) B.length) (Nat.ble s.length 1000) (Nat.ble mo.length 1000) (aZ true lg s e 0) (yV true s e (Neg.neg 9223372036854775808) true) (aQ (cu mo))) (λ_=>by kernel_rfl) (hi:=(hid _)) λQ' hQ=>?_;try dsimp only
       have f:=fin Q' hQ;try dsimp only
       simp only[li];rw[wM,e1,e2,show Neg.neg (9223372036854775808:Int) = -9223372036854775808 from rfl,cn];simp only[h1,h2,h3,h4,h5,h6,h7,h8,md,ho,hx,am,l1,l2,l3,l4,l5,l6,n1,n2,bM,bD,show gh (yV true s e (-9223372036854775808) true)=true from yb,hl,zAi,Bool.and_self,Bool.or_true,Bool.true_or,Bool.false_or,reduceCtorEq,zAh];exact λ_ _=>f
     | false=>
       rw[hd]at hm;simp only[Bool.not_false,Bool.true_and,Bool.not_eq_false']at hm;refine iI lm (L:=W3) J6 (bA 1270220020202700220006306670207056370202200066) (R:=λQ=>(λ(A C E:Bool)(F:Int)(B:List AV)=>(λ(H:Bool)(I:Int)(G:Nat)=>(λ(N:Prop->Prop)=>N (not (aa (bJ false lg s e 0 mo [] a b c) 0)=false/\sQ mo []/\N (not (Nat.beq (aT s 88 88) 0)=false/\and (and true (and (Nat.ble (HAdd.hAdd 0 (HMul.hMul (lc (cu mo)) 1)) G) H)) true/\H/\E/\A/\k_ s/\Nat.ble (lc (cu mo)) 1000/\List.all B (cq .i64)/\Nat.beq G (lc (cu mo))/\gh F/\mN [] (gE B)/\E/\A/\k_ s/\ab I 1000000/\(∀J1 J2:Nat->Value,Q (.tuple [.int .i64 I,.int .i64 0]))))) (λu0=>A/\C/\ae .i64 e/\ae .u8 a/\ae .u8 b/\ae .u8 c/\u0)) (bw 14 (cN B 0 (HMul.hMul (lc (cu mo)) 1))) (HAdd.hAdd 0 (Int.ofNat (nv false s e [] (gE B) (gE (aQ (eX []))) F (yB false s e (Neg.neg 9223372036854775808) true)))) B.length) (Nat.ble s.length 1000) (Nat.ble mo.length 1000) (aZ false lg s e 0) (yV false s e (Neg.neg 9223372036854775808) true) (aQ (cu mo))) (λ_=>by kernel_rfl) (hi:=(hid _)) λQ' hQ=>?_;try dsimp only
       have f:=fin Q' hQ;try dsimp only
       simp only[li];rw[wM,e1,e2,show Neg.neg (9223372036854775808:Int) = -9223372036854775808 from rfl,cn];simp only[h1,h2,h3,h4,h5,h6,h7,h8,md,ho,hx,am,hm,l1,l2,l3,l4,l5,l6,n1,n2,bM,bD,show gh (yV false s e (-9223372036854775808) true)=true from yb,hl,zAi,Bool.and_self,Bool.or_true,Bool.true_or,Bool.false_or,reduceCtorEq,zAh];exact λ_ _=>f
theorem Kb{S:aR}(hS:ak Tryz.prog cfg S):ak Tryz.prog cfg (aY S 64 DS):=au hS λargs t v he hv=>by
 unfold DS at he;split at he
 . rename_i ng lg s e g mo da a b c;cases he;replace hv:=aF hv;obtain⟨⟨h1,h2,h3,h4,h5,h6,h7,h8,h9,h10,-⟩,hv⟩:=hv;rw[al]at h5 h9;subst h5;cases hv;exact PW h1 h2 h3 h4 h6 h7 h8 h9 h10
 . cases he
end Go.Ev
