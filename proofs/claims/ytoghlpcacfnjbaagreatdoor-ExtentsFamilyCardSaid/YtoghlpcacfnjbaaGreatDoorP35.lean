import Derived.Test.YtoghlpcacfnjbaaGreatDoorP34
set_option linter.all false
set_option maxRecDepth 100000
set_option maxHeartbeats 4000000
namespace Go.Ev
open Go Go.Proofs
variable{k p op f n z0 z1 m d x y z fr ma:Int}{ng:Bool}{K:fg}
def fX(k f n z0 z1 m d:Int):Bool:=aa (k%5) 1&&(aa (la f n z0 z1) 0&&bo (gw f n z0 z1++jZ f n z0 z1 m++nY f n z0 z1 m d))
def iB(k f n z0 z1 m d:Int):Bool:=!(aa (k%5) 2)&&(!(aa (k%5) 3)&&(!(aa (k%5) 4)&&!(fX k f n z0 z1 m d)))
def fK(k f n z0 z1 m d:Int):Int:=bif aa (k%5) 2 then 3 else bif aa (k%5) 3 then 4 else bif aa (k%5) 4 then 5 else 2
def wm(k f:Int)(ng:Bool)(n z0 z1 m d:Int):Bool:=fX k f n z0 z1 m d&&qV f ng n z0 z1
def zQ(k f n z0 z1 m d:Int):Bool:=fX k f n z0 z1 m d&&sY f
def fS(k f n z0 z1 m d:Int):List UInt8:=bif fX k f n z0 z1 m d then gw f n z0 z1 else[]
def fE(k f n z0 z1 m d:Int):Int:=bif fX k f n z0 z1 m d then kQ f z1 else 0
def wt(k f n z0 z1 m d:Int):List UInt8:=bif fX k f n z0 z1 m d then jZ f n z0 z1 m else[]
def wq(k f n z0 z1 m d:Int):List UInt8:=bif fX k f n z0 z1 m d then nY f n z0 z1 m d else[]
def fP(k p:Int):Int:=bif aa (k%5) 2 then 1+p%3 else 0
def fA(k op:Int):Int:=bif aa (k%5) 2 then(bif aa (op%4) 1 then -1 else 0)else bif aa (k%5) 3 then -1 else 0
def fB(k p op fr:Int):Int:=bif aa (k%5) 2 then(bif aa (op%4) 1 then 0 else Cp fr (1+p%3))else bif aa (k%5) 4 then fr else 0
def fC(k op:Int):Int:=bif aa (k%5) 2 then(bif aa (op%4) 2 then 1 else 0)else bif aa (k%5) 4 then 1 else 0
def fD(k p op fr ma:Int):Int:=bif aa (k%5) 2 then(bif aa (op%4) 2 then 0 else Cr (fr+ma) (1+p%3))else bif aa (k%5) 3 then fr else 0
def kW(k p op f:Int)(ng:Bool)(n z0 z1 m d fr ma:Int):AV:=.h [.a .u8 (fK k f n z0 z1 m d),.f,.b (wm k f ng n z0 z1 m d),.b (zQ k f n z0 z1 m d),.d (fS k f n z0 z1 m d),.a .i64 (fE k f n z0 z1 m d),.a .i64 0,.d (wt k f n z0 z1 m d),.d (wq k f n z0 z1 m d),.a .u8 0,.a .u8 0,.a .u8 0,.a .u8 (fP k p),.a .i8 (fA k op),.a .i64 (fB k p op fr),.a .i8 (fC k op),.a .i64 (fD k p op fr ma)]
def Z3:kS:=λargs ws=>match args,ws with
 | [.h [.a .u8 k,.a .u8 p,.a .u8 op,.a .u8 f,.b ng,.a .u16 n,.a .u8 z0,.a .u8 z1,.a .u8 m,.a .u8 d,.a .u8 x,.a .u8 y,.a .u8 z,.a .i16 fr,.a .u8 ma,.f]],[]=>some (aH [af .u8 k,af .u8 p,af .u8 op,af .u8 f,af .u16 n,af .u8 z0,af .u8 z1,af .u8 m,af .u8 d,af .u8 x,af .u8 y,af .u8 z,af .i16 fr,af .u8 ma] (.d0 (iB k f n z0 z1 m d) λb=>bif b then .a0 (zC 14 (nK (eT fr ma (aa (op%4) 1) (aa (op%4) 2) [])) (.b 1),[.a (bh (eT fr ma (aa (op%4) 1) (aa (op%4) 2) [])) true none])else .a0 (kW k p op f ng n z0 z1 m d fr ma,[])))
 | [.h [.a .u8 k,.a .u8 p,.a .u8 op,.a .u8 f,.b ng,.a .u16 n,.a .u8 z0,.a .u8 z1,.a .u8 m,.a .u8 d,.a .u8 x,.a .u8 y,.a .u8 z,.a .i16 fr,.a .u8 ma,.c 14 0 l K]],[.a w false none]=>some (aH [af .u8 k,af .u8 p,af .u8 op,af .u8 f,af .u16 n,af .u8 z0,af .u8 z1,af .u8 m,af .u8 d,af .u8 x,af .u8 y,af .u8 z,af .i16 fr,af .u8 ma,vv w,Nat.beq (qk w).length l] (.d0 (iB k f n z0 z1 m d) λb=>bif b then .a0 (zC 15 (nK (eT fr ma (aa (op%4) 1) (aa (op%4) 2) (qk w))) (DS (qk w)),[.a (bh (eT fr ma (aa (op%4) 1) (aa (op%4) 2) (qk w))) true (CP (qk w))])else .a0 (kW k p op f ng n z0 z1 m d fr ma,[])))
 | _,_=>none
def S26:aQ:=bb (eQ (bb (bb gZ 14 X9) 15 YD) 17 (fl 14 [2] X4)) 18 YO
theorem iQ:ak Tryz.prog cfg S26:=U9 (Wi (Ue (UZ aW)))
theorem M4{b:Bool}:aa (bI b) 1=b:=by cases b<;>rfl
theorem nv:∀{gs:List (Int×Int)},(js gs).length=gs.length*2
 | []=>rfl
 | p::r=>by simp only[js,zAf,nv (gs:=r)];omega
theorem je:∀{gs:List (Int×Int)},bc 14 (js gs)=true
 | []=>rfl
 | p::r=>by
   have:=je (gs:=r);unfold bc at this ⊢;simp only[js,List.all_cons,zAa];exact⟨rfl,rfl,this⟩
theorem sh:∀{gs:List (Int×Int)},qk (js gs)=gs
 | []=>rfl
 | p::r=>by simp only[js,qk,sh (gs:=r)]
theorem sC:∀{gs:List (Int×Int)},(∀p∈gs,(0<=p.1/\p.1<=255)/\(0<=p.2/\p.2<=255))->vv (js gs)=true
 | [],_=>rfl
 | p::r,h=>by
   simp only[js,vv,zAa,aE,eH,eE];have h0:=h p (by simp);exact⟨h0.1,h0.2,sC λq hq=>h q (by simp[hq])⟩
theorem wN{gs:List (Int×Int)}:b_ (js gs) 0 (gs.length*2)=js gs:=by
 unfold b_;rw[List.drop_zero];exact List.take_of_length_le (by rw[nv];exact Nat.le_refl _)
theorem sE{f n z0 z1:Int}:(gw f n z0 z1).length<=5:=by
 unfold gw Rh I3;cases aa (f%6) 3<;>cases aa (f%6) 5<;>cases ab (z1%3) 0<;>simp only[zAj,zAf,List.length_nil,List.length_take]<;>omega
theorem VK{L:List (List UInt8)}(h:L.all (λs=>Nat.ble s.length 2))(i:Nat):(L.getD i []).length<=2:=by
 rw[zAd];cases hi:L[i]? with
 | none=>exact Nat.zero_le _
 | some s=>exact Nat.le_of_ble_eq_true (List.all_eq_true.1 h s (List.mem_of_getElem? hi))
theorem OC:(Av k).length<=2:=by
 have h:=VK (L:=XN) (by decide) (k-34).toNat;unfold Av;generalize XN.getD (k-34).toNat []=x at *;cases aa k 0<;>cases ab k 12<;>cases ab k 33<;>first|exact h|exact Nat.le_refl _|exact Nat.zero_le _
theorem NN{mo:List UInt8}:(Gt k mo).length<=2:=by
 have h:=VK (L:=XO) (by decide) (bif ae mo [UInt8.ofNat 48,UInt8.ofNat 50]&&aa k 35 then 2 else(k-32).toNat);unfold Gt;generalize List.getD XO _ []=x at *;cases aa k 0<;>cases ab k 31<;>first|exact h|exact Nat.le_refl _|exact Nat.zero_le _
theorem rf{f n z0 z1 m:Int}:(jZ f n z0 z1 m).length<=2:=by
 unfold jZ;cases aa (la f n z0 z1) 0
 . exact Nat.zero_le _
 . exact OC
theorem rU{f n z0 z1 m d:Int}:(nY f n z0 z1 m d).length<=2:=by
 unfold nY;cases(!(ae (jZ f n z0 z1 m) [])&&aa (aR (jZ f n z0 z1 m)) 0)
 . exact Nat.zero_le _
 . exact NN
theorem Us(hk:0<=k/\k<=255)(hp:0<=p/\p<=255)(ho:0<=op/\op<=255)(h1:af .u8 f)(h2:af .u16 n)(h3:af .u8 z0)(h4:af .u8 z1)(h5:af .u8 m)(h6:af .u8 d)(h7:af .u8 x)(h8:af .u8 y)(h9:af .u8 z)(hfr : -32768<=fr/\fr<=32767)(hma:0<=ma/\ma<=255)(hone:iB k f n z0 z1 m d):bu Tryz.prog cfg 5 [.h [.a .u8 k,.a .u8 p,.a .u8 op,.a .u8 f,.b ng,.a .u16 n,.a .u8 z0,.a .u8 z1,.a .u8 m,.a .u8 d,.a .u8 x,.a .u8 y,.a .u8 z,.a .i16 fr,.a .u8 ma,.f]] [] (zC 14 (nK (eT fr ma (aa (op%4) 1) (aa (op%4) 2) [])) (.b 1)) [.a (bh (eT fr ma (aa (op%4) 1) (aa (op%4) 2) [])) true none]:=by
 have l1:Nat.ble (gw f n z0 z1).length 1000=true:=by rw[al];have:=@sE f n z0 z1;omega
 have l2:Nat.ble (jZ f n z0 z1 m).length 1000=true:=by rw[al];have:=@rf f n z0 z1 m;omega
 have l3:Nat.ble (nY f n z0 z1 m d).length 1000=true:=by rw[al];have:=@rU f n z0 z1 m d;omega
 have i1:af .i16 fr=true:=by rw[aE];exact hfr
 have i2:af .u8 op=true:=by rw[aE];exact ho
 have i3:af .u8 ma=true:=by rw[aE];exact hma
 have cf:k%5=0\/k%5=1\/k%5=2\/k%5=3\/k%5=4:=by omega
 unfold iB at hone;rcases cf with cf|cf|cf|cf|cf
 . skip
   have e1:aa (k%5) 1=false:=aw.mpr (by omega);have e2:aa (k%5) 2=false:=aw.mpr (by omega);have e3:aa (k%5) 3=false:=aw.mpr (by omega);have e4:aa (k%5) 4=false:=aw.mpr (by omega);refine Cs iQ ai (bE 1075563800) (R:=λQ=>(λ(B C E G H:AV)(A F:Int)=>(λ(I:List AV)=>aa A 1=false/\aa A 2=false/\aa A 3=false/\aa A 4=false/\af .u8 op/\af .i16 fr/\af .u8 ma/\Q (.h I,⟨3,[.a (bh (eT fr ma (aa F 1) (aa F 2) [])) true none,.a I true none,.a [.a .u8 k,.a .u8 p,.a .u8 op,.a .u8 f,.b ng,.a .u16 n,.a .u8 z0,.a .u8 z1,.a .u8 m,.a .u8 d,.a .u8 x,.a .u8 y,.a .u8 z,.a .i16 fr,.a .u8 ma,.f] true none],[]⟩)) [.a .u8 1,.c 16 0 (nK (eT fr ma (aa F 1) (aa F 2) [])) (fg.b 1),G,G,E,B,B,E,E,C,C,C,C,H,B,H,B]) (.a .i64 0) (.a .u8 0) (.d []) (.b false) (.a .i8 0) (Int.tmod k 5) (HMod.hMod op 4)) (λ_=>by kernel_rfl) λQ' hQ=>?_;try dsimp only
   try dsimp only
   rw[tm (b:=5) hk.1];have c0:Bool.and true true=true:=rfl;simp only[h1,h2,h3,h4,h5,h6,h7,h8,h9,l1,l2,l3,i1,i2,i3,e1,e2,e3,e4,c0];try simp only[az,reduceCtorEq]
   (repeat' first|exact trivial|refine⟨?_,?_⟩|intro)<;>first|contradiction|omega|exact hQ _ (dL.a0 (ws:=[]) (λx hx=>by cases hx) rfl rfl gf rfl)
 . skip
   have e1:aa (k%5) 1=true:=ao.mpr (by omega);have e2:aa (k%5) 2=false:=aw.mpr (by omega);have e3:aa (k%5) 3=false:=aw.mpr (by omega);have e4:aa (k%5) 4=false:=aw.mpr (by omega);cases hg:aa (la f n z0 z1) 0 with
   | false=>
     refine Cs iQ ai (bE 107663800777006200) (R:=λQ=>(λ(A B E I N:AV)(G H:Int)(O P:List UInt8)=>(λ(F:Int)(T:List AV)(C:Prop)=>aa (Int.tmod k 5) 1/\af .u8 f/\af .u16 n/\af .u8 z0/\af .u8 z1/\af .u8 m/\af .u8 d/\af .u8 x/\af .u8 y/\af .u8 z/\C/\C/\C/\C/\af .u8 op/\af .i16 fr/\af .u8 ma/\Q (.h T,⟨4,[.a (bh (eT fr ma (aa H 1) (aa H 2) [])) true none,.a [.b (qV f ng n z0 z1),.b (sY f),.d (gw f n z0 z1),.a .i64 (kQ f z1),.a .i64 G,.d O,.d P,.a .u8 (Em F 0 x),.a .u8 (Em F 1 y),.a .u8 (Em F 2 z)] true none,.a T true none,.a [.a .u8 k,.a .u8 p,.a .u8 op,.a .u8 f,.b ng,.a .u16 n,.a .u8 z0,.a .u8 z1,.a .u8 m,.a .u8 d,.a .u8 x,.a .u8 y,.a .u8 z,.a .i16 fr,.a .u8 ma,.f] true none],[]⟩)) (dq O P) [.a .u8 1,.c 17 0 (nK (eT fr ma (aa H 1) (aa H 2) [])) (fg.b 1),I,I,E,A,A,E,E,B,B,B,B,N,A,N,A] (aa G 0=false)) (.a .i64 0) (.a .u8 0) (.d []) (.b false) (.a .i8 0) (la f n z0 z1) (HMod.hMod op 4) (jZ f n z0 z1 m) (nY f n z0 z1 m d)) (λ_=>by kernel_rfl) λQ' hQ=>?_;try dsimp only
     try dsimp only
     rw[tm (b:=5) hk.1];have c0:Bool.and true true=true:=rfl;simp only[h1,h2,h3,h4,h5,h6,h7,h8,h9,l1,l2,l3,i1,i2,i3,e1,e2,e3,e4,hg,c0];try simp only[az,reduceCtorEq]
     (repeat' first|exact trivial|refine⟨?_,?_⟩|intro)<;>first|contradiction|omega|exact hQ _ (dL.a0 (ws:=[]) (λx hx=>by cases hx) rfl rfl gf rfl)
   | true=>
     have hX:bo (gw f n z0 z1++jZ f n z0 z1 m++nY f n z0 z1 m d)=false:=by
      unfold fX at hone;rw[e1,e2,e3,e4,hg]at hone;simpa using hone
     refine Cs iQ ai (bE 10755632270206200777006200) (R:=λQ=>(λ(C E H P T:AV)(N O:Int)(A B G:List UInt8)=>(λ(F:Bool)(I:Int)(U:List AV)=>aa (Int.tmod k 5) 1/\af .u8 f/\af .u16 n/\af .u8 z0/\af .u8 z1/\af .u8 m/\af .u8 d/\af .u8 x/\af .u8 y/\af .u8 z/\F/\F/\Nat.ble G.length 1000/\Nat.ble A.length 1000/\Nat.ble B.length 1000/\F/\F/\aa (bI (bo ((G++A)++B))) 1=false/\af .u8 op/\af .i16 fr/\af .u8 ma/\Q (.h U,⟨4,[.a (bh (eT fr ma (aa O 1) (aa O 2) [])) true none,.a [.b (qV f ng n z0 z1),.b (sY f),.d G,.a .i64 (kQ f z1),.a .i64 N,.d A,.d B,.a .u8 (Em I 0 x),.a .u8 (Em I 1 y),.a .u8 (Em I 2 z)] true none,.a U true none,.a [.a .u8 k,.a .u8 p,.a .u8 op,.a .u8 f,.b ng,.a .u16 n,.a .u8 z0,.a .u8 z1,.a .u8 m,.a .u8 d,.a .u8 x,.a .u8 y,.a .u8 z,.a .i16 fr,.a .u8 ma,.f] true none],[]⟩)) (aa N 0) (dq A B) [.a .u8 1,.c 17 0 (nK (eT fr ma (aa O 1) (aa O 2) [])) (fg.b 1),P,P,H,C,C,H,H,E,E,E,E,T,C,T,C]) (.a .i64 0) (.a .u8 0) (.d []) (.b false) (.a .i8 0) (la f n z0 z1) (HMod.hMod op 4) (jZ f n z0 z1 m) (nY f n z0 z1 m d) (gw f n z0 z1)) (λ_=>by kernel_rfl) λQ' hQ=>?_;try dsimp only
     try dsimp only
     rw[tm (b:=5) hk.1];have c0:Bool.and true true=true:=rfl;simp only[h1,h2,h3,h4,h5,h6,h7,h8,h9,l1,l2,l3,i1,i2,i3,e1,e2,e3,e4,hg,M4,hX,c0];try simp only[az,reduceCtorEq]
     (repeat' first|exact trivial|refine⟨?_,?_⟩|intro)<;>first|contradiction|omega|exact hQ _ (dL.a0 (ws:=[]) (λx hx=>by cases hx) rfl rfl gf rfl)
 . exfalso;have e1:aa (k%5) 1=false:=aw.mpr (by omega);have e2:aa (k%5) 2=true:=ao.mpr (by omega);have e3:aa (k%5) 3=false:=aw.mpr (by omega);have e4:aa (k%5) 4=false:=aw.mpr (by omega);rw[e2]at hone;cases hone
 . exfalso;have e1:aa (k%5) 1=false:=aw.mpr (by omega);have e2:aa (k%5) 2=false:=aw.mpr (by omega);have e3:aa (k%5) 3=true:=ao.mpr (by omega);have e4:aa (k%5) 4=false:=aw.mpr (by omega);rw[e2,e3]at hone;cases hone
 . exfalso;have e1:aa (k%5) 1=false:=aw.mpr (by omega);have e2:aa (k%5) 2=false:=aw.mpr (by omega);have e3:aa (k%5) 3=false:=aw.mpr (by omega);have e4:aa (k%5) 4=true:=ao.mpr (by omega);rw[e2,e3,e4]at hone;cases hone
theorem VE(hk:0<=k/\k<=255)(hp:0<=p/\p<=255)(ho:0<=op/\op<=255)(h1:af .u8 f)(h2:af .u16 n)(h3:af .u8 z0)(h4:af .u8 z1)(h5:af .u8 m)(h6:af .u8 d)(h7:af .u8 x)(h8:af .u8 y)(h9:af .u8 z)(hfr : -32768<=fr/\fr<=32767)(hma:0<=ma/\ma<=255)(hone:iB k f n z0 z1 m d=false):bu Tryz.prog cfg 5 [.h [.a .u8 k,.a .u8 p,.a .u8 op,.a .u8 f,.b ng,.a .u16 n,.a .u8 z0,.a .u8 z1,.a .u8 m,.a .u8 d,.a .u8 x,.a .u8 y,.a .u8 z,.a .i16 fr,.a .u8 ma,.f]] [] (kW k p op f ng n z0 z1 m d fr ma) []:=by
 have l1:Nat.ble (gw f n z0 z1).length 1000=true:=by rw[al];have:=@sE f n z0 z1;omega
 have l2:Nat.ble (jZ f n z0 z1 m).length 1000=true:=by rw[al];have:=@rf f n z0 z1 m;omega
 have l3:Nat.ble (nY f n z0 z1 m d).length 1000=true:=by rw[al];have:=@rU f n z0 z1 m d;omega
 have i1:af .i16 fr=true:=by rw[aE];exact hfr
 have i2:af .u8 op=true:=by rw[aE];exact ho
 have i3:af .u8 ma=true:=by rw[aE];exact hma
 have cf:k%5=0\/k%5=1\/k%5=2\/k%5=3\/k%5=4:=by omega
 rcases cf with cf|cf|cf|cf|cf
 . exfalso;have e1:aa (k%5) 1=false:=aw.mpr (by omega);have e2:aa (k%5) 2=false:=aw.mpr (by omega);have e3:aa (k%5) 3=false:=aw.mpr (by omega);have e4:aa (k%5) 4=false:=aw.mpr (by omega);unfold iB fX at hone;rw[e1,e2,e3,e4]at hone;cases hone
 . skip
   have e1:aa (k%5) 1=true:=ao.mpr (by omega);have e2:aa (k%5) 2=false:=aw.mpr (by omega);have e3:aa (k%5) 3=false:=aw.mpr (by omega);have e4:aa (k%5) 4=false:=aw.mpr (by omega);have hX:fX k f n z0 z1 m d=true:=by
    unfold iB at hone;rw[e2,e3,e4]at hone;simpa using hone
   have hX':=hX;unfold fX at hX';simp only[zAa]at hX';obtain⟨_,hg,hx⟩:=hX';have g0:la f n z0 z1=0:=ao.mp hg;refine ns iQ (λx hx=>by cases hx) ai (bE 156270063006770206200777006200) (R:=λQ=>(λ(A H I:AV)(C:Int)(E F G:List UInt8)=>(λ(B N O P T:Bool)=>aa (Int.tmod k 5) 1/\af .u8 f/\af .u16 n/\af .u8 z0/\af .u8 z1/\af .u8 m/\af .u8 d/\af .u8 x/\af .u8 y/\af .u8 z/\B/\B/\N/\O/\P/\B/\B/\T/\not (ab C 0)=false/\N/\O/\P/\T/\Q (.h [.a .u8 2,.f,.b (qV f ng n z0 z1),.b (sY f),.d E,.a .i64 (kQ f z1),.a .i64 C,.d F,.d G,A,A,A,A,H,I,H,I])) (aa C 0) (Nat.ble E.length 1000) (Nat.ble F.length 1000) (Nat.ble G.length 1000) (aa (bI (bo ((E++F)++G))) 1)) (.a .u8 0) (.a .i8 0) (.a .i64 0) (la f n z0 z1) (gw f n z0 z1) (jZ f n z0 z1 m) (nY f n z0 z1 m d)) (λ_=>by kernel_rfl) (hi:=(by simp[kW,aC,bw])) λQ' hQ=>?_;try dsimp only
   unfold kW wm zQ fS fE wt wq at hQ;rw[hX]at hQ;simp only[fK,fP,fA,fB,fC,fD,e2,e3,e4,zAj,Bool.true_and,Bool.false_and]at hQ;try dsimp only
   rw[tm (b:=5) hk.1];simp only[h1,h2,h3,h4,h5,h6,h7,h8,h9,l1,l2,l3,i1,i2,i3,M4,e1,hx];rw[g0];try simp only[az,reduceCtorEq]
   (repeat' first|exact trivial|refine⟨?_,?_⟩|intro)<;>first|contradiction|omega|exact hQ
 . skip
   have e1:aa (k%5) 1=false:=aw.mpr (by omega);have e2:aa (k%5) 2=true:=ao.mpr (by omega);have e3:aa (k%5) 3=false:=aw.mpr (by omega);have e4:aa (k%5) 4=false:=aw.mpr (by omega);have hX:fX k f n z0 z1 m d=false:=by unfold fX;rw[e1];rfl
   have tp:Int.tmod p 3=p%3:=tm hp.1;have tpo:Int.tmod op 4=op%4:=tm ho.1;have a1:Int.add 1 (p%3)=1+p%3:=rfl;have a2:Int.add fr ma=fr+ma:=rfl;have b1:1<=1+p%3/\1+p%3<=3:=by omega
   refine ns iQ (λx hx=>by cases hx) ai (bE 16610664001663000455270702002702202002300) (R:=λQ=>(λ(A B C F H I:AV)(P:Bool)(E G O T:Int)=>(λ(N W Y:AV)(U:Bool)(V:Prop)=>(λ(Z:Prop->Prop)=>aa O 1=false/\aa O 2/\af .u8 E/\P/\U/\ab (Neg.neg 40000) fr/\ab fr 40000/\Z (P/\af .i64 ma/\af .i64 G/\U/\ab (Neg.neg 40000) G/\ab G 40000/\Z ((aa T 1->V/\Q (.h [I,.f,F,F,A,C,C,A,A,B,B,B,N,.a .i8 (Neg.neg 1),C,H,W]))/\(aa T 1=false->(aa T 2->Q (.h [I,.f,F,F,A,C,C,A,A,B,B,B,N,H,Y,.a .i8 1,C]))/\(V->Q (.h [I,.f,F,F,A,C,C,A,A,B,B,B,N,H,Y,H,W])))))) (λu0=>ab 1 E/\ab E 3/\u0)) (.a .u8 E) (.a .i64 (Cr G E)) (.a .i64 (Cp fr E)) (af .i64 E) (aa T 2=false)) (.d []) (.a .u8 0) (.a .i64 0) (.b false) (.a .i8 0) (.a .u8 3) (af .i64 fr) (Int.add 1 (Int.tmod p 3)) (Int.add fr ma) (Int.tmod k 5) (Int.tmod op 4)) (λ_=>by kernel_rfl) (hi:=(by simp[kW,aC,bw])) λQ' hQ=>?_;try dsimp only
   unfold kW wm zQ fS fE wt wq at hQ;rw[hX]at hQ;simp only[fK,fP,fA,fB,fC,fD,e2,e3,e4,zAj,Bool.true_and,Bool.false_and]at hQ;try dsimp only
   rw[tm (b:=5) hk.1];simp only[h1,h2,h3,h4,h5,h6,h7,h8,h9,l1,l2,l3,i1,i2,i3,M4,tp,tpo,a1,a2,e1,e2];generalize 1+p%3=P at *;cases o1:aa (op%4) 1<;>cases o2:aa (op%4) 2<;>simp only[o1,o2,zAj]at hQ ⊢;all_goals
    simp only[az,reduceCtorEq]at o1 o2 ⊢
    (repeat' first|exact trivial|refine⟨?_,?_⟩|intro)<;>first|contradiction|omega|exact hQ
 . skip
   have e1:aa (k%5) 1=false:=aw.mpr (by omega);have e2:aa (k%5) 2=false:=aw.mpr (by omega);have e3:aa (k%5) 3=true:=ao.mpr (by omega);have e4:aa (k%5) 4=false:=aw.mpr (by omega);have hX:fX k f n z0 z1 m d=false:=by unfold fX;rw[e1];rfl
   refine ns iQ (λx hx=>by cases hx) ai (bE 102023300) (R:=λQ=>(λ(A C E F:AV)(B:Int)=>aa B 1=false/\aa B 2=false/\aa B 3/\af .i64 fr/\Q (.h [.a .u8 4,.f,F,F,C,E,E,C,C,A,A,A,A,.a .i8 (Neg.neg 1),E,.a .i8 0,.a .i64 fr])) (.a .u8 0) (.d []) (.a .i64 0) (.b false) (Int.tmod k 5)) (λ_=>by kernel_rfl) (hi:=(by simp[kW,aC,bw])) λQ' hQ=>?_;try dsimp only
   unfold kW wm zQ fS fE wt wq at hQ;rw[hX]at hQ;simp only[fK,fP,fA,fB,fC,fD,e2,e3,e4,zAj,Bool.true_and,Bool.false_and]at hQ;try dsimp only
   rw[tm (b:=5) hk.1];simp only[h1,h2,h3,h4,h5,h6,h7,h8,h9,l1,l2,l3,i1,i2,i3,M4,e1,e2,e3];try simp only[az,reduceCtorEq]
   (repeat' first|exact trivial|refine⟨?_,?_⟩|intro)<;>first|contradiction|omega|exact hQ
 . skip
   have e1:aa (k%5) 1=false:=aw.mpr (by omega);have e2:aa (k%5) 2=false:=aw.mpr (by omega);have e3:aa (k%5) 3=false:=aw.mpr (by omega);have e4:aa (k%5) 4=true:=ao.mpr (by omega);have hX:fX k f n z0 z1 m d=false:=by unfold fX;rw[e1];rfl
   refine ns iQ (λx hx=>by cases hx) ai (bE 10202800) (R:=λQ=>(λ(B C E F:AV)(A:Int)=>aa A 1=false/\aa A 2=false/\aa A 3=false/\aa A 4/\af .i64 fr/\Q (.h [.a .u8 5,.f,F,F,C,E,E,C,C,B,B,B,B,.a .i8 0,.a .i64 fr,.a .i8 1,E])) (.a .u8 0) (.d []) (.a .i64 0) (.b false) (Int.tmod k 5)) (λ_=>by kernel_rfl) (hi:=(by simp[kW,aC,bw])) λQ' hQ=>?_;try dsimp only
   unfold kW wm zQ fS fE wt wq at hQ;rw[hX]at hQ;simp only[fK,fP,fA,fB,fC,fD,e2,e3,e4,zAj,Bool.true_and,Bool.false_and]at hQ;try dsimp only
   rw[tm (b:=5) hk.1];simp only[h1,h2,h3,h4,h5,h6,h7,h8,h9,l1,l2,l3,i1,i2,i3,M4,e1,e2,e3,e4];try simp only[az,reduceCtorEq]
   (repeat' first|exact trivial|refine⟨?_,?_⟩|intro)<;>first|contradiction|omega|exact hQ
theorem Vz{gs:List (Int×Int)}(hin:∀p∈gs,(0<=p.1/\p.1<=255)/\(0<=p.2/\p.2<=255))(hk:0<=k/\k<=255)(hp:0<=p/\p<=255)(ho:0<=op/\op<=255)(h1:af .u8 f)(h2:af .u16 n)(h3:af .u8 z0)(h4:af .u8 z1)(h5:af .u8 m)(h6:af .u8 d)(h7:af .u8 x)(h8:af .u8 y)(h9:af .u8 z)(hfr : -32768<=fr/\fr<=32767)(hma:0<=ma/\ma<=255)(hone:iB k f n z0 z1 m d):bu Tryz.prog cfg 5 [.h [.a .u8 k,.a .u8 p,.a .u8 op,.a .u8 f,.b ng,.a .u16 n,.a .u8 z0,.a .u8 z1,.a .u8 m,.a .u8 d,.a .u8 x,.a .u8 y,.a .u8 z,.a .i16 fr,.a .u8 ma,.c 14 0 gs.length K]] [.a (js gs) false none] (zC 15 (nK (eT fr ma (aa (op%4) 1) (aa (op%4) 2) gs)) (DS gs)) [.a (bh (eT fr ma (aa (op%4) 1) (aa (op%4) 2) gs)) true (CP gs)]:=by
 have l1:Nat.ble (gw f n z0 z1).length 1000=true:=by rw[al];have:=@sE f n z0 z1;omega
 have l2:Nat.ble (jZ f n z0 z1 m).length 1000=true:=by rw[al];have:=@rf f n z0 z1 m;omega
 have l3:Nat.ble (nY f n z0 z1 m d).length 1000=true:=by rw[al];have:=@rU f n z0 z1 m d;omega
 have i1:af .i16 fr=true:=by rw[aE];exact hfr
 have i2:af .u8 op=true:=by rw[aE];exact ho
 have i3:af .u8 ma=true:=by rw[aE];exact hma
 have hw1:∀x∈[aD.a (js gs) false none],cR 14 x:=λx hx=>by
  simp only[zAe]at hx;subst hx;exact aO pP
 have cf:k%5=0\/k%5=1\/k%5=2\/k%5=3\/k%5=4:=by omega
 unfold iB at hone;rcases cf with cf|cf|cf|cf|cf
 . skip
   have e1:aa (k%5) 1=false:=aw.mpr (by omega);have e2:aa (k%5) 2=false:=aw.mpr (by omega);have e3:aa (k%5) 3=false:=aw.mpr (by omega);have e4:aa (k%5) 4=false:=aw.mpr (by omega);refine Cs iQ ai (bE 1077000563800) (R:=λQ=>(λ(B C F N O:AV)(A I:Int)(H:Nat)=>(λ(G:List AV)=>(λ(E:List (Int×Int))=>(λ(P:List AV)=>aa A 1=false/\aa A 2=false/\aa A 3=false/\aa A 4=false/\and true (and (Nat.ble (HAdd.hAdd 0 H) (js gs).length) (bc 14 G))/\af .u8 op/\af .i16 fr/\af .u8 ma/\vv G/\Nat.beq E.length gs.length/\Q (.h P,⟨3,[.a (bh (eT fr ma (aa I 1) (aa I 2) E)) true (CP E),.a P true none,.a [.a .u8 k,.a .u8 p,.a .u8 op,.a .u8 f,.b ng,.a .u16 n,.a .u8 z0,.a .u8 z1,.a .u8 m,.a .u8 d,.a .u8 x,.a .u8 y,.a .u8 z,.a .i16 fr,.a .u8 ma,.c 14 0 gs.length K] true none],[]⟩)) [.a .u8 1,.c 17 0 (nK (eT fr ma (aa I 1) (aa I 2) E)) (DS E),N,N,F,B,B,F,F,C,C,C,C,O,B,O,B]) (qk G)) (b_ (js gs) 0 H)) (.a .i64 0) (.a .u8 0) (.d []) (.b false) (.a .i8 0) (Int.tmod k 5) (HMod.hMod op 4) (HMul.hMul gs.length 2)) (λ_=>by kernel_rfl) λQ' hQ=>?_;try dsimp only
   try dsimp only
   rw[tm (b:=5) hk.1];have v1:=@wN gs;have v2:=sC hin;have v3:=@sh gs;have v4:Nat.ble (0+gs.length*2) (js gs).length=true:=by rw[al,nv];omega
   have v5:=@je gs;have v6:Nat.beq gs.length gs.length=true:=gm rfl;have c0:Bool.and true true=true:=rfl;simp only[h1,h2,h3,h4,h5,h6,h7,h8,h9,l1,l2,l3,i1,i2,i3,e1,e2,e3,e4,v1,v2,v3,v4,v5,v6,c0];try simp only[az,reduceCtorEq]
   (repeat' first|exact trivial|refine⟨?_,?_⟩|intro)<;>first|contradiction|omega|exact hQ _ (dL.a0 hw1 rfl rfl gf rfl)
 . skip
   have e1:aa (k%5) 1=true:=ao.mpr (by omega);have e2:aa (k%5) 2=false:=aw.mpr (by omega);have e3:aa (k%5) 3=false:=aw.mpr (by omega);have e4:aa (k%5) 4=false:=aw.mpr (by omega);cases hg:aa (la f n z0 z1) 0 with
   | false=>
     refine Cs iQ ai (bE 10775563800777006200) (R:=λQ=>(λ(A B F P T:AV)(I O:Int)(U V:List UInt8)(N:Nat)=>(λ(H:Int)(G:List AV)(C:Prop)=>(λ(E:List (Int×Int))=>(λ(W:List AV)=>aa (Int.tmod k 5) 1/\af .u8 f/\af .u16 n/\af .u8 z0/\af .u8 z1/\af .u8 m/\af .u8 d/\af .u8 x/\af .u8 y/\af .u8 z/\C/\C/\C/\C/\and true (and (Nat.ble (HAdd.hAdd 0 N) (js gs).length) (bc 14 G))/\af .u8 op/\af .i16 fr/\af .u8 ma/\vv G/\Nat.beq E.length gs.length/\Q (.h W,⟨4,[.a (bh (eT fr ma (aa O 1) (aa O 2) E)) true (CP E),.a [.b (qV f ng n z0 z1),.b (sY f),.d (gw f n z0 z1),.a .i64 (kQ f z1),.a .i64 I,.d U,.d V,.a .u8 (Em H 0 x),.a .u8 (Em H 1 y),.a .u8 (Em H 2 z)] true none,.a W true none,.a [.a .u8 k,.a .u8 p,.a .u8 op,.a .u8 f,.b ng,.a .u16 n,.a .u8 z0,.a .u8 z1,.a .u8 m,.a .u8 d,.a .u8 x,.a .u8 y,.a .u8 z,.a .i16 fr,.a .u8 ma,.c 14 0 gs.length K] true none],[]⟩)) [.a .u8 1,.c 18 0 (nK (eT fr ma (aa O 1) (aa O 2) E)) (DS E),P,P,F,A,A,F,F,B,B,B,B,T,A,T,A]) (qk G)) (dq U V) (b_ (js gs) 0 N) (aa I 0=false)) (.a .i64 0) (.a .u8 0) (.d []) (.b false) (.a .i8 0) (la f n z0 z1) (HMod.hMod op 4) (jZ f n z0 z1 m) (nY f n z0 z1 m d) (HMul.hMul gs.length 2)) (λ_=>by kernel_rfl) λQ' hQ=>?_;try dsimp only
     try dsimp only
     rw[tm (b:=5) hk.1];have v1:=@wN gs;have v2:=sC hin;have v3:=@sh gs;have v4:Nat.ble (0+gs.length*2) (js gs).length=true:=by rw[al,nv];omega
     have v5:=@je gs;have v6:Nat.beq gs.length gs.length=true:=gm rfl;have c0:Bool.and true true=true:=rfl;simp only[h1,h2,h3,h4,h5,h6,h7,h8,h9,l1,l2,l3,i1,i2,i3,e1,e2,e3,e4,hg,v1,v2,v3,v4,v5,v6,c0];try simp only[az,reduceCtorEq]
     (repeat' first|exact trivial|refine⟨?_,?_⟩|intro)<;>first|contradiction|omega|exact hQ _ (dL.a0 hw1 rfl rfl gf rfl)
   | true=>
     have hX:bo (gw f n z0 z1++jZ f n z0 z1 m++nY f n z0 z1 m d)=false:=by
      unfold fX at hone;rw[e1,e2,e3,e4,hg]at hone;simpa using hone
     refine Cs iQ ai (bE 10770005632270206200777006200) (R:=λQ=>(λ(C E I V W:AV)(P U:Int)(A B H:List UInt8)(T:Nat)=>(λ(F:Bool)(O:Int)(N:List AV)=>(λ(G:List (Int×Int))=>(λ(Y:List AV)=>aa (Int.tmod k 5) 1/\af .u8 f/\af .u16 n/\af .u8 z0/\af .u8 z1/\af .u8 m/\af .u8 d/\af .u8 x/\af .u8 y/\af .u8 z/\F/\F/\Nat.ble H.length 1000/\Nat.ble A.length 1000/\Nat.ble B.length 1000/\F/\F/\aa (bI (bo ((H++A)++B))) 1=false/\and true (and (Nat.ble (HAdd.hAdd 0 T) (js gs).length) (bc 14 N))/\af .u8 op/\af .i16 fr/\af .u8 ma/\vv N/\Nat.beq G.length gs.length/\Q (.h Y,⟨4,[.a (bh (eT fr ma (aa U 1) (aa U 2) G)) true (CP G),.a [.b (qV f ng n z0 z1),.b (sY f),.d H,.a .i64 (kQ f z1),.a .i64 P,.d A,.d B,.a .u8 (Em O 0 x),.a .u8 (Em O 1 y),.a .u8 (Em O 2 z)] true none,.a Y true none,.a [.a .u8 k,.a .u8 p,.a .u8 op,.a .u8 f,.b ng,.a .u16 n,.a .u8 z0,.a .u8 z1,.a .u8 m,.a .u8 d,.a .u8 x,.a .u8 y,.a .u8 z,.a .i16 fr,.a .u8 ma,.c 14 0 gs.length K] true none],[]⟩)) [.a .u8 1,.c 18 0 (nK (eT fr ma (aa U 1) (aa U 2) G)) (DS G),V,V,I,C,C,I,I,E,E,E,E,W,C,W,C]) (qk N)) (aa P 0) (dq A B) (b_ (js gs) 0 T)) (.a .i64 0) (.a .u8 0) (.d []) (.b false) (.a .i8 0) (la f n z0 z1) (HMod.hMod op 4) (jZ f n z0 z1 m) (nY f n z0 z1 m d) (gw f n z0 z1) (HMul.hMul gs.length 2)) (λ_=>by kernel_rfl) λQ' hQ=>?_;try dsimp only
     try dsimp only
     rw[tm (b:=5) hk.1];have v1:=@wN gs;have v2:=sC hin;have v3:=@sh gs;have v4:Nat.ble (0+gs.length*2) (js gs).length=true:=by rw[al,nv];omega
     have v5:=@je gs;have v6:Nat.beq gs.length gs.length=true:=gm rfl;have c0:Bool.and true true=true:=rfl;simp only[h1,h2,h3,h4,h5,h6,h7,h8,h9,l1,l2,l3,i1,i2,i3,e1,e2,e3,e4,hg,M4,hX,v1,v2,v3,v4,v5,v6,c0];try simp only[az,reduceCtorEq]
     (repeat' first|exact trivial|refine⟨?_,?_⟩|intro)<;>first|contradiction|omega|exact hQ _ (dL.a0 hw1 rfl rfl gf rfl)
 . exfalso;have e1:aa (k%5) 1=false:=aw.mpr (by omega);have e2:aa (k%5) 2=true:=ao.mpr (by omega);have e3:aa (k%5) 3=false:=aw.mpr (by omega);have e4:aa (k%5) 4=false:=aw.mpr (by omega);rw[e2]at hone;cases hone
 . exfalso;have e1:aa (k%5) 1=false:=aw.mpr (by omega);have e2:aa (k%5) 2=false:=aw.mpr (by omega);have e3:aa (k%5) 3=true:=ao.mpr (by omega);have e4:aa (k%5) 4=false:=aw.mpr (by omega);rw[e2,e3]at hone;cases hone
 . exfalso;have e1:aa (k%5) 1=false:=aw.mpr (by omega);have e2:aa (k%5) 2=false:=aw.mpr (by omega);have e3:aa (k%5) 3=false:=aw.mpr (by omega);have e4:aa (k%5) 4=true:=ao.mpr (by omega);rw[e2,e3,e4]at hone;cases hone
theorem Uq{gs:List (Int×Int)}(hin:∀p∈gs,(0<=p.1/\p.1<=255)/\(0<=p.2/\p.2<=255))(hk:0<=k/\k<=255)(hp:0<=p/\p<=255)(ho:0<=op/\op<=255)(h1:af .u8 f)(h2:af .u16 n)(h3:af .u8 z0)(h4:af .u8 z1)(h5:af .u8 m)(h6:af .u8 d)(h7:af .u8 x)(h8:af .u8 y)(h9:af .u8 z)(hfr : -32768<=fr/\fr<=32767)(hma:0<=ma/\ma<=255)(hone:iB k f n z0 z1 m d=false):bu Tryz.prog cfg 5 [.h [.a .u8 k,.a .u8 p,.a .u8 op,.a .u8 f,.b ng,.a .u16 n,.a .u8 z0,.a .u8 z1,.a .u8 m,.a .u8 d,.a .u8 x,.a .u8 y,.a .u8 z,.a .i16 fr,.a .u8 ma,.c 14 0 gs.length K]] [.a (js gs) false none] (kW k p op f ng n z0 z1 m d fr ma) []:=by
 have l1:Nat.ble (gw f n z0 z1).length 1000=true:=by rw[al];have:=@sE f n z0 z1;omega
 have l2:Nat.ble (jZ f n z0 z1 m).length 1000=true:=by rw[al];have:=@rf f n z0 z1 m;omega
 have l3:Nat.ble (nY f n z0 z1 m d).length 1000=true:=by rw[al];have:=@rU f n z0 z1 m d;omega
 have i1:af .i16 fr=true:=by rw[aE];exact hfr
 have i2:af .u8 op=true:=by rw[aE];exact ho
 have i3:af .u8 ma=true:=by rw[aE];exact hma
 have hw1:∀x∈[aD.a (js gs) false none],cR 14 x:=λx hx=>by
  simp only[zAe]at hx;subst hx;exact aO pP
 have cf:k%5=0\/k%5=1\/k%5=2\/k%5=3\/k%5=4:=by omega
 rcases cf with cf|cf|cf|cf|cf
 . exfalso;have e1:aa (k%5) 1=false:=aw.mpr (by omega);have e2:aa (k%5) 2=false:=aw.mpr (by omega);have e3:aa (k%5) 3=false:=aw.mpr (by omega);have e4:aa (k%5) 4=false:=aw.mpr (by omega);unfold iB fX at hone;rw[e1,e2,e3,e4]at hone;cases hone
 . skip
   have e1:aa (k%5) 1=true:=ao.mpr (by omega);have e2:aa (k%5) 2=false:=aw.mpr (by omega);have e3:aa (k%5) 3=false:=aw.mpr (by omega);have e4:aa (k%5) 4=false:=aw.mpr (by omega);have hX:fX k f n z0 z1 m d=true:=by
    unfold iB at hone;rw[e2,e3,e4]at hone;simpa using hone
   have hX':=hX;unfold fX at hX';simp only[zAa]at hX';obtain⟨_,hg,hx⟩:=hX';have g0:la f n z0 z1=0:=ao.mp hg;refine ns iQ hw1 ai (bE 156270063006770206200777006200) (R:=λQ=>(λ(A H I:AV)(C:Int)(E F G:List UInt8)=>(λ(B N O P T:Bool)=>aa (Int.tmod k 5) 1/\af .u8 f/\af .u16 n/\af .u8 z0/\af .u8 z1/\af .u8 m/\af .u8 d/\af .u8 x/\af .u8 y/\af .u8 z/\B/\B/\N/\O/\P/\B/\B/\T/\not (ab C 0)=false/\N/\O/\P/\T/\Q (.h [.a .u8 2,.f,.b (qV f ng n z0 z1),.b (sY f),.d E,.a .i64 (kQ f z1),.a .i64 C,.d F,.d G,A,A,A,A,H,I,H,I])) (aa C 0) (Nat.ble E.length 1000) (Nat.ble F.length 1000) (Nat.ble G.length 1000) (aa (bI (bo ((E++F)++G))) 1)) (.a .u8 0) (.a .i8 0) (.a .i64 0) (la f n z0 z1) (gw f n z0 z1) (jZ f n z0 z1 m) (nY f n z0 z1 m d)) (λ_=>by kernel_rfl) (hi:=(by simp[kW,aC,bw])) λQ' hQ=>?_;try dsimp only
   unfold kW wm zQ fS fE wt wq at hQ;rw[hX]at hQ;simp only[fK,fP,fA,fB,fC,fD,e2,e3,e4,zAj,Bool.true_and,Bool.false_and]at hQ;try dsimp only
   rw[tm (b:=5) hk.1];simp only[h1,h2,h3,h4,h5,h6,h7,h8,h9,l1,l2,l3,i1,i2,i3,M4,e1,hx];rw[g0];try simp only[az,reduceCtorEq]
   (repeat' first|exact trivial|refine⟨?_,?_⟩|intro)<;>first|contradiction|omega|exact hQ
 . skip
   have e1:aa (k%5) 1=false:=aw.mpr (by omega);have e2:aa (k%5) 2=true:=ao.mpr (by omega);have e3:aa (k%5) 3=false:=aw.mpr (by omega);have e4:aa (k%5) 4=false:=aw.mpr (by omega);have hX:fX k f n z0 z1 m d=false:=by unfold fX;rw[e1];rfl
   have tp:Int.tmod p 3=p%3:=tm hp.1;have tpo:Int.tmod op 4=op%4:=tm ho.1;have a1:Int.add 1 (p%3)=1+p%3:=rfl;have a2:Int.add fr ma=fr+ma:=rfl;have b1:1<=1+p%3/\1+p%3<=3:=by omega
   refine ns iQ hw1 ai (bE 16610664001663000455270702002702202002300) (R:=λQ=>(λ(A B C F H I:AV)(P:Bool)(E G O T:Int)=>(λ(N W Y:AV)(U:Bool)(V:Prop)=>(λ(Z:Prop->Prop)=>aa O 1=false/\aa O 2/\af .u8 E/\P/\U/\ab (Neg.neg 40000) fr/\ab fr 40000/\Z (P/\af .i64 ma/\af .i64 G/\U/\ab (Neg.neg 40000) G/\ab G 40000/\Z ((aa T 1->V/\Q (.h [I,.f,F,F,A,C,C,A,A,B,B,B,N,.a .i8 (Neg.neg 1),C,H,W]))/\(aa T 1=false->(aa T 2->Q (.h [I,.f,F,F,A,C,C,A,A,B,B,B,N,H,Y,.a .i8 1,C]))/\(V->Q (.h [I,.f,F,F,A,C,C,A,A,B,B,B,N,H,Y,H,W])))))) (λu0=>ab 1 E/\ab E 3/\u0)) (.a .u8 E) (.a .i64 (Cr G E)) (.a .i64 (Cp fr E)) (af .i64 E) (aa T 2=false)) (.d []) (.a .u8 0) (.a .i64 0) (.b false) (.a .i8 0) (.a .u8 3) (af .i64 fr) (Int.add 1 (Int.tmod p 3)) (Int.add fr ma) (Int.tmod k 5) (Int.tmod op 4)) (λ_=>by kernel_rfl) (hi:=(by simp[kW,aC,bw])) λQ' hQ=>?_;try dsimp only
   unfold kW wm zQ fS fE wt wq at hQ;rw[hX]at hQ;simp only[fK,fP,fA,fB,fC,fD,e2,e3,e4,zAj,Bool.true_and,Bool.false_and]at hQ;try dsimp only
   rw[tm (b:=5) hk.1];simp only[h1,h2,h3,h4,h5,h6,h7,h8,h9,l1,l2,l3,i1,i2,i3,M4,tp,tpo,a1,a2,e1,e2];generalize 1+p%3=P at *;cases o1:aa (op%4) 1<;>cases o2:aa (op%4) 2<;>simp only[o1,o2,zAj]at hQ ⊢;all_goals
    simp only[az,reduceCtorEq]at o1 o2 ⊢
    (repeat' first|exact trivial|refine⟨?_,?_⟩|intro)<;>first|contradiction|omega|exact hQ
 . skip
   have e1:aa (k%5) 1=false:=aw.mpr (by omega);have e2:aa (k%5) 2=false:=aw.mpr (by omega);have e3:aa (k%5) 3=true:=ao.mpr (by omega);have e4:aa (k%5) 4=false:=aw.mpr (by omega);have hX:fX k f n z0 z1 m d=false:=by unfold fX;rw[e1];rfl
   refine ns iQ hw1 ai (bE 102023300) (R:=λQ=>(λ(A C E F:AV)(B:Int)=>aa B 1=false/\aa B 2=false/\aa B 3/\af .i64 fr/\Q (.h [.a .u8 4,.f,F,F,C,E,E,C,C,A,A,A,A,.a .i8 (Neg.neg 1),E,.a .i8 0,.a .i64 fr])) (.a .u8 0) (.d []) (.a .i64 0) (.b false) (Int.tmod k 5)) (λ_=>by kernel_rfl) (hi:=(by simp[kW,aC,bw])) λQ' hQ=>?_;try dsimp only
   unfold kW wm zQ fS fE wt wq at hQ;rw[hX]at hQ;simp only[fK,fP,fA,fB,fC,fD,e2,e3,e4,zAj,Bool.true_and,Bool.false_and]at hQ;try dsimp only
   rw[tm (b:=5) hk.1];simp only[h1,h2,h3,h4,h5,h6,h7,h8,h9,l1,l2,l3,i1,i2,i3,M4,e1,e2,e3];try simp only[az,reduceCtorEq]
   (repeat' first|exact trivial|refine⟨?_,?_⟩|intro)<;>first|contradiction|omega|exact hQ
 . skip
   have e1:aa (k%5) 1=false:=aw.mpr (by omega);have e2:aa (k%5) 2=false:=aw.mpr (by omega);have e3:aa (k%5) 3=false:=aw.mpr (by omega);have e4:aa (k%5) 4=true:=ao.mpr (by omega);have hX:fX k f n z0 z1 m d=false:=by unfold fX;rw[e1];rfl
   refine ns iQ hw1 ai (bE 10202800) (R:=λQ=>(λ(B C E F:AV)(A:Int)=>aa A 1=false/\aa A 2=false/\aa A 3=false/\aa A 4/\af .i64 fr/\Q (.h [.a .u8 5,.f,F,F,C,E,E,C,C,B,B,B,B,.a .i8 0,.a .i64 fr,.a .i8 1,E])) (.a .u8 0) (.d []) (.a .i64 0) (.b false) (Int.tmod k 5)) (λ_=>by kernel_rfl) (hi:=(by simp[kW,aC,bw])) λQ' hQ=>?_;try dsimp only
   unfold kW wm zQ fS fE wt wq at hQ;rw[hX]at hQ;simp only[fK,fP,fA,fB,fC,fD,e2,e3,e4,zAj,Bool.true_and,Bool.false_and]at hQ;try dsimp only
   rw[tm (b:=5) hk.1];simp only[h1,h2,h3,h4,h5,h6,h7,h8,h9,l1,l2,l3,i1,i2,i3,M4,e1,e2,e3,e4];try simp only[az,reduceCtorEq]
   (repeat' first|exact trivial|refine⟨?_,?_⟩|intro)<;>first|contradiction|omega|exact hQ
end Go.Ev
