import Derived.Test.YtoghlpcacfnjbaaGreatDoorP34
set_option linter.all false
set_option maxRecDepth 100000
set_option maxHeartbeats 4000000
namespace Go.Ev
open Go Go.Proofs
variable{k p op f n z0 z1 m d x y z fr ma:Int}{ng:Bool}{K:eZ}
def fX(k f n z0 z1 m d:Int):Bool:=aa (k%5) 1&&(aa (kE f n z0 z1) 0&&ba (gA f n z0 z1++jY f n z0 z1 m++nF f n z0 z1 m d))
def iL(k f n z0 z1 m d:Int):Bool:=!(aa (k%5) 2)&&(!(aa (k%5) 3)&&(!(aa (k%5) 4)&&!(fX k f n z0 z1 m d)))
def fK(k f n z0 z1 m d:Int):Int:=bif aa (k%5) 2 then 3 else bif aa (k%5) 3 then 4 else bif aa (k%5) 4 then 5 else 2
def wd(k f:Int)(ng:Bool)(n z0 z1 m d:Int):Bool:=fX k f n z0 z1 m d&&su f ng n z0 z1
def zL(k f n z0 z1 m d:Int):Bool:=fX k f n z0 z1 m d&&sw f
def fS(k f n z0 z1 m d:Int):List UInt8:=bif fX k f n z0 z1 m d then gA f n z0 z1 else[]
def fE(k f n z0 z1 m d:Int):Int:=bif fX k f n z0 z1 m d then kG f z1 else 0
def tV(k f n z0 z1 m d:Int):List UInt8:=bif fX k f n z0 z1 m d then jY f n z0 z1 m else[]
def tN(k f n z0 z1 m d:Int):List UInt8:=bif fX k f n z0 z1 m d then nF f n z0 z1 m d else[]
def fP(k p:Int):Int:=bif aa (k%5) 2 then 1+p%3 else 0
def fA(k op:Int):Int:=bif aa (k%5) 2 then(bif aa (op%4) 1 then -1 else 0)else bif aa (k%5) 3 then -1 else 0
def fB(k p op fr:Int):Int:=bif aa (k%5) 2 then(bif aa (op%4) 1 then 0 else BN fr (1+p%3))else bif aa (k%5) 4 then fr else 0
def fC(k op:Int):Int:=bif aa (k%5) 2 then(bif aa (op%4) 2 then 1 else 0)else bif aa (k%5) 4 then 1 else 0
def fD(k p op fr ma:Int):Int:=bif aa (k%5) 2 then(bif aa (op%4) 2 then 0 else BM (fr+ma) (1+p%3))else bif aa (k%5) 3 then fr else 0
def kH(k p op f:Int)(ng:Bool)(n z0 z1 m d fr ma:Int):AV:=.agg [.int .u8 (fK k f n z0 z1 m d),.nilslice,.bool (wd k f ng n z0 z1 m d),.bool (zL k f n z0 z1 m d),.str (fS k f n z0 z1 m d),.int .i64 (fE k f n z0 z1 m d),.int .i64 0,.str (tV k f n z0 z1 m d),.str (tN k f n z0 z1 m d),.int .u8 0,.int .u8 0,.int .u8 0,.int .u8 (fP k p),.int .i8 (fA k op),.int .i64 (fB k p op fr),.int .i8 (fC k op),.int .i64 (fD k p op fr ma)]
def Xm:lB:=λargs ws=>match args,ws with
 | [.agg [.int .u8 k,.int .u8 p,.int .u8 op,.int .u8 f,.bool ng,.int .u16 n,.int .u8 z0,.int .u8 z1,.int .u8 m,.int .u8 d,.int .u8 x,.int .u8 y,.int .u8 z,.int .i16 fr,.int .u8 ma,.nilslice]],[]=>some (aH [ae .u8 k,ae .u8 p,ae .u8 op,ae .u8 f,ae .u16 n,ae .u8 z0,ae .u8 z1,ae .u8 m,ae .u8 d,ae .u8 x,ae .u8 y,ae .u8 z,ae .i16 fr,ae .u8 ma] (.test (iL k f n z0 z1 m d) λb=>bif b then .ret (zb 14 (mA (eO fr ma (aa (op%4) 1) (aa (op%4) 2) [])) (.known 1),[.cells (bB (eO fr ma (aa (op%4) 1) (aa (op%4) 2) [])) true none])else .ret (kH k p op f ng n z0 z1 m d fr ma,[])))
 | [.agg [.int .u8 k,.int .u8 p,.int .u8 op,.int .u8 f,.bool ng,.int .u16 n,.int .u8 z0,.int .u8 z1,.int .u8 m,.int .u8 d,.int .u8 x,.int .u8 y,.int .u8 z,.int .i16 fr,.int .u8 ma,.slice 14 0 l K]],[.cells w false none]=>some (aH [ae .u8 k,ae .u8 p,ae .u8 op,ae .u8 f,ae .u16 n,ae .u8 z0,ae .u8 z1,ae .u8 m,ae .u8 d,ae .u8 x,ae .u8 y,ae .u8 z,ae .i16 fr,ae .u8 ma,tg w,Nat.beq (p7 w).length l] (.test (iL k f n z0 z1 m d) λb=>bif b then .ret (zb 15 (mA (eO fr ma (aa (op%4) 1) (aa (op%4) 2) (p7 w))) (CD (p7 w)),[.cells (bB (eO fr ma (aa (op%4) 1) (aa (op%4) 2) (p7 w))) true (Dh (p7 w))])else .ret (kH k p op f ng n z0 z1 m d fr ma,[])))
 | _,_=>none
def S26:aR:=aY (fw (aY (aY gX 14 YB) 15 Xe) 17 (fy 14 [2] XV)) 18 Yc
theorem iE:ak Tryz.prog cfg S26:=Vx (Wl (Wy (Vq aV)))
theorem Mc{b:Bool}:aa (bI b) 1=b:=by cases b<;>rfl
theorem nc:∀{gs:List (Int×Int)},(jI gs).length=gs.length*2
 | []=>rfl
 | p::r=>by simp only[jI,zAd,nc (gs:=r)];omega
theorem iU:∀{gs:List (Int×Int)},bw 14 (jI gs)=true
 | []=>rfl
 | p::r=>by
   have:=iU (gs:=r);unfold bw at this ⊢;simp only[jI,List.all_cons,zAa];exact⟨rfl,rfl,this⟩
theorem qH:∀{gs:List (Int×Int)},p7 (jI gs)=gs
 | []=>rfl
 | p::r=>by simp only[jI,p7,qH (gs:=r)]
theorem q5:∀{gs:List (Int×Int)},(∀p∈gs,(0<=p.1/\p.1<=255)/\(0<=p.2/\p.2<=255))->tg (jI gs)=true
 | [],_=>rfl
 | p::r,h=>by
   simp only[jI,tg,zAa,aB,dP,dR];have h0:=h p (by simp);exact⟨h0.1,h0.2,q5 λq hq=>h q (by simp[hq])⟩
theorem ww{gs:List (Int×Int)}:cN (jI gs) 0 (gs.length*2)=jI gs:=by
 unfold cN;rw[List.drop_zero];exact List.take_of_length_le (by rw[nc];exact Nat.le_refl _)
theorem ru{f n z0 z1:Int}:(gA f n z0 z1).length<=5:=by
 unfold gA P0 Ig;cases aa (f%6) 3<;>cases aa (f%6) 5<;>cases ab (z1%3) 0<;>simp only[zAj,zAd,List.length_nil,List.length_take]<;>omega
theorem VK{L:List (List UInt8)}(h:L.all (λs=>Nat.ble s.length 2))(i:Nat):(L.getD i []).length<=2:=by
 rw[zAe];cases hi:L[i]? with
 | none=>exact Nat.zero_le _
 | some s=>exact Nat.le_of_ble_eq_true (List.all_eq_true.1 h s (List.mem_of_getElem? hi))
theorem MP:(zt k).length<=2:=by
 have h:=VK (L:=W7) (by decide) (k-34).toNat;unfold zt;generalize W7.getD (k-34).toNat []=x at *;cases aa k 0<;>cases ab k 12<;>cases ab k 33<;>first|exact h|exact Nat.le_refl _|exact Nat.zero_le _
theorem Mj{mo:List UInt8}:(FY k mo).length<=2:=by
 have h:=VK (L:=Xa) (by decide) (bif af mo [UInt8.ofNat 48,UInt8.ofNat 50]&&aa k 35 then 2 else(k-32).toNat);unfold FY;generalize List.getD Xa _ []=x at *;cases aa k 0<;>cases ab k 31<;>first|exact h|exact Nat.le_refl _|exact Nat.zero_le _
theorem rE{f n z0 z1 m:Int}:(jY f n z0 z1 m).length<=2:=by
 unfold jY;cases aa (kE f n z0 z1) 0
 . exact Nat.zero_le _
 . exact MP
theorem rX{f n z0 z1 m d:Int}:(nF f n z0 z1 m d).length<=2:=by
 unfold nF;cases(!(af (jY f n z0 z1 m) [])&&aa (aL (jY f n z0 z1 m)) 0)
 . exact Nat.zero_le _
 . exact Mj
theorem WQ(hk:0<=k/\k<=255)(hp:0<=p/\p<=255)(ho:0<=op/\op<=255)(h1:ae .u8 f)(h2:ae .u16 n)(h3:ae .u8 z0)(h4:ae .u8 z1)(h5:ae .u8 m)(h6:ae .u8 d)(h7:ae .u8 x)(h8:ae .u8 y)(h9:ae .u8 z)(hfr : -32768<=fr/\fr<=32767)(hma:0<=ma/\ma<=255)(hone:iL k f n z0 z1 m d):bt Tryz.prog cfg 5 [.agg [.int .u8 k,.int .u8 p,.int .u8 op,.int .u8 f,.bool ng,.int .u16 n,.int .u8 z0,.int .u8 z1,.int .u8 m,.int .u8 d,.int .u8 x,.int .u8 y,.int .u8 z,.int .i16 fr,.int .u8 ma,.nilslice]] [] (zb 14 (mA (eO fr ma (aa (op%4) 1) (aa (op%4) 2) [])) (.known 1)) [.cells (bB (eO fr ma (aa (op%4) 1) (aa (op%4) 2) [])) true none]:=by
 have l1:Nat.ble (gA f n z0 z1).length 1000=true:=by rw[aq];have:=@ru f n z0 z1;omega
 have l2:Nat.ble (jY f n z0 z1 m).length 1000=true:=by rw[aq];have:=@rE f n z0 z1 m;omega
 have l3:Nat.ble (nF f n z0 z1 m d).length 1000=true:=by rw[aq];have:=@rX f n z0 z1 m d;omega
 have i1:ae .i16 fr=true:=by rw[aB];exact hfr
 have i2:ae .u8 op=true:=by rw[aB];exact ho
 have i3:ae .u8 ma=true:=by rw[aB];exact hma
 have cf:k%5=0\/k%5=1\/k%5=2\/k%5=3\/k%5=4:=by omega
 unfold iL at hone;rcases cf with cf|cf|cf|cf|cf
 . skip
   have e1:aa (k%5) 1=false:=ay.mpr (by omega);have e2:aa (k%5) 2=false:=ay.mpr (by omega);have e3:aa (k%5) 3=false:=ay.mpr (by omega);have e4:aa (k%5) 4=false:=ay.mpr (by omega);refine BO iE ag (bA 1075563800) (R:=λQ=>(λ(B C E G H:AV)(A F:Int)=>(λ(I:List AV)=>aa A 1=false/\aa A 2=false/\aa A 3=false/\aa A 4=false/\ae .u8 op/\ae .i16 fr/\ae .u8 ma/\Q (.agg I,⟨3,[.cells (bB (eO fr ma (aa F 1) (aa F 2) [])) true none,.cells I true none,.cells [.int .u8 k,.int .u8 p,.int .u8 op,.int .u8 f,.bool ng,.int .u16 n,.int .u8 z0,.int .u8 z1,.int .u8 m,.int .u8 d,.int .u8 x,.int .u8 y,.int .u8 z,.int .i16 fr,.int .u8 ma,.nilslice] true none],[]⟩)) [.int .u8 1,.slice 16 0 (mA (eO fr ma (aa F 1) (aa F 2) [])) (eZ.known 1),G,G,E,B,B,E,E,C,C,C,C,H,B,H,B]) (.int .i64 0) (.int .u8 0) (.str []) (.bool false) (.int .i8 0) (Int.tmod k 5) (HMod.hMod op 4)) (λ_=>by kernel_rfl) λQ' hQ=>?_;try dsimp only
   try dsimp only
   rw[tm (b:=5) hk.1];have c0:Bool.and true true=true:=rfl;simp only[h1,h2,h3,h4,h5,h6,h7,h8,h9,l1,l2,l3,i1,i2,i3,e1,e2,e3,e4,c0];try simp only[az,reduceCtorEq]
   (repeat' first|exact trivial|refine⟨?_,?_⟩|intro)<;>first|contradiction|omega|exact hQ _ (dL.lastW (ws:=[]) (λx hx=>by cases hx) rfl rfl f_ rfl)
 . skip
   have e1:aa (k%5) 1=true:=al.mpr (by omega);have e2:aa (k%5) 2=false:=ay.mpr (by omega);have e3:aa (k%5) 3=false:=ay.mpr (by omega);have e4:aa (k%5) 4=false:=ay.mpr (by omega);cases hg:aa (kE f n z0 z1) 0 with
   | false=>
     refine BO iE ag (bA 107663800777006200) (R:=λQ=>(λ(A B E I N:AV)(G H:Int)(O P:List UInt8)=>(λ(F:Int)(T:List AV)(C:Prop)=>aa (Int.tmod k 5) 1/\ae .u8 f/\ae .u16 n/\ae .u8 z0/\ae .u8 z1/\ae .u8 m/\ae .u8 d/\ae .u8 x/\ae .u8 y/\ae .u8 z/\C/\C/\C/\C/\ae .u8 op/\ae .i16 fr/\ae .u8 ma/\Q (.agg T,⟨4,[.cells (bB (eO fr ma (aa H 1) (aa H 2) [])) true none,.cells [.bool (su f ng n z0 z1),.bool (sw f),.str (gA f n z0 z1),.int .i64 (kG f z1),.int .i64 G,.str O,.str P,.int .u8 (Dq F 0 x),.int .u8 (Dq F 1 y),.int .u8 (Dq F 2 z)] true none,.cells T true none,.cells [.int .u8 k,.int .u8 p,.int .u8 op,.int .u8 f,.bool ng,.int .u16 n,.int .u8 z0,.int .u8 z1,.int .u8 m,.int .u8 d,.int .u8 x,.int .u8 y,.int .u8 z,.int .i16 fr,.int .u8 ma,.nilslice] true none],[]⟩)) (df O P) [.int .u8 1,.slice 17 0 (mA (eO fr ma (aa H 1) (aa H 2) [])) (eZ.known 1),I,I,E,A,A,E,E,B,B,B,B,N,A,N,A] (aa G 0=false)) (.int .i64 0) (.int .u8 0) (.str []) (.bool false) (.int .i8 0) (kE f n z0 z1) (HMod.hMod op 4) (jY f n z0 z1 m) (nF f n z0 z1 m d)) (λ_=>by kernel_rfl) λQ' hQ=>?_;try dsimp only
     try dsimp only
     rw[tm (b:=5) hk.1];have c0:Bool.and true true=true:=rfl;simp only[h1,h2,h3,h4,h5,h6,h7,h8,h9,l1,l2,l3,i1,i2,i3,e1,e2,e3,e4,hg,c0];try simp only[az,reduceCtorEq]
     (repeat' first|exact trivial|refine⟨?_,?_⟩|intro)<;>first|contradiction|omega|exact hQ _ (dL.lastW (ws:=[]) (λx hx=>by cases hx) rfl rfl f_ rfl)
   | true=>
     have hX:ba (gA f n z0 z1++jY f n z0 z1 m++nF f n z0 z1 m d)=false:=by
      unfold fX at hone;rw[e1,e2,e3,e4,hg]at hone;simpa using hone
     refine BO iE ag (bA 10755632270206200777006200) (R:=λQ=>(λ(C E H P T:AV)(N O:Int)(A B G:List UInt8)=>(λ(F:Bool)(I:Int)(U:List AV)=>aa (Int.tmod k 5) 1/\ae .u8 f/\ae .u16 n/\ae .u8 z0/\ae .u8 z1/\ae .u8 m/\ae .u8 d/\ae .u8 x/\ae .u8 y/\ae .u8 z/\F/\F/\Nat.ble G.length 1000/\Nat.ble A.length 1000/\Nat.ble B.length 1000/\F/\F/\aa (bI (ba ((G++A)++B))) 1=false/\ae .u8 op/\ae .i16 fr/\ae .u8 ma/\Q (.agg U,⟨4,[.cells (bB (eO fr ma (aa O 1) (aa O 2) [])) true none,.cells [.bool (su f ng n z0 z1),.bool (sw f),.str G,.int .i64 (kG f z1),.int .i64 N,.str A,.str B,.int .u8 (Dq I 0 x),.int .u8 (Dq I 1 y),.int .u8 (Dq I 2 z)] true none,.cells U true none,.cells [.int .u8 k,.int .u8 p,.int .u8 op,.int .u8 f,.bool ng,.int .u16 n,.int .u8 z0,.int .u8 z1,.int .u8 m,.int .u8 d,.int .u8 x,.int .u8 y,.int .u8 z,.int .i16 fr,.int .u8 ma,.nilslice] true none],[]⟩)) (aa N 0) (df A B) [.int .u8 1,.slice 17 0 (mA (eO fr ma (aa O 1) (aa O 2) [])) (eZ.known 1),P,P,H,C,C,H,H,E,E,E,E,T,C,T,C]) (.int .i64 0) (.int .u8 0) (.str []) (.bool false) (.int .i8 0) (kE f n z0 z1) (HMod.hMod op 4) (jY f n z0 z1 m) (nF f n z0 z1 m d) (gA f n z0 z1)) (λ_=>by kernel_rfl) λQ' hQ=>?_;try dsimp only
     try dsimp only
     rw[tm (b:=5) hk.1];have c0:Bool.and true true=true:=rfl;simp only[h1,h2,h3,h4,h5,h6,h7,h8,h9,l1,l2,l3,i1,i2,i3,e1,e2,e3,e4,hg,Mc,hX,c0];try simp only[az,reduceCtorEq]
     (repeat' first|exact trivial|refine⟨?_,?_⟩|intro)<;>first|contradiction|omega|exact hQ _ (dL.lastW (ws:=[]) (λx hx=>by cases hx) rfl rfl f_ rfl)
 . exfalso;have e1:aa (k%5) 1=false:=ay.mpr (by omega);have e2:aa (k%5) 2=true:=al.mpr (by omega);have e3:aa (k%5) 3=false:=ay.mpr (by omega);have e4:aa (k%5) 4=false:=ay.mpr (by omega);rw[e2]at hone;cases hone
 . exfalso;have e1:aa (k%5) 1=false:=ay.mpr (by omega);have e2:aa (k%5) 2=false:=ay.mpr (by omega);have e3:aa (k%5) 3=true:=al.mpr (by omega);have e4:aa (k%5) 4=false:=ay.mpr (by omega);rw[e2,e3]at hone;cases hone
 . exfalso;have e1:aa (k%5) 1=false:=ay.mpr (by omega);have e2:aa (k%5) 2=false:=ay.mpr (by omega);have e3:aa (k%5) 3=false:=ay.mpr (by omega);have e4:aa (k%5) 4=true:=al.mpr (by omega);rw[e2,e3,e4]at hone;cases hone
theorem WF(hk:0<=k/\k<=255)(hp:0<=p/\p<=255)(ho:0<=op/\op<=255)(h1:ae .u8 f)(h2:ae .u16 n)(h3:ae .u8 z0)(h4:ae .u8 z1)(h5:ae .u8 m)(h6:ae .u8 d)(h7:ae .u8 x)(h8:ae .u8 y)(h9:ae .u8 z)(hfr : -32768<=fr/\fr<=32767)(hma:0<=ma/\ma<=255)(hone:iL k f n z0 z1 m d=false):bt Tryz.prog cfg 5 [.agg [.int .u8 k,.int .u8 p,.int .u8 op,.int .u8 f,.bool ng,.int .u16 n,.int .u8 z0,.int .u8 z1,.int .u8 m,.int .u8 d,.int .u8 x,.int .u8 y,.int .u8 z,.int .i16 fr,.int .u8 ma,.nilslice]] [] (kH k p op f ng n z0 z1 m d fr ma) []:=by
 have l1:Nat.ble (gA f n z0 z1).length 1000=true:=by rw[aq];have:=@ru f n z0 z1;omega
 have l2:Nat.ble (jY f n z0 z1 m).length 1000=true:=by rw[aq];have:=@rE f n z0 z1 m;omega
 have l3:Nat.ble (nF f n z0 z1 m d).length 1000=true:=by rw[aq];have:=@rX f n z0 z1 m d;omega
 have i1:ae .i16 fr=true:=by rw[aB];exact hfr
 have i2:ae .u8 op=true:=by rw[aB];exact ho
 have i3:ae .u8 ma=true:=by rw[aB];exact hma
 have cf:k%5=0\/k%5=1\/k%5=2\/k%5=3\/k%5=4:=by omega
 rcases cf with cf|cf|cf|cf|cf
 . exfalso;have e1:aa (k%5) 1=false:=ay.mpr (by omega);have e2:aa (k%5) 2=false:=ay.mpr (by omega);have e3:aa (k%5) 3=false:=ay.mpr (by omega);have e4:aa (k%5) 4=false:=ay.mpr (by omega);unfold iL fX at hone;rw[e1,e2,e3,e4]at hone;cases hone
 . skip
   have e1:aa (k%5) 1=true:=al.mpr (by omega);have e2:aa (k%5) 2=false:=ay.mpr (by omega);have e3:aa (k%5) 3=false:=ay.mpr (by omega);have e4:aa (k%5) 4=false:=ay.mpr (by omega);have hX:fX k f n z0 z1 m d=true:=by
    unfold iL at hone;rw[e2,e3,e4]at hone;simpa using hone
   have hX':=hX;unfold fX at hX';simp only[zAa]at hX';obtain⟨_,hg,hx⟩:=hX';have g0:kE f n z0 z1=0:=al.mp hg;refine m8 iE (λx hx=>by cases hx) ag (bA 156270063006770206200777006200) (R:=λQ=>(λ(A H I:AV)(C:Int)(E F G:List UInt8)=>(λ(B N O P T:Bool)=>aa (Int.tmod k 5) 1/\ae .u8 f/\ae .u16 n/\ae .u8 z0/\ae .u8 z1/\ae .u8 m/\ae .u8 d/\ae .u8 x/\ae .u8 y/\ae .u8 z/\B/\B/\N/\O/\P/\B/\B/\T/\not (ab C 0)=false/\N/\O/\P/\T/\Q (.agg [.int .u8 2,.nilslice,.bool (su f ng n z0 z1),.bool (sw f),.str E,.int .i64 (kG f z1),.int .i64 C,.str F,.str G,A,A,A,A,H,I,H,I])) (aa C 0) (Nat.ble E.length 1000) (Nat.ble F.length 1000) (Nat.ble G.length 1000) (aa (bI (ba ((E++F)++G))) 1)) (.int .u8 0) (.int .i8 0) (.int .i64 0) (kE f n z0 z1) (gA f n z0 z1) (jY f n z0 z1 m) (nF f n z0 z1 m d)) (λ_=>by kernel_rfl) (hi:=(by simp[kH,aD,bz])) λQ' hQ=>?_;try dsimp only
   unfold kH wd zL fS fE tV tN at hQ;rw[hX]at hQ;simp only[fK,fP,fA,fB,fC,fD,e2,e3,e4,zAj,Bool.true_and,Bool.false_and]at hQ;try dsimp only
   rw[tm (b:=5) hk.1];simp only[h1,h2,h3,h4,h5,h6,h7,h8,h9,l1,l2,l3,i1,i2,i3,Mc,e1,hx];rw[g0];try simp only[az,reduceCtorEq]
   (repeat' first|exact trivial|refine⟨?_,?_⟩|intro)<;>first|contradiction|omega|exact hQ
 . skip
   have e1:aa (k%5) 1=false:=ay.mpr (by omega);have e2:aa (k%5) 2=true:=al.mpr (by omega);have e3:aa (k%5) 3=false:=ay.mpr (by omega);have e4:aa (k%5) 4=false:=ay.mpr (by omega);have hX:fX k f n z0 z1 m d=false:=by unfold fX;rw[e1];rfl
   have tp:Int.tmod p 3=p%3:=tm hp.1;have tpo:Int.tmod op 4=op%4:=tm ho.1;have a1:Int.add 1 (p%3)=1+p%3:=rfl;have a2:Int.add fr ma=fr+ma:=rfl;have b1:1<=1+p%3/\1+p%3<=3:=by omega
   refine m8 iE (λx hx=>by cases hx) ag (bA 16610664001663000455270702002702202002300) (R:=λQ=>(λ(A B C F H I:AV)(P:Bool)(E G O T:Int)=>(λ(N W Y:AV)(U:Bool)(V:Prop)=>(λ(Z:Prop->Prop)=>aa O 1=false/\aa O 2/\ae .u8 E/\P/\U/\ab (Neg.neg 40000) fr/\ab fr 40000/\Z (P/\ae .i64 ma/\ae .i64 G/\U/\ab (Neg.neg 40000) G/\ab G 40000/\Z ((aa T 1->V/\Q (.agg [I,.nilslice,F,F,A,C,C,A,A,B,B,B,N,.int .i8 (Neg.neg 1),C,H,W]))/\(aa T 1=false->(aa T 2->Q (.agg [I,.nilslice,F,F,A,C,C,A,A,B,B,B,N,H,Y,.int .i8 1,C]))/\(V->Q (.agg [I,.nilslice,F,F,A,C,C,A,A,B,B,B,N,H,Y,H,W])))))) (λu0=>ab 1 E/\ab E 3/\u0)) (.int .u8 E) (.int .i64 (BM G E)) (.int .i64 (BN fr E)) (ae .i64 E) (aa T 2=false)) (.str []) (.int .u8 0) (.int .i64 0) (.bool false) (.int .i8 0) (.int .u8 3) (ae .i64 fr) (Int.add 1 (Int.tmod p 3)) (Int.add fr ma) (Int.tmod k 5) (Int.tmod op 4)) (λ_=>by kernel_rfl) (hi:=(by simp[kH,aD,bz])) λQ' hQ=>?_;try dsimp only
   unfold kH wd zL fS fE tV tN at hQ;rw[hX]at hQ;simp only[fK,fP,fA,fB,fC,fD,e2,e3,e4,zAj,Bool.true_and,Bool.false_and]at hQ;try dsimp only
   rw[tm (b:=5) hk.1];simp only[h1,h2,h3,h4,h5,h6,h7,h8,h9,l1,l2,l3,i1,i2,i3,Mc,tp,tpo,a1,a2,e1,e2];generalize 1+p%3=P at *;cases o1:aa (op%4) 1<;>cases o2:aa (op%4) 2<;>simp only[o1,o2,zAj]at hQ ⊢;all_goals
    simp only[az,reduceCtorEq]at o1 o2 ⊢
    (repeat' first|exact trivial|refine⟨?_,?_⟩|intro)<;>first|contradiction|omega|exact hQ
 . skip
   have e1:aa (k%5) 1=false:=ay.mpr (by omega);have e2:aa (k%5) 2=false:=ay.mpr (by omega);have e3:aa (k%5) 3=true:=al.mpr (by omega);have e4:aa (k%5) 4=false:=ay.mpr (by omega);have hX:fX k f n z0 z1 m d=false:=by unfold fX;rw[e1];rfl
   refine m8 iE (λx hx=>by cases hx) ag (bA 102023300) (R:=λQ=>(λ(A C E F:AV)(B:Int)=>aa B 1=false/\aa B 2=false/\aa B 3/\ae .i64 fr/\Q (.agg [.int .u8 4,.nilslice,F,F,C,E,E,C,C,A,A,A,A,.int .i8 (Neg.neg 1),E,.int .i8 0,.int .i64 fr])) (.int .u8 0) (.str []) (.int .i64 0) (.bool false) (Int.tmod k 5)) (λ_=>by kernel_rfl) (hi:=(by simp[kH,aD,bz])) λQ' hQ=>?_;try dsimp only
   unfold kH wd zL fS fE tV tN at hQ;rw[hX]at hQ;simp only[fK,fP,fA,fB,fC,fD,e2,e3,e4,zAj,Bool.true_and,Bool.false_and]at hQ;try dsimp only
   rw[tm (b:=5) hk.1];simp only[h1,h2,h3,h4,h5,h6,h7,h8,h9,l1,l2,l3,i1,i2,i3,Mc,e1,e2,e3];try simp only[az,reduceCtorEq]
   (repeat' first|exact trivial|refine⟨?_,?_⟩|intro)<;>first|contradiction|omega|exact hQ
 . skip
   have e1:aa (k%5) 1=false:=ay.mpr (by omega);have e2:aa (k%5) 2=false:=ay.mpr (by omega);have e3:aa (k%5) 3=false:=ay.mpr (by omega);have e4:aa (k%5) 4=true:=al.mpr (by omega);have hX:fX k f n z0 z1 m d=false:=by unfold fX;rw[e1];rfl
   refine m8 iE (λx hx=>by cases hx) ag (bA 10202800) (R:=λQ=>(λ(B C E F:AV)(A:Int)=>aa A 1=false/\aa A 2=false/\aa A 3=false/\aa A 4/\ae .i64 fr/\Q (.agg [.int .u8 5,.nilslice,F,F,C,E,E,C,C,B,B,B,B,.int .i8 0,.int .i64 fr,.int .i8 1,E])) (.int .u8 0) (.str []) (.int .i64 0) (.bool false) (Int.tmod k 5)) (λ_=>by kernel_rfl) (hi:=(by simp[kH,aD,bz])) λQ' hQ=>?_;try dsimp only
   unfold kH wd zL fS fE tV tN at hQ;rw[hX]at hQ;simp only[fK,fP,fA,fB,fC,fD,e2,e3,e4,zAj,Bool.true_and,Bool.false_and]at hQ;try dsimp only
   rw[tm (b:=5) hk.1];simp only[h1,h2,h3,h4,h5,h6,h7,h8,h9,l1,l2,l3,i1,i2,i3,Mc,e1,e2,e3,e4];try simp only[az,reduceCtorEq]
   (repeat' first|exact trivial|refine⟨?_,?_⟩|intro)<;>first|contradiction|omega|exact hQ
theorem Va{gs:List (Int×Int)}(hin:∀p∈gs,(0<=p.1/\p.1<=255)/\(0<=p.2/\p.2<=255))(hk:0<=k/\k<=255)(hp:0<=p/\p<=255)(ho:0<=op/\op<=255)(h1:ae .u8 f)(h2:ae .u16 n)(h3:ae .u8 z0)(h4:ae .u8 z1)(h5:ae .u8 m)(h6:ae .u8 d)(h7:ae .u8 x)(h8:ae .u8 y)(h9:ae .u8 z)(hfr : -32768<=fr/\fr<=32767)(hma:0<=ma/\ma<=255)(hone:iL k f n z0 z1 m d):bt Tryz.prog cfg 5 [.agg [.int .u8 k,.int .u8 p,.int .u8 op,.int .u8 f,.bool ng,.int .u16 n,.int .u8 z0,.int .u8 z1,.int .u8 m,.int .u8 d,.int .u8 x,.int .u8 y,.int .u8 z,.int .i16 fr,.int .u8 ma,.slice 14 0 gs.length K]] [.cells (jI gs) false none] (zb 15 (mA (eO fr ma (aa (op%4) 1) (aa (op%4) 2) gs)) (CD gs)) [.cells (bB (eO fr ma (aa (op%4) 1) (aa (op%4) 2) gs)) true (Dh gs)]:=by
 have l1:Nat.ble (gA f n z0 z1).length 1000=true:=by rw[aq];have:=@ru f n z0 z1;omega
 have l2:Nat.ble (jY f n z0 z1 m).length 1000=true:=by rw[aq];have:=@rE f n z0 z1 m;omega
 have l3:Nat.ble (nF f n z0 z1 m d).length 1000=true:=by rw[aq];have:=@rX f n z0 z1 m d;omega
 have i1:ae .i16 fr=true:=by rw[aB];exact hfr
 have i2:ae .u8 op=true:=by rw[aB];exact ho
 have i3:ae .u8 ma=true:=by rw[aB];exact hma
 have hw1:∀x∈[aE.cells (jI gs) false none],cR 14 x:=λx hx=>by
  simp only[zAf]at hx;subst hx;exact aO oQ
 have cf:k%5=0\/k%5=1\/k%5=2\/k%5=3\/k%5=4:=by omega
 unfold iL at hone;rcases cf with cf|cf|cf|cf|cf
 . skip
   have e1:aa (k%5) 1=false:=ay.mpr (by omega);have e2:aa (k%5) 2=false:=ay.mpr (by omega);have e3:aa (k%5) 3=false:=ay.mpr (by omega);have e4:aa (k%5) 4=false:=ay.mpr (by omega);refine BO iE ag (bA 1077000563800) (R:=λQ=>(λ(B C F N O:AV)(A I:Int)(H:Nat)=>(λ(G:List AV)=>(λ(E:List (Int×Int))=>(λ(P:List AV)=>aa A 1=false/\aa A 2=false/\aa A 3=false/\aa A 4=false/\and true (and (Nat.ble (HAdd.hAdd 0 H) (jI gs).length) (bw 14 G))/\ae .u8 op/\ae .i16 fr/\ae .u8 ma/\tg G/\Nat.beq E.length gs.length/\Q (.agg P,⟨3,[.cells (bB (eO fr ma (aa I 1) (aa I 2) E)) true (Dh E),.cells P true none,.cells [.int .u8 k,.int .u8 p,.int .u8 op,.int .u8 f,.bool ng,.int .u16 n,.int .u8 z0,.int .u8 z1,.int .u8 m,.int .u8 d,.int .u8 x,.int .u8 y,.int .u8 z,.int .i16 fr,.int .u8 ma,.slice 14 0 gs.length K] true none],[]⟩)) [.int .u8 1,.slice 17 0 (mA (eO fr ma (aa I 1) (aa I 2) E)) (CD E),N,N,F,B,B,F,F,C,C,C,C,O,B,O,B]) (p7 G)) (cN (jI gs) 0 H)) (.int .i64 0) (.int .u8 0) (.str []) (.bool false) (.int .i8 0) (Int.tmod k 5) (HMod.hMod op 4) (HMul.hMul gs.length 2)) (λ_=>by kernel_rfl) λQ' hQ=>?_;try dsimp only
   try dsimp only
   rw[tm (b:=5) hk.1];have v1:=@ww gs;have v2:=q5 hin;have v3:=@qH gs;have v4:Nat.ble (0+gs.length*2) (jI gs).length=true:=by rw[aq,nc];omega
   have v5:=@iU gs;have v6:Nat.beq gs.length gs.length=true:=gb rfl;have c0:Bool.and true true=true:=rfl;simp only[h1,h2,h3,h4,h5,h6,h7,h8,h9,l1,l2,l3,i1,i2,i3,e1,e2,e3,e4,v1,v2,v3,v4,v5,v6,c0];try simp only[az,reduceCtorEq]
   (repeat' first|exact trivial|refine⟨?_,?_⟩|intro)<;>first|contradiction|omega|exact hQ _ (dL.lastW hw1 rfl rfl f_ rfl)
 . skip
   have e1:aa (k%5) 1=true:=al.mpr (by omega);have e2:aa (k%5) 2=false:=ay.mpr (by omega);have e3:aa (k%5) 3=false:=ay.mpr (by omega);have e4:aa (k%5) 4=false:=ay.mpr (by omega);cases hg:aa (kE f n z0 z1) 0 with
   | false=>
     refine BO iE ag (bA 10775563800777006200) (R:=λQ=>(λ(A B F P T:AV)(I O:Int)(U V:List UInt8)(N:Nat)=>(λ(H:Int)(G:List AV)(C:Prop)=>(λ(E:List (Int×Int))=>(λ(W:List AV)=>aa (Int.tmod k 5) 1/\ae .u8 f/\ae .u16 n/\ae .u8 z0/\ae .u8 z1/\ae .u8 m/\ae .u8 d/\ae .u8 x/\ae .u8 y/\ae .u8 z/\C/\C/\C/\C/\and true (and (Nat.ble (HAdd.hAdd 0 N) (jI gs).length) (bw 14 G))/\ae .u8 op/\ae .i16 fr/\ae .u8 ma/\tg G/\Nat.beq E.length gs.length/\Q (.agg W,⟨4,[.cells (bB (eO fr ma (aa O 1) (aa O 2) E)) true (Dh E),.cells [.bool (su f ng n z0 z1),.bool (sw f),.str (gA f n z0 z1),.int .i64 (kG f z1),.int .i64 I,.str U,.str V,.int .u8 (Dq H 0 x),.int .u8 (Dq H 1 y),.int .u8 (Dq H 2 z)] true none,.cells W true none,.cells [.int .u8 k,.int .u8 p,.int .u8 op,.int .u8 f,.bool ng,.int .u16 n,.int .u8 z0,.int .u8 z1,.int .u8 m,.int .u8 d,.int .u8 x,.int .u8 y,.int .u8 z,.int .i16 fr,.int .u8 ma,.slice 14 0 gs.length K] true none],[]⟩)) [.int .u8 1,.slice 18 0 (mA (eO fr ma (aa O 1) (aa O 2) E)) (CD E),P,P,F,A,A,F,F,B,B,B,B,T,A,T,A]) (p7 G)) (df U V) (cN (jI gs) 0 N) (aa I 0=false)) (.int .i64 0) (.int .u8 0) (.str []) (.bool false) (.int .i8 0) (kE f n z0 z1) (HMod.hMod op 4) (jY f n z0 z1 m) (nF f n z0 z1 m d) (HMul.hMul gs.length 2)) (λ_=>by kernel_rfl) λQ' hQ=>?_;try dsimp only
     try dsimp only
     rw[tm (b:=5) hk.1];have v1:=@ww gs;have v2:=q5 hin;have v3:=@qH gs;have v4:Nat.ble (0+gs.length*2) (jI gs).length=true:=by rw[aq,nc];omega
     have v5:=@iU gs;have v6:Nat.beq gs.length gs.length=true:=gb rfl;have c0:Bool.and true true=true:=rfl;simp only[h1,h2,h3,h4,h5,h6,h7,h8,h9,l1,l2,l3,i1,i2,i3,e1,e2,e3,e4,hg,v1,v2,v3,v4,v5,v6,c0];try simp only[az,reduceCtorEq]
     (repeat' first|exact trivial|refine⟨?_,?_⟩|intro)<;>first|contradiction|omega|exact hQ _ (dL.lastW hw1 rfl rfl f_ rfl)
   | true=>
     have hX:ba (gA f n z0 z1++jY f n z0 z1 m++nF f n z0 z1 m d)=false:=by
      unfold fX at hone;rw[e1,e2,e3,e4,hg]at hone;simpa using hone
     refine BO iE ag (bA 10770005632270206200777006200) (R:=λQ=>(λ(C E I V W:AV)(P U:Int)(A B H:List UInt8)(T:Nat)=>(λ(F:Bool)(O:Int)(N:List AV)=>(λ(G:List (Int×Int))=>(λ(Y:List AV)=>aa (Int.tmod k 5) 1/\ae .u8 f/\ae .u16 n/\ae .u8 z0/\ae .u8 z1/\ae .u8 m/\ae .u8 d/\ae .u8 x/\ae .u8 y/\ae .u8 z/\F/\F/\Nat.ble H.length 1000/\Nat.ble A.length 1000/\Nat.ble B.length 1000/\F/\F/\aa (bI (ba ((H++A)++B))) 1=false/\and true (and (Nat.ble (HAdd.hAdd 0 T) (jI gs).length) (bw 14 N))/\ae .u8 op/\ae .i16 fr/\ae .u8 ma/\tg N/\Nat.beq G.length gs.length/\Q (.agg Y,⟨4,[.cells (bB (eO fr ma (aa U 1) (aa U 2) G)) true (Dh G),.cells [.bool (su f ng n z0 z1),.bool (sw f),.str H,.int .i64 (kG f z1),.int .i64 P,.str A,.str B,.int .u8 (Dq O 0 x),.int .u8 (Dq O 1 y),.int .u8 (Dq O 2 z)] true none,.cells Y true none,.cells [.int .u8 k,.int .u8 p,.int .u8 op,.int .u8 f,.bool ng,.int .u16 n,.int .u8 z0,.int .u8 z1,.int .u8 m,.int .u8 d,.int .u8 x,.int .u8 y,.int .u8 z,.int .i16 fr,.int .u8 ma,.slice 14 0 gs.length K] true none],[]⟩)) [.int .u8 1,.slice 18 0 (mA (eO fr ma (aa U 1) (aa U 2) G)) (CD G),V,V,I,C,C,I,I,E,E,E,E,W,C,W,C]) (p7 N)) (aa P 0) (df A B) (cN (jI gs) 0 T)) (.int .i64 0) (.int .u8 0) (.str []) (.bool false) (.int .i8 0) (kE f n z0 z1) (HMod.hMod op 4) (jY f n z0 z1 m) (nF f n z0 z1 m d) (gA f n z0 z1) (HMul.hMul gs.length 2)) (λ_=>by kernel_rfl) λQ' hQ=>?_;try dsimp only
     try dsimp only
     rw[tm (b:=5) hk.1];have v1:=@ww gs;have v2:=q5 hin;have v3:=@qH gs;have v4:Nat.ble (0+gs.length*2) (jI gs).length=true:=by rw[aq,nc];omega
     have v5:=@iU gs;have v6:Nat.beq gs.length gs.length=true:=gb rfl;have c0:Bool.and true true=true:=rfl;simp only[h1,h2,h3,h4,h5,h6,h7,h8,h9,l1,l2,l3,i1,i2,i3,e1,e2,e3,e4,hg,Mc,hX,v1,v2,v3,v4,v5,v6,c0];try simp only[az,reduceCtorEq]
     (repeat' first|exact trivial|refine⟨?_,?_⟩|intro)<;>first|contradiction|omega|exact hQ _ (dL.lastW hw1 rfl rfl f_ rfl)
 . exfalso;have e1:aa (k%5) 1=false:=ay.mpr (by omega);have e2:aa (k%5) 2=true:=al.mpr (by omega);have e3:aa (k%5) 3=false:=ay.mpr (by omega);have e4:aa (k%5) 4=false:=ay.mpr (by omega);rw[e2]at hone;cases hone
 . exfalso;have e1:aa (k%5) 1=false:=ay.mpr (by omega);have e2:aa (k%5) 2=false:=ay.mpr (by omega);have e3:aa (k%5) 3=true:=al.mpr (by omega);have e4:aa (k%5) 4=false:=ay.mpr (by omega);rw[e2,e3]at hone;cases hone
 . exfalso;have e1:aa (k%5) 1=false:=ay.mpr (by omega);have e2:aa (k%5) 2=false:=ay.mpr (by omega);have e3:aa (k%5) 3=false:=ay.mpr (by omega);have e4:aa (k%5) 4=true:=al.mpr (by omega);rw[e2,e3,e4]at hone;cases hone
theorem WC{gs:List (Int×Int)}(hin:∀p∈gs,(0<=p.1/\p.1<=255)/\(0<=p.2/\p.2<=255))(hk:0<=k/\k<=255)(hp:0<=p/\p<=255)(ho:0<=op/\op<=255)(h1:ae .u8 f)(h2:ae .u16 n)(h3:ae .u8 z0)(h4:ae .u8 z1)(h5:ae .u8 m)(h6:ae .u8 d)(h7:ae .u8 x)(h8:ae .u8 y)(h9:ae .u8 z)(hfr : -32768<=fr/\fr<=32767)(hma:0<=ma/\ma<=255)(hone:iL k f n z0 z1 m d=false):bt Tryz.prog cfg 5 [.agg [.int .u8 k,.int .u8 p,.int .u8 op,.int .u8 f,.bool ng,.int .u16 n,.int .u8 z0,.int .u8 z1,.int .u8 m,.int .u8 d,.int .u8 x,.int .u8 y,.int .u8 z,.int .i16 fr,.int .u8 ma,.slice 14 0 gs.length K]] [.cells (jI gs) false none] (kH k p op f ng n z0 z1 m d fr ma) []:=by
 have l1:Nat.ble (gA f n z0 z1).length 1000=true:=by rw[aq];have:=@ru f n z0 z1;omega
 have l2:Nat.ble (jY f n z0 z1 m).length 1000=true:=by rw[aq];have:=@rE f n z0 z1 m;omega
 have l3:Nat.ble (nF f n z0 z1 m d).length 1000=true:=by rw[aq];have:=@rX f n z0 z1 m d;omega
 have i1:ae .i16 fr=true:=by rw[aB];exact hfr
 have i2:ae .u8 op=true:=by rw[aB];exact ho
 have i3:ae .u8 ma=true:=by rw[aB];exact hma
 have hw1:∀x∈[aE.cells (jI gs) false none],cR 14 x:=λx hx=>by
  simp only[zAf]at hx;subst hx;exact aO oQ
 have cf:k%5=0\/k%5=1\/k%5=2\/k%5=3\/k%5=4:=by omega
 rcases cf with cf|cf|cf|cf|cf
 . exfalso;have e1:aa (k%5) 1=false:=ay.mpr (by omega);have e2:aa (k%5) 2=false:=ay.mpr (by omega);have e3:aa (k%5) 3=false:=ay.mpr (by omega);have e4:aa (k%5) 4=false:=ay.mpr (by omega);unfold iL fX at hone;rw[e1,e2,e3,e4]at hone;cases hone
 . skip
   have e1:aa (k%5) 1=true:=al.mpr (by omega);have e2:aa (k%5) 2=false:=ay.mpr (by omega);have e3:aa (k%5) 3=false:=ay.mpr (by omega);have e4:aa (k%5) 4=false:=ay.mpr (by omega);have hX:fX k f n z0 z1 m d=true:=by
    unfold iL at hone;rw[e2,e3,e4]at hone;simpa using hone
   have hX':=hX;unfold fX at hX';simp only[zAa]at hX';obtain⟨_,hg,hx⟩:=hX';have g0:kE f n z0 z1=0:=al.mp hg;refine m8 iE hw1 ag (bA 156270063006770206200777006200) (R:=λQ=>(λ(A H I:AV)(C:Int)(E F G:List UInt8)=>(λ(B N O P T:Bool)=>aa (Int.tmod k 5) 1/\ae .u8 f/\ae .u16 n/\ae .u8 z0/\ae .u8 z1/\ae .u8 m/\ae .u8 d/\ae .u8 x/\ae .u8 y/\ae .u8 z/\B/\B/\N/\O/\P/\B/\B/\T/\not (ab C 0)=false/\N/\O/\P/\T/\Q (.agg [.int .u8 2,.nilslice,.bool (su f ng n z0 z1),.bool (sw f),.str E,.int .i64 (kG f z1),.int .i64 C,.str F,.str G,A,A,A,A,H,I,H,I])) (aa C 0) (Nat.ble E.length 1000) (Nat.ble F.length 1000) (Nat.ble G.length 1000) (aa (bI (ba ((E++F)++G))) 1)) (.int .u8 0) (.int .i8 0) (.int .i64 0) (kE f n z0 z1) (gA f n z0 z1) (jY f n z0 z1 m) (nF f n z0 z1 m d)) (λ_=>by kernel_rfl) (hi:=(by simp[kH,aD,bz])) λQ' hQ=>?_;try dsimp only
   unfold kH wd zL fS fE tV tN at hQ;rw[hX]at hQ;simp only[fK,fP,fA,fB,fC,fD,e2,e3,e4,zAj,Bool.true_and,Bool.false_and]at hQ;try dsimp only
   rw[tm (b:=5) hk.1];simp only[h1,h2,h3,h4,h5,h6,h7,h8,h9,l1,l2,l3,i1,i2,i3,Mc,e1,hx];rw[g0];try simp only[az,reduceCtorEq]
   (repeat' first|exact trivial|refine⟨?_,?_⟩|intro)<;>first|contradiction|omega|exact hQ
 . skip
   have e1:aa (k%5) 1=false:=ay.mpr (by omega);have e2:aa (k%5) 2=true:=al.mpr (by omega);have e3:aa (k%5) 3=false:=ay.mpr (by omega);have e4:aa (k%5) 4=false:=ay.mpr (by omega);have hX:fX k f n z0 z1 m d=false:=by unfold fX;rw[e1];rfl
   have tp:Int.tmod p 3=p%3:=tm hp.1;have tpo:Int.tmod op 4=op%4:=tm ho.1;have a1:Int.add 1 (p%3)=1+p%3:=rfl;have a2:Int.add fr ma=fr+ma:=rfl;have b1:1<=1+p%3/\1+p%3<=3:=by omega
   refine m8 iE hw1 ag (bA 16610664001663000455270702002702202002300) (R:=λQ=>(λ(A B C F H I:AV)(P:Bool)(E G O T:Int)=>(λ(N W Y:AV)(U:Bool)(V:Prop)=>(λ(Z:Prop->Prop)=>aa O 1=false/\aa O 2/\ae .u8 E/\P/\U/\ab (Neg.neg 40000) fr/\ab fr 40000/\Z (P/\ae .i64 ma/\ae .i64 G/\U/\ab (Neg.neg 40000) G/\ab G 40000/\Z ((aa T 1->V/\Q (.agg [I,.nilslice,F,F,A,C,C,A,A,B,B,B,N,.int .i8 (Neg.neg 1),C,H,W]))/\(aa T 1=false->(aa T 2->Q (.agg [I,.nilslice,F,F,A,C,C,A,A,B,B,B,N,H,Y,.int .i8 1,C]))/\(V->Q (.agg [I,.nilslice,F,F,A,C,C,A,A,B,B,B,N,H,Y,H,W])))))) (λu0=>ab 1 E/\ab E 3/\u0)) (.int .u8 E) (.int .i64 (BM G E)) (.int .i64 (BN fr E)) (ae .i64 E) (aa T 2=false)) (.str []) (.int .u8 0) (.int .i64 0) (.bool false) (.int .i8 0) (.int .u8 3) (ae .i64 fr) (Int.add 1 (Int.tmod p 3)) (Int.add fr ma) (Int.tmod k 5) (Int.tmod op 4)) (λ_=>by kernel_rfl) (hi:=(by simp[kH,aD,bz])) λQ' hQ=>?_;try dsimp only
   unfold kH wd zL fS fE tV tN at hQ;rw[hX]at hQ;simp only[fK,fP,fA,fB,fC,fD,e2,e3,e4,zAj,Bool.true_and,Bool.false_and]at hQ;try dsimp only
   rw[tm (b:=5) hk.1];simp only[h1,h2,h3,h4,h5,h6,h7,h8,h9,l1,l2,l3,i1,i2,i3,Mc,tp,tpo,a1,a2,e1,e2];generalize 1+p%3=P at *;cases o1:aa (op%4) 1<;>cases o2:aa (op%4) 2<;>simp only[o1,o2,zAj]at hQ ⊢;all_goals
    simp only[az,reduceCtorEq]at o1 o2 ⊢
    (repeat' first|exact trivial|refine⟨?_,?_⟩|intro)<;>first|contradiction|omega|exact hQ
 . skip
   have e1:aa (k%5) 1=false:=ay.mpr (by omega);have e2:aa (k%5) 2=false:=ay.mpr (by omega);have e3:aa (k%5) 3=true:=al.mpr (by omega);have e4:aa (k%5) 4=false:=ay.mpr (by omega);have hX:fX k f n z0 z1 m d=false:=by unfold fX;rw[e1];rfl
   refine m8 iE hw1 ag (bA 102023300) (R:=λQ=>(λ(A C E F:AV)(B:Int)=>aa B 1=false/\aa B 2=false/\aa B 3/\ae .i64 fr/\Q (.agg [.int .u8 4,.nilslice,F,F,C,E,E,C,C,A,A,A,A,.int .i8 (Neg.neg 1),E,.int .i8 0,.int .i64 fr])) (.int .u8 0) (.str []) (.int .i64 0) (.bool false) (Int.tmod k 5)) (λ_=>by kernel_rfl) (hi:=(by simp[kH,aD,bz])) λQ' hQ=>?_;try dsimp only
   unfold kH wd zL fS fE tV tN at hQ;rw[hX]at hQ;simp only[fK,fP,fA,fB,fC,fD,e2,e3,e4,zAj,Bool.true_and,Bool.false_and]at hQ;try dsimp only
   rw[tm (b:=5) hk.1];simp only[h1,h2,h3,h4,h5,h6,h7,h8,h9,l1,l2,l3,i1,i2,i3,Mc,e1,e2,e3];try simp only[az,reduceCtorEq]
   (repeat' first|exact trivial|refine⟨?_,?_⟩|intro)<;>first|contradiction|omega|exact hQ
 . skip
   have e1:aa (k%5) 1=false:=ay.mpr (by omega);have e2:aa (k%5) 2=false:=ay.mpr (by omega);have e3:aa (k%5) 3=false:=ay.mpr (by omega);have e4:aa (k%5) 4=true:=al.mpr (by omega);have hX:fX k f n z0 z1 m d=false:=by unfold fX;rw[e1];rfl
   refine m8 iE hw1 ag (bA 10202800) (R:=λQ=>(λ(B C E F:AV)(A:Int)=>aa A 1=false/\aa A 2=false/\aa A 3=false/\aa A 4/\ae .i64 fr/\Q (.agg [.int .u8 5,.nilslice,F,F,C,E,E,C,C,B,B,B,B,.int .i8 0,.int .i64 fr,.int .i8 1,E])) (.int .u8 0) (.str []) (.int .i64 0) (.bool false) (Int.tmod k 5)) (λ_=>by kernel_rfl) (hi:=(by simp[kH,aD,bz])) λQ' hQ=>?_;try dsimp only
   unfold kH wd zL fS fE tV tN at hQ;rw[hX]at hQ;simp only[fK,fP,fA,fB,fC,fD,e2,e3,e4,zAj,Bool.true_and,Bool.false_and]at hQ;try dsimp only
   rw[tm (b:=5) hk.1];simp only[h1,h2,h3,h4,h5,h6,h7,h8,h9,l1,l2,l3,i1,i2,i3,Mc,e1,e2,e3,e4];try simp only[az,reduceCtorEq]
   (repeat' first|exact trivial|refine⟨?_,?_⟩|intro)<;>first|contradiction|omega|exact hQ
end Go.Ev
