import Derived.Test.YtoghlpcacfnjbaaGreatDoorP36
set_option linter.all false
set_option maxRecDepth 100000
set_option maxHeartbeats 4000000
namespace Go.Ev
open Go Go.Proofs
variable{S:aQ}{ng lg:Bool}{e cy cm cd:Int}{mo da:List UInt8}
theorem Ph{gs:List (Int×Int)}(h:∀p∈gs,(0<=p.1/\p.1<=255)/\(0<=p.2/\p.2<=255)):b_ (js gs) 0 (gs.length*2)=js gs/\qk (js gs)=gs/\vv (js gs)/\Nat.ble (0+gs.length*2) (js gs).length/\bc 14 (js gs)/\Nat.beq gs.length gs.length=true:=
 ⟨wN,sh,sC h,by rw[al,nv];omega,je,gm rfl⟩
theorem P3{q:FP}(h:q.ok):af .u8 q.k/\af .u8 q.p/\af .u8 q.op/\af .u8 q.f/\af .u16 q.n/\af .u8 q.z0/\af .u8 q.z1/\af .u8 q.m/\af .u8 q.d/\af .u8 q.x/\af .u8 q.y/\af .u8 q.z/\af .i16 q.fr/\af .u8 q.ma=true:=by
 simp only[aE,eH,eE];exact h
theorem Pi{k p op f:Int}{ng:Bool}{n z0 z1 m d fr ma:Int}(hz0:0<=z0/\z0<=255)(hz1:0<=z1/\z1<=255)(hk:0<=k/\k<=255)(hfr : -32768<=fr/\fr<=32767)(hma:0<=ma/\ma<=255)(h:iB k f n z0 z1 m d=false) :
 aa (dr (fK k f n z0 z1 m d) 0 0 (dZ (wm k f ng n z0 z1 m d) (zQ k f n z0 z1 m d) (fS k f n z0 z1 m d) (fE k f n z0 z1 m d) 0 (wt k f n z0 z1 m d) (wq k f n z0 z1 m d) 0 0 0) (fP k p) (sZ (fA k op) (fB k p op fr) (fC k op) (fD k p op fr ma)) (bW (wm k f ng n z0 z1 m d) (zQ k f n z0 z1 m d) (fS k f n z0 z1 m d) (fE k f n z0 z1 m d) 0 (wt k f n z0 z1 m d) (wq k f n z0 z1 m d) 0 0 0) 0 (bo (fS k f n z0 z1 m d++wt k f n z0 z1 m d++wq k f n z0 z1 m d)) (mZ 0 0 0) (dN (fA k op) (fB k p op fr) (fC k op) (fD k p op fr ma) (fP k p)) (bA (fA k op) (fB k p op fr) (fC k op) (fD k p op fr ma)) (fA k op) (fC k op)) 0/\
 af .i64 (fE k f n z0 z1 m d)/\af .u8 (fP k p)/\af .i8 (fA k op)/\af .i64 (fB k p op fr)/\af .i8 (fC k op)/\af .i64 (fD k p op fr ma)/\Nat.ble (fS k f n z0 z1 m d).length 1000/\Nat.ble (wt k f n z0 z1 m d).length 1000/\Nat.ble (wq k f n z0 z1 m d).length 1000=true:=by
 obtain⟨h1,⟨_,h2,h3,h4,h5,h6,h7⟩,l1,l2,l3⟩:=BG (p:=p) (op:=op) (ng:=ng) hz0 hz1 hk hfr hma h;simp only[aE,eH,eE,al];exact⟨ao.mpr h1,h2,h3,h4,h5,h6,h7,by omega,by omega,by omega⟩
theorem UD(hS:ak Tryz.prog cfg S):ak Tryz.prog cfg (eQ S 5 (fl 14 [2] Z3)):=by
 refine bm hS (fW dI.lv Az λargs ws t r he hr=>?_);unfold Z3 at he;split at he
 . rename_i k p op f ng n z0 z1 m d x y z fr ma;cases he;replace hr:=aF hr;obtain⟨⟨h1,h2,h3,h4,h5,h6,h7,h8,h9,h10,h11,h12,h13,h14,-⟩,hr⟩:=hr;rw[aE]at h1 h2 h3 h13 h14;simp only[eH,eE]at h1 h2 h3 h13 h14;have hr:(bif iB k f n z0 z1 m d then Tr.a0 (zC 14 (nK (eT fr ma (aa (op%4) 1) (aa (op%4) 2) [])) (.b 1),[aD.a (bh (eT fr ma (aa (op%4) 1) (aa (op%4) 2) [])) true none])else .a0 (kW k p op f ng n z0 z1 m d fr ma,[])).b0=some r:=hr;cases ho:iB k f n z0 z1 m d with
   | true=>
     rw[ho]at hr;cases hr;exact⟨Us (k:=k) (p:=p) (op:=op) (f:=f) (ng:=ng) (n:=n) (z0:=z0) (z1:=z1) (m:=m) (d:=d) (x:=x) (y:=y) (z:=z) (fr:=fr) (ma:=ma) h1 h2 h3 h4 h5 h6 h7 h8 h9 h10 h11 h12 h13 h14 ho,λx hx=>by simp only[zAe]at hx;subst hx;exact gf⟩
   | false=>
     rw[ho]at hr;cases hr;exact⟨VE (k:=k) (p:=p) (op:=op) (f:=f) (ng:=ng) (n:=n) (z0:=z0) (z1:=z1) (m:=m) (d:=d) (x:=x) (y:=y) (z:=z) (fr:=fr) (ma:=ma) h1 h2 h3 h4 h5 h6 h7 h8 h9 h10 h11 h12 h13 h14 ho,λx hx=>by cases hx⟩
 . rename_i k p op f ng n z0 z1 m d x y z fr ma l K w;cases he;replace hr:=aF hr;obtain⟨⟨h1,h2,h3,h4,h5,h6,h7,h8,h9,h10,h11,h12,h13,h14,h15,h16,-⟩,hr⟩:=hr;rw[aE]at h1 h2 h3 h13 h14;simp only[eH,eE]at h1 h2 h3 h13 h14;rw[aJ]at h16;subst h16;obtain⟨e,hin⟩:=x8 h15;have hr:(bif iB k f n z0 z1 m d then Tr.a0 (zC 15 (nK (eT fr ma (aa (op%4) 1) (aa (op%4) 2) (qk w))) (DS (qk w)),[aD.a (bh (eT fr ma (aa (op%4) 1) (aa (op%4) 2) (qk w))) true (CP (qk w))])else .a0 (kW k p op f ng n z0 z1 m d fr ma,[])).b0=some r:=hr;cases ho:iB k f n z0 z1 m d with
   | true=>
     rw[ho]at hr;cases hr;have key:=Vz (k:=k) (p:=p) (op:=op) (f:=f) (ng:=ng) (n:=n) (z0:=z0) (z1:=z1) (m:=m) (d:=d) (x:=x) (y:=y) (z:=z) (fr:=fr) (ma:=ma) (gs:=qk w) (K:=K) hin h1 h2 h3 h4 h5 h6 h7 h8 h9 h10 h11 h12 h13 h14 ho;rw[<-e]at key;exact⟨key,λx hx=>by simp only[zAe]at hx;subst hx;exact gf⟩
   | false=>
     rw[ho]at hr;cases hr;have key:=Uq (k:=k) (p:=p) (op:=op) (f:=f) (ng:=ng) (n:=n) (z0:=z0) (z1:=z1) (m:=m) (d:=d) (x:=x) (y:=y) (z:=z) (fr:=fr) (ma:=ma) (gs:=qk w) (K:=K) hin h1 h2 h3 h4 h5 h6 h7 h8 h9 h10 h11 h12 h13 h14 ho;rw[<-e]at key;exact⟨key,λx hx=>by cases hx⟩
 . cases he
noncomputable def W1:aQ:=bb V3 47 TL
theorem F9:ak Tryz.prog cfg W1:=G9 G0
def cA(mo:List UInt8):List Int:=bif ae mo []then[0]else bif aa (aR mo) 0 then Co mo 12 else[aR mo]
def dF(da:List UInt8):List Int:=bif ae da []then[0]else Co da 31
def Ac(ng:Bool)(s:List UInt8)(e:Int)(mo da:List UInt8)(cy cm cd:Int):Option (Int×Int×Int):=cJ ng s e cy cm cd mo da (cA mo) (dF da) (yV ng s e cy true) (yB ng s e cy true)
def jU(ng:Bool)(s:List UInt8)(e:Int)(mo da:List UInt8)(cy cm cd:Int):Bool:=mJ (Ac ng s e mo da cy cm cd)&&(aa (p1 (Ac ng s e mo da cy cm cd)) cy&&((ae mo [] || aa (p2 (Ac ng s e mo da cy cm cd)) cm)&&(ae da [] || aa (p3 (Ac ng s e mo da cy cm cd)) cd)))
def RD:dP:=λargs=>match args with
 | [.h [.b ng,.b lg,.d s,.a .i64 e,.a .i64 g,.d mo,.d da,.a .u8 a,.a .u8 b,.a .u8 c],.h [.a .i64 cy,.a .i64 cm,.a .i64 cd]]=>some (aH [Nat.ble s.length 1000,Nat.ble mo.length 1000,Nat.ble da.length 1000,af .i64 e,aa g 0,af .u8 a,af .u8 b,af .u8 c,af .i64 cy,aa (bW ng lg s e g mo da a b c) 0] (.a0 (.b (jU ng s e mo da cy cm cd))))
 | _=>none
theorem gq{s:List UInt8}{g:Int}{a b c:Int}(h:bW ng lg s e g mo da a b c=0):nH ng lg s e g mo da a b c=0:=by
 unfold bW at h;cases hE:aa (nH ng lg s e g mo da a b c) 0 with
 | true=>exact ao.mp hE
 | false=>rw[hE,cond_false]at h;exact h
theorem Aw{l:List UInt8}(h:ae l []):l=[]:=by rw[bV,beq_iff_eq]at h;exact h
theorem s7{L:List Int}(h:L≠[]):gU L=false:=by unfold gU;cases L with|nil=>exact absurd rfl h|cons x xs=>rfl
theorem W7{s:List UInt8}{a b c:Int}(hs:s.length<=1000)(hmo:mo.length<=1000)(he : -9223372036854775808<=e/\e<=9223372036854775807)(ha:0<=a/\a<=255)(hb:0<=b/\b<=255)(hc:0<=c/\c<=255)(hcy : -9223372036854775808<=cy/\cy<=9223372036854775807)(hE:bW ng lg s e 0 mo da a b c=0) :
 bu Tryz.prog cfg 135 [.h [.b ng,.b lg,.d s,.a .i64 e,.a .i64 0,.d mo,.d da,.a .u8 a,.a .u8 b,.a .u8 c],.h [.a .i64 cy,.a .i64 cm,.a .i64 cd]] [] (.b (jU ng s e mo da cy cm cd)) []:=by
 obtain⟨ho,hx,_,h4,h5⟩:=dC (gq hE) dE;have hE':=ao.mpr hE;unfold jU Ac;have i1:Nat.ble s.length 1000=true:=al.mpr hs;have i2:af .i64 e=true:=by rw[aE];exact he
 have i3:af .u8 a=true:=by rw[aE];exact ha
 have i4:af .u8 b=true:=by rw[aE];exact hb
 have i5:af .u8 c=true:=by rw[aE];exact hc
 have i6:af .i64 cy=true:=by rw[aE];exact hcy
 cases hd:ae da []with
 | true=>
   obtain rfl:=Aw hd;cases hm:ae mo []with
   | true=>
     obtain rfl:=Aw hm;refine nF F9 ai (bE 15663381006330581562020522024220220245527006667020025566637020020005666) (R:=λQ=>(λ(F:Bool)(G:List Int)(H:Prop)=>(λ(I:Option (Int×Int×Int))=>(λ(A B:Bool)=>(λ(C E:Prop)=>(λ(N:Prop->Prop)=>N (not (aa (bW ng lg s e 0 [] [] a b c) 0)=false/\N (af .i64 cy/\aV ng lg s e 0/\F/\lP s/\(A->A/\A/\A/\A/\A/\(B->B/\B/\B/\B/\B/\Q (.b true))/\(C->C/\C/\C/\C/\C/\H))/\(E->E/\E/\E/\E/\E/\H)))) (λu0=>F/\af .i64 e/\af .u8 a/\af .u8 b/\af .u8 c/\u0)) (B=false) (A=false)) (mJ I) (aa (p1 I) cy)) (cJ ng s e cy cm cd [] [] G G (yV ng s e cy true) (yB ng s e cy true))) (Nat.ble s.length 1000) (d7 [.a .i64 0]) (Q (.b false))) (λ_=>by kernel_rfl) λQ' hQ=>?_;try dsimp only
     have u1:cA []=[0]:=rfl;have u2:dF []=[0]:=rfl;have u3:d7 [AV.a .i64 0]=[0]:=rfl;rw[u1,u2]at hQ;rw[u3,ho,hx,hE'];generalize cJ ng s e cy cm cd [] [] [0] [0] (yV ng s e cy true) (yB ng s e cy true)=r at *;clear hE hE';cases k1:mJ r<;>cases k2:aa (p1 r) cy<;>simp only[i1,i2,i3,i4,i5,i6,k1,k2,Bool.and_false,Bool.false_and,Bool.true_or,Bool.false_or,zAi,zAj,reduceCtorEq,zAh]at hQ ⊢<;>exact hQ
   | false=>
     cases hse:aa (aR mo) 0 with
     | false=>
       refine nF F9 ai (bE 156633810063305813305812020522024232202202702422022024552766627020225566637020220005666) (R:=λQ=>(λ(I P T:Bool)(N:Option (Int×Int×Int))(O:Prop)=>(λ(A B C H:Bool)=>(λ(E F G:Prop)=>(λ(V:Prop->Prop->Prop)=>(λ(U:Prop->Prop)=>U (not (aa (bW ng lg s e 0 mo [] a b c) 0)=false/\U (not (aa (aR mo) 0)/\af .i64 cy/\aV ng lg s e 0/\I/\lP s/\(A->V A ((B->B/\B/\B/\V H (B/\T=false/\B/\(C->V C (Q (.b true)))/\(E->V E O)))/\(F->V F O)))/\(G->V G O)))) (λu0=>I/\P/\af .i64 e/\af .u8 a/\af .u8 b/\af .u8 c/\u0)) (λu0 u1=>u0/\u0/\u0/\u0/\u0/\u1)) (C=false) (B=false) (A=false)) (mJ N) (aa (p1 N) cy) (aa (p2 N) cm) (not T)) (Nat.ble s.length 1000) (Nat.ble mo.length 1000) (ae mo []) (cJ ng s e cy cm cd mo [] (d7 [.a .i64 (aR mo)]) (d7 [.a .i64 0]) (yV ng s e cy true) (yB ng s e cy true)) (Q (.b false))) (λ_=>by kernel_rfl) λQ' hQ=>?_;try dsimp only
       have u1:cA mo=[aR mo]:=by unfold cA;rw[hm,hse];rfl
       have u2:dF []=[0]:=rfl;have u3:∀x,d7 [AV.a .i64 x]=[x]:=λx=>rfl;have u4:∀x,jY [] [x]=true:=λx=>rfl;rw[u1,u2]at hQ;simp only[u3,u4];rw[ho,hx,hE',hse,hm];have j1:Nat.ble mo.length 1000=true:=al.mpr hmo;generalize aR mo=sx at *;generalize cJ ng s e cy cm cd mo [] [sx] [0] (yV ng s e cy true) (yB ng s e cy true)=r at *;clear hE hE';cases k1:mJ r<;>cases k2:aa (p1 r) cy<;>cases k3:aa (p2 r) cm<;>simp only[i1,i2,i3,i4,i5,i6,j1,k1,k2,k3,Bool.and_false,Bool.false_and,Bool.true_or,Bool.false_or,zAi,zAj,reduceCtorEq,zAh]at hQ ⊢<;>exact hQ
     | true=>
       obtain⟨m0,m1,rfl,h0,h1,k0⟩:=oi (by decide) (h4 ⟨hm,ao.mp hse⟩);refine nF F9 ai (bE 1566338100633058133058120205220242020005220242202202455227020202206630022537020025566637020020005666) (R:=λQ=>(λ(I:Bool)(O:List Int)(N:List UInt8)(P:Prop)=>(λ(T:Nat)=>(λ(V:Nat)=>(λ(H:List AV)=>(λ(U:Option (Int×Int×Int))=>(λ(A B C:Bool)=>(λ(E F G:Prop)=>(λ(Y:Prop->Prop->Prop)=>(λ(W:Prop->Prop)=>W (not (aa (bW ng lg s e 0 N [] a b c) 0)=false/\W (not (aa (aR N) 0)=false/\cr m0/\cr m1/\gU O=false/\and (and true (and (Nat.ble (HAdd.hAdd 0 V) (List.length (aI O))) (bc 14 H))) true/\List.all H (bC .i64)/\Nat.beq H.length T/\Nat.ble T 1000/\jY [] (d7 H)/\af .i64 cy/\aV ng lg s e 0/\I/\lP s/\(A->Y A ((B->Y B ((C->Y C (Q (.b true)))/\(E->Y E P)))/\(F->Y F P)))/\(G->Y G P)))) (λu0=>I/\af .i64 e/\af .u8 a/\af .u8 b/\af .u8 c/\u0)) (λu0 u1=>u0/\u0/\u0/\u0/\u0/\u1)) (C=false) (B=false) (A=false)) (mJ U) (aa (p1 U) cy) (aa (p2 U) cm)) (cJ ng s e cy cm cd N [] (d7 H) (d7 [.a .i64 0]) (yV ng s e cy true) (yB ng s e cy true))) (b_ (aI O) 0 V)) (HMul.hMul T 1)) (dG O)) (Nat.ble s.length 1000) (ay m0 m1 12) [m0,m1] (Q (.b false))) (λ_=>by kernel_rfl) λQ' hQ=>?_;try dsimp only
       have u1:cA [m0,m1]=ay m0 m1 12:=by unfold cA;rw[hm,hse];rfl
       have u2:dF []=[0]:=rfl;have u3:d7 [AV.a .i64 0]=[0]:=rfl;have l1:dG (ay m0 m1 12)=(ay m0 m1 12).length:=rfl;have z1:=eV m0 m1 12;have aM:jY [] (ay m0 m1 12)=true:=pk;have aX:∀M:List Int,Nat.ble (0+M.length*1) M.length=true:=λM=>by simp
       rw[u1,u2]at hQ;simp only[l1,u3,@qz,oL,ow,cY,cz,aM,aX,Bool.and_true,Bool.true_and];rw[ho,hx,hE',hse];have n1:=s7 k0;have y1:Nat.ble (ay m0 m1 12).length 1000=true:=al.mpr (by omega);have w1:Nat.beq (ay m0 m1 12).length (ay m0 m1 12).length=true:=aJ.mpr rfl;generalize ay m0 m1 12=M at *;generalize cJ ng s e cy cm cd [m0,m1] [] M [0] (yV ng s e cy true) (yB ng s e cy true)=r at *;clear hE hE';cases k1:mJ r<;>cases k2:aa (p1 r) cy<;>cases k3:aa (p2 r) cm<;>simp only[i1,i2,i3,i4,i5,i6,h0,h1,n1,y1,w1,k1,k2,k3,Bool.and_false,Bool.false_and,Bool.true_or,Bool.false_or,zAi,zAj,reduceCtorEq,zAh]at hQ ⊢<;>exact hQ
 | false=>
   obtain⟨m0,m1,d0,d1,rfl,rfl,h0,h1,h2,h3,k0,k1,hse,_⟩:=kq (gq hE) hd;have hse:=ao.mpr hse;refine nF F9 ai (bE 1566338100633058133058120200052202420200052202422022024557777556300220530022537020025566637020020005666) (R:=λQ=>(λ(O:Bool)(U V:List Int)(P T:List UInt8)(W:Prop)=>(λ(Y Z:Nat)=>(λ(u0 u1:Nat)=>(λ(H I:List AV)=>(λ(N:Option (Int×Int×Int))=>(λ(A B C:Bool)=>(λ(E F G:Prop)=>(λ(u3:Prop->Prop->Prop)=>(λ(u2:Prop->Prop)=>u2 (not (aa (bW ng lg s e 0 P T a b c) 0)=false/\u2 (not (aa (aR P) 0)=false/\cr m0/\cr m1/\gU U=false/\cr d0/\cr d1/\gU V=false/\and (and true (and (Nat.ble (HAdd.hAdd 0 u0) (List.length (aI U))) (bc 14 H))) (and (Nat.ble (HAdd.hAdd 0 u1) (List.length (aI V))) (bc 14 I))/\List.all H (bC .i64)/\List.all I (bC .i64)/\Nat.beq H.length Y/\Nat.beq I.length Z/\Nat.ble Y 1000/\Nat.ble Z 1000/\jY T (d7 H)/\af .i64 cy/\aV ng lg s e 0/\O/\lP s/\(A->u3 A ((B->u3 B ((C->u3 C (Q (.b (aa (p3 N) cd))))/\(E->u3 E W)))/\(F->u3 F W)))/\(G->u3 G W)))) (λu4=>O/\af .i64 e/\af .u8 a/\af .u8 b/\af .u8 c/\u4)) (λu4 u5=>u4/\u4/\u4/\u4/\u4/\u5)) (C=false) (B=false) (A=false)) (mJ N) (aa (p1 N) cy) (aa (p2 N) cm)) (cJ ng s e cy cm cd P T (d7 H) (d7 I) (yV ng s e cy true) (yB ng s e cy true))) (b_ (aI U) 0 u0) (b_ (aI V) 0 u1)) (HMul.hMul Y 1) (HMul.hMul Z 1)) (dG U) (dG V)) (Nat.ble s.length 1000) (ay m0 m1 12) (ay d0 d1 31) [m0,m1] [d0,d1] (Q (.b false))) (λ_=>by kernel_rfl) λQ' hQ=>?_;try dsimp only
   have u1:cA [m0,m1]=ay m0 m1 12:=by unfold cA;rw[hse];rfl
   have u2:dF [d0,d1]=ay d0 d1 31:=rfl;have u3:ae [m0,m1] []=false:=rfl;have l1:dG (ay m0 m1 12)=(ay m0 m1 12).length:=rfl;have l2:dG (ay d0 d1 31)=(ay d0 d1 31).length:=rfl;have z1:=eV m0 m1 12;have z2:=eV d0 d1 31;have aM:jY [d0,d1] (ay m0 m1 12)=true:=pk;have aX:∀M:List Int,Nat.ble (0+M.length*1) M.length=true:=λM=>by simp
   rw[u1,u2,u3]at hQ;simp only[l1,l2,@qz,oL,ow,cY,cz,aM,aX,Bool.and_true,Bool.true_and];rw[ho,hx,hE',hse];have n1:=s7 k0;have n2:=s7 k1;have y1:Nat.ble (ay m0 m1 12).length 1000=true:=al.mpr (by omega);have w1:Nat.beq (ay m0 m1 12).length (ay m0 m1 12).length=true:=aJ.mpr rfl;have y2:Nat.ble (ay d0 d1 31).length 1000=true:=al.mpr (by omega);have w2:Nat.beq (ay d0 d1 31).length (ay d0 d1 31).length=true:=aJ.mpr rfl;generalize ay m0 m1 12=M at *;generalize ay d0 d1 31=D at *;generalize cJ ng s e cy cm cd [m0,m1] [d0,d1] M D (yV ng s e cy true) (yB ng s e cy true)=r at *;clear hE hE';cases k1:mJ r<;>cases k2:aa (p1 r) cy<;>cases k3:aa (p2 r) cm<;>cases k4:aa (p3 r) cd<;>simp only[i1,i2,i3,i4,i5,i6,h0,h1,h2,h3,n1,n2,y1,y2,w1,w2,k1,k2,k3,k4,Bool.and_false,Bool.false_and,Bool.true_or,Bool.false_or,zAi,zAj,reduceCtorEq,zAh]at hQ ⊢<;>exact hQ
theorem QC(hS:ak Tryz.prog cfg S):ak Tryz.prog cfg (bb S 135 RD):=au hS λargs t v he hv=>by
 unfold RD at he;split at he
 . cases he;replace hv:=aF hv;obtain⟨⟨h1,h2,h3,h4,h5,h6,h7,h8,h9,h10,-⟩,hv⟩:=hv;rw[al]at h1 h2;rw[ao]at h5 h10;rw[aE]at h4 h6 h7 h8 h9;simp only[eH,eE]at h4 h6 h7 h8 h9;subst h5;cases hv;exact W7 h1 h2 h4 h6 h7 h8 h9 h10
 . cases he
def zS(l:List Int):Prop:=l.Pairwise (· < ·)
theorem BM{c0 c1:UInt8}:∀{g:Nat},zS (ay c0 c1 g)
 | 0=>List.Pairwise.nil
 | g+1=>by
   rw[iV];cases h:agr [c0,c1] ((g:Int)+1)with
   | false=>rw[cond_false,List.append_nil];exact BM
   | true=>
     rw[cond_true];unfold zS;rw[List.pairwise_append];refine⟨BM,List.pairwise_singleton _ _,λa ha b hb=>?_⟩;rw[zAe]at hb;have:=(iG.1 ha).1;omega
theorem EY{s:List UInt8}{g:Nat}:zS (Co s g):=by
 unfold Co;split
 . exact BM
 . exact List.Pairwise.nil
theorem wR{mo:List UInt8}:zS (cA mo):=by
 unfold cA;cases ae mo []with
 | true=>exact List.pairwise_singleton _ _
 | false=>
   cases aa (aR mo) 0 with
   | true=>exact EY
   | false=>exact List.pairwise_singleton _ _
theorem B_:zS (dF da):=by
 unfold dF;cases ae da []with
 | true=>exact List.pairwise_singleton _ _
 | false=>exact EY
theorem kD{p:Int->Bool}:∀{l:List Int} {x y:Int},zS l->l.find? p=some x->y∈l->p y->x<=y
 | [],_,_,_,h,_,_=>by cases h
 | a::l,x,y,hs,h,hy,hp=>by
   rw[List.find?_cons]at h;unfold zS at hs;rw[List.pairwise_cons]at hs;cases ha:p a with
   | true=>
     rw[ha]at h;cases h;rcases List.mem_cons.1 hy with rfl|hy
     . exact Int.le_refl _
     . exact Int.le_of_lt (hs.1 _ hy)
   | false=>
     rw[ha]at h;rcases List.mem_cons.1 hy with rfl|hy
     . rw[ha]at hp;cases hp
     . exact kD hs.2 h hy hp
def f_(ng:Bool)(s:List UInt8)(e:Int)(mo da:List UInt8)(y m d:Int):Prop:=mK ng s e y/\m∈cA mo/\d∈dF da/\d<=kN y m da
theorem yj{ng lg:Bool}{s:List UInt8}{e g cy cm cd:Int}{mo da:List UInt8}{M D:List Int}(ho:aV ng lg s e g):∀(t:Nat) (y:Int) (ok:Bool),MZ y ok<=t->y<=10000000000000000->mJ (cJ ng s e cy cm cd mo da M D y ok)->y<=p1 (cJ ng s e cy cm cd mo da M D y ok)
 | t,y,false,_,_,h=>by rw[ii]at h;cases h
 | t,y,true,ht,hy,h=>by
   cases hf:ff y cy cm cd mo da M D with
   | some m=>rw[kK hf];exact Int.le_refl _
   | none=>
     rw[kx ho hy hf]at h ⊢;have hm:=mC (ng:=ng) (s:=s) (e:=e) hy;cases hb:yB ng s e (y+1) true with
     | false=>rw[hb,ii]at h;cases h
     | true=>
       rw[hb]at h hm;have:=(yE hb).2.1
       match t,ht with
       | 0,ht=>omega
       | t+1,ht=>
         have:=yj ho t _ true (by omega) (iP (n:=y+1) (up:=true) ho).2 h;omega
theorem ba{l:List UInt8}:ae l []=true↔l=[]:=by rw[bV,beq_iff_eq]
theorem Be{s:List UInt8}(ho:aV ng lg s e 0)(hx:lP s):jU ng s e mo da cy cm cd=true↔∃m d,f_ ng s e mo da cy m d/\(mo=[]\/m=cm)/\(da=[]\/d=cd):=by
 unfold jU Ac;simp only[zAa,Bool.or_eq_true,ao,ba];cases hb:yB ng s e cy true with
 | false=>
   rw[ii];refine⟨λh=>(by cases h.1),λ⟨m,d,h,_⟩=>?_⟩;have:=Jj hx hb h.1;omega
 | true=>
   obtain⟨q1,q2,q3⟩:=yE hb;have bd:=iP (n:=cy) (up:=true) ho;by_cases hy:yV ng s e cy true=cy
   . rw[hy]at q1 bd ⊢;have pick:∀m d,f_ ng s e mo da cy m d->(mo=[]\/m=cm)->(da=[]\/d=cd)->gR (mU da) (Ps cy cy cm mo m) (kN cy m da) cd d/\n8 cy cy cm cd mo da (dF da) m=true:=λm d hF h1 h2=>by
      have hp:gR (mU da) (Ps cy cy cm mo m) (kN cy m da) cd d=true:=by
       unfold gR mU;rw[aq.mpr hF.2.2.2,Bool.true_and];rcases h2 with rfl|rfl
       . cases Ps cy cy cm mo m<;>rfl
       . rw[aq.mpr (Int.le_refl d)];simp
      refine⟨hp,?_⟩;unfold n8 k_;have hc:(aa cy cy&&(!(ae mo [])&&!(ab cm m)))=false:=by
       rcases h1 with rfl|rfl
       . simp[ba.2]
       . rw[aq.mpr (Int.le_refl m)];simp
      rw[hc,cond_false];unfold gk;exact kJ.2 ⟨d,hF.2.2.1,hp⟩
     cases hf:ff cy cy cm cd mo da (cA mo) (dF da)with
     | none=>
       constructor
       . intro h;exfalso;rw[kx ho bd.2 hf]at h;cases hb2:yB ng s e (cy+1) true with
         | false=>rw[hb2,ii]at h;cases h.1
         | true=>
           rw[hb2]at h;have:=yj ho _ _ true (Nat.le_refl _) (iP (n:=cy+1) (up:=true) ho).2 h.1;have:=(yE hb2).2.1;omega
       . rintro⟨m,d,hF,h1,h2⟩;unfold ff at hf;have:=List.find?_eq_none.1 hf m hF.2.1;exact absurd (pick m d hF h1 h2).2 this
     | some m=>
       rw[kK hf];unfold ff at hf;have hm:=List.mem_of_find?_eq_some hf;have hp:n8 cy cy cm cd mo da (dF da) m=true:=List.find?_some hf;unfold n8 at hp;cases hd:k_ cy cy cm cd mo da (dF da) m with
       | none=>rw[hd]at hp;cases hp
       | some d=>
         simp only[mJ,p1,p2,p3,cp,Option.isSome_some,Option.getD_some,true_and];unfold k_ at hd;cases hc:(aa cy cy&&(!(ae mo [])&&!(ab cm m)))with
         | true=>rw[hc]at hd;cases hd
         | false=>
           rw[hc,cond_false]at hd;unfold gk at hd;have hdm:=List.mem_of_find?_eq_some hd;have hdp:=List.find?_some hd;have hle:d<=kN cy m da:=by
            unfold gR at hdp;rw[zAa,aq]at hdp;exact hdp.1
           constructor
           . rintro⟨h1,h2⟩;exact⟨m,d,⟨q1,hm,hdm,hle⟩,h1,h2⟩
           . rintro⟨m0,d0,hF,h1,h2⟩;obtain⟨pk1,pk2⟩:=pick m0 d0 hF h1 h2;have hmm:m<=m0:=kD wR hf hF.2.1 pk2;have hcm:mo=[]\/cm<=m:=by
              by_cases h0:mo=[]
              . exact .inl h0
              . right
                have hb0:ae mo []=false:=by rw[<-Bool.not_eq_true,ba];exact h0
                rw[ao.mpr rfl,hb0]at hc;simp only[Bool.true_and,Bool.not_false,Bool.not_eq_false']at hc;exact aq.mp hc
             have hme:m=m0:=by
              rcases hcm with h0|h0
              . subst h0;have a:m=0:=by simpa [cA,ba.2]using hm
                have b:m0=0:=by simpa [cA,ba.2]using hF.2.1
                omega
              . rcases h1 with h1|h1
                . subst h1;have a:m=0:=by simpa [cA,ba.2]using hm
                  have b:m0=0:=by simpa [cA,ba.2]using hF.2.1
                  omega
                . omega
             subst hme;refine⟨h1,?_⟩;rcases h2 with h2|h2
             . exact .inl h2
             . by_cases h3:da=[]
               . exact .inl h3
               . right
                 have hdd:d<=d0:=kD B_ hd hF.2.2.1 pk1;have hb0:mU da=true:=by unfold mU;rw[Bool.not_eq_true',<-Bool.not_eq_true,ba];exact h3
                 have hsm:Ps cy cy cm mo m=true:=by
                  unfold Ps;rw[ao.mpr rfl,Bool.true_and,Bool.or_eq_true,ba,ao];exact h1
                 unfold gR at hdp;rw[hb0,hsm]at hdp;simp only[Bool.true_and,Bool.not_not,zAa,aq]at hdp;omega
   . constructor
     . intro h;exfalso;have:=yj ho _ _ true (Nat.le_refl _) bd.2 h.1;omega
     . rintro⟨m,d,hF,_⟩;have:=q3 cy hF.1 (Int.le_refl _);omega
def K8(f:Int->Nat):Int->Nat->Nat
 | _,0=>0
 | a,n+1=>f a+K8 f (a+1) n
def cM(mo:List UInt8)(m:Int):Int:=bif ae mo []then 0 else m
def cD(da:List UInt8)(d:Int):Int:=bif ae da []then 0 else d
def PW(mo da:List UInt8)(y m d:Int):Bool:=kY y (cM mo m) (cD da d)&&((ae mo [] || ab 1 m)&&(ab 0 d&&ab d 31&&(ae da [] || ab 1 d)))
def LF:dP:=λargs=>match args with
 | [.h [.b ng,.b lg,.d s,.a .i64 e,.a .i64 g,.d mo,.d da,.a .u8 a,.a .u8 b,.a .u8 c],.h [.a .i64 y,.a .i64 m,.a .i64 d]]=>some (aH [PW mo da y m d] (.a0 (.e [vR (iO y (cM mo m) (cD da d)) (iD y (cM mo m) (cD da d)),.a .i64 0])))
 | _=>none
noncomputable def W2:aQ:=bb (bb (bb gZ 47 TL) 135 RD) 136 LF
def Qb:dP:=λargs=>match args with
 | [.h [.b ng,.b lg,.d s,.a .i64 e,.a .i64 g,.d mo,.d da,.a .u8 a,.a .u8 b,.a .u8 c],.h [.a .i64 y,.a .i64 m,.a .i64 d]]=>some (aH [Nat.ble s.length 1000,Nat.ble mo.length 1000,Nat.ble da.length 1000,af .i64 e,aa g 0,af .u8 a,af .u8 b,af .u8 c,af .i64 y,aa (bW ng lg s e g mo da a b c) 0,!(jU ng s e mo da y m d) || PW mo da y m d] (.d0 (jU ng s e mo da y m d) λx=>bif x then .a0 (.e [vR (iO y (cM mo m) (cD da d)) (iD y (cM mo m) (cD da d)),.a .i64 0])else .a0 (.e [vR 0 0,.a .i64 1])))
 | _=>none
theorem Hj{y m d:Int}:PW mo da y m d=true↔kY y (cM mo m) (cD da d)/\(ae mo []\/1<=m)/\(0<=d/\d<=31)/\(ae da []\/1<=d):=by
 unfold PW;simp only[zAa,Bool.or_eq_true,aq]
theorem OG(hS:ak Tryz.prog cfg S):ak Tryz.prog cfg (bb S 136 LF):=by
 refine au hS λargs t v he hv=>?_;unfold LF at he;split at he
 . rename_i ng lg s e g mo da a b c y m d;cases he;replace hv:=aF hv;obtain⟨⟨h1,-⟩,hv⟩:=hv;cases hv;obtain⟨h1,hm1,hd,hd1⟩:=Hj.1 h1;obtain⟨hy,_,hm⟩:=ju.1 h1;have yb:=bX.2 hy;have cb:=@mg m;have hi:1<=m->m<=12->dc (12*y+m-1) 12=y/\j8 (12*y+m-1)=m-1:=λk1 k2=>by unfold dc j8;omega
   have hid:aC (.e [vR (iO y (cM mo m) (cD da d)) (iD y (cM mo m) (cD da d)),.a .i64 0])=[]:=by simp[aC,bw,vR]
   cases hmo:ae mo []with
   | true=>
     have e0:cM mo m=0:=by unfold cM;rw[hmo];rfl
     rw[e0]at hid ⊢;refine jD J6 ai (bE 1052020020) (R:=λQ=>(λ(A:AV)=>ae mo []/\eO y/\eO y/\Q (.e [.h [A,.a .i64 (bf y),A,.a .i64 (HSub.hSub (bf (HAdd.hAdd y 1)) 1)],.a .i64 0])) (.a .i8 0)) (λ_=>by kernel_rfl) (hi:=hid) λQ' hQ=>?_;try dsimp only
     have hQ:Q' (.e [vR (bf y) (bf (y+1)-1),.a .i64 0]):=hQ _ rfl;unfold vR at hQ;rw[hmo,yb];simp[hQ]
   | false=>
     have e0:cM mo m=m:=by unfold cM;rw[hmo];rfl
     rw[e0]at hid hm ⊢;rw[hmo]at hm1;have hm1:1<=m:=by rcases hm1 with h|h;exact absurd h (by decide);exact h
     have hm1:1<=m/\m<=41:=by omega
     have b2:m<=12->-3652425000000000001<=aG (dc (12*y+m-1) 12) (j8 (12*y+m-1)+1)/\aG (dc (12*y+m-1) 12) (j8 (12*y+m-1)+1)<=3652425000000000800:=λh=>by
      obtain⟨e1,e2⟩:=hi hm1.1 h;rw[e1,e2];exact mst_bd hy (by omega) (by omega)
     refine nF J6 ai (bE 1000220220220220201000220220204010104220004030) (R:=λQ=>(λ(A B:AV)(G H I:Bool)(N:Int)=>(λ(O:Bool)(P:Int)=>(λ(T:Bool)(E:Int)=>(λ(C:Bool)(F:Int)=>(λ(U:Int)=>(λ(V:Int)=>(λ(W:Bool)(Y:Int)=>(λ(u0:AV)(Z:Bool)=>ae mo []=false/\(G->eO y/\zI m/\(H->Q (.e [.h [A,.a .i64 (aG y (fR m)),A,.a .i64 (HSub.hSub (aG (fq y m) (HAdd.hAdd (kX y m) 2)) 1)],B]))/\(H=false->Q (.e [.h [A,B,A,B],.a .i64 6])))/\(G=false->(I->O/\T/\C/\C/\eO F/\Q (.e [.h [A,.a .i64 U,A,.a .i64 (HSub.hSub (aG F (HAdd.hAdd (j8 E) 2)) 1)],B]))/\(I=false->O/\T/\C/\C/\eO F/\W/\Z/\W/\Z/\Q (.e [.h [A,u0,A,u0],B])))) (.a .i64 Y) (af .i64 Y)) (af .i64 V) (Int.sub V 1)) (Int.add U d)) (aG F (HAdd.hAdd (j8 E) 1))) (af .i64 E) (dc E 12)) (af .i64 P) (Int.sub P 1)) (af .i64 N) (Int.add N m)) (.a .i8 0) (.a .i64 0) (not (ab m 12)) (eO (fq y m)) (ae da []) (Int.mul 12 y)) (λ_=>by kernel_rfl) (hi:=hid) λQ' hQ=>?_;try dsimp only
     have hm0:aa m 0=false:=aw.mpr (by omega);unfold vR iO iD at hQ;rw[hm0,cond_false,cond_false]at hQ;rw[yb,hmo];generalize fq y m=sy at *;generalize kX y m=sm at *;generalize aG y (fR m)=k1 at *;generalize aG sy (sm+2)=k2 at *;cases h13:ab 13 m with
     | true=>
       rw[h13,cond_true,cond_true]at hQ;rw[aq]at h13;have hs:eO sy=true:=by rcases hm with h|h|h<;>first|omega|exact h.2
       have hc:zI m=true:=cb.2 (by omega);have h12:ab m 12=false:=by rw[bF];omega
       rw[hs,hc,h12];simp[hQ]
     | false=>
       rw[h13,cond_false,cond_false]at hQ;rw[bF]at h13;have h12:ab m 12=true:=by rw[aq];omega
       obtain⟨e1,e2⟩:=hi (by omega) (by omega);have b3:=@mst_bd y m hy (by omega) (by omega);rw[h12];rw[show Int.sub (Int.add (Int.mul 12 y) m) 1=12*y+m-1 from rfl,e1,e2,yb,show m-1+1=m by omega,show m-1+2=m+1 by omega];clear b2 hi;generalize aG y m=k3 at *;generalize aG y (m+1)=k4 at *;cases hda:ae da []with
       | true=>
         have e1:cD da d=0:=by unfold cD;rw[hda];rfl
         rw[e1,show aa 0 0=true from rfl,cond_true,cond_true]at hQ;simp only[az,reduceCtorEq]
         (repeat' first|exact trivial|refine⟨?_,?_⟩|intro)<;>first|contradiction|omega|exact hQ
       | false=>
         have e1:cD da d=d:=by unfold cD;rw[hda];rfl
         rw[hda]at hd1;have hd1:1<=d:=by rcases hd1 with h|h;exact absurd h (by decide);exact h
         rw[e1,aw.mpr (show d≠0 by omega),cond_false,cond_false]at hQ;simp only[az,reduceCtorEq]
         (repeat' first|exact trivial|refine⟨?_,?_⟩|intro)<;>first|contradiction|omega|exact hQ
 . cases he
theorem Un:ak Tryz.prog cfg W2:=OG (QC (G9 aW))
theorem Qk(hS:ak Tryz.prog cfg S):ak Tryz.prog cfg (bb S 90 Qb):=by
 refine au hS λargs t v he hv=>?_;unfold Qb at he;split at he
 . rename_i ng lg s e g mo da a b c y m d;cases he;replace hv:=aF hv;obtain⟨⟨h1,h2,h3,h4,h5,h6,h7,h8,h9,h10,h11,-⟩,hv⟩:=hv;rw[ao]at h5;subst h5;have key:∀v,(bif jU ng s e mo da y m d then v=AV.e [vR (iO y (cM mo m) (cD da d)) (iD y (cM mo m) (cD da d)),.a .i64 0]else v=AV.e [vR 0 0,.a .i64 1])->bu Tryz.prog cfg 90 [.h [.b ng,.b lg,.d s,.a .i64 e,.a .i64 0,.d mo,.d da,.a .u8 a,.a .u8 b,.a .u8 c],.h [.a .i64 y,.a .i64 m,.a .i64 d]] [] v []:=λv hv=>by
    refine jD Un ai (bE 102056104002270276637027006) (R:=λQ=>(λ(A B:AV)(C E F G H:Bool)=>(λ(I:Prop->Prop)=>I (not G=false/\I (af .i64 y/\G/\(H->Q (.e [.h [A,B,A,B],.a .i64 1]))/\(H=false->PW mo da y m d/\Q (.e [.h [A,.a .i64 (iO y (cM mo m) (cD da d)),A,.a .i64 (iD y (cM mo m) (cD da d))],B]))))) (λu0=>C/\E/\F/\af .i64 e/\af .u8 a/\af .u8 b/\af .u8 c/\u0)) (.a .i8 0) (.a .i64 0) (Nat.ble s.length 1000) (Nat.ble mo.length 1000) (Nat.ble da.length 1000) (aa (bW ng lg s e 0 mo da a b c) 0) (not (jU ng s e mo da y m d))) (λ_=>by kernel_rfl) (hi:=?_) λQ' hQ=>?_
    . have hQ:=hQ _ rfl;try dsimp only
      rw[h1,h2,h3,h4,h6,h7,h8,h9,h10];cases hH:jU ng s e mo da y m d with
      | true=>rw[hH]at hv h11;simp only[cond_true]at hv;subst hv;rw[Bool.not_true,Bool.false_or]at h11;rw[h11];unfold vR at hQ;simp[hQ]
      | false=>rw[hH]at hv;simp only[cond_false]at hv;subst hv;unfold vR at hQ;simp[hQ]
    . cases hH:jU ng s e mo da y m d with
      | true=>rw[hH]at hv;simp only[cond_true]at hv;subst hv;simp[aC,bw,vR]
      | false=>rw[hH]at hv;simp only[cond_false]at hv;subst hv;simp[aC,bw,vR]
   refine key v ?_;simp only[Tr.b0]at hv;cases hH:jU ng s e mo da y m d with
   | true=>rw[hH]at hv;cases hv;rfl
   | false=>rw[hH]at hv;cases hv;rfl
 . cases he
end Go.Ev
