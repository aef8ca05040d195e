import Derived.Test.YtoghlpcacfnjbaaGreatDoorP36
set_option linter.all false
set_option maxRecDepth 100000
set_option maxHeartbeats 4000000
namespace Go.Ev
open Go Go.Proofs
variable{S:aR}{ng lg:Bool}{s mo da:List UInt8}{e cy cm cd:Int}
theorem Pd{gs:List (Int×Int)}(h:∀p∈gs,(0<=p.1/\p.1<=255)/\(0<=p.2/\p.2<=255)):cN (jI gs) 0 (gs.length*2)=jI gs/\p7 (jI gs)=gs/\tg (jI gs)/\Nat.ble (0+gs.length*2) (jI gs).length/\bw 14 (jI gs)/\Nat.beq gs.length gs.length=true:=
 ⟨ww,qH,q5 h,by rw[aq,nc];omega,iU,gb rfl⟩
theorem OL{q:FP}(h:q.ok):ae .u8 q.k/\ae .u8 q.p/\ae .u8 q.op/\ae .u8 q.f/\ae .u16 q.n/\ae .u8 q.z0/\ae .u8 q.z1/\ae .u8 q.m/\ae .u8 q.d/\ae .u8 q.x/\ae .u8 q.y/\ae .u8 q.z/\ae .i16 q.fr/\ae .u8 q.ma=true:=by
 simp only[aB,dP,dR];exact h
theorem OH{k p op f:Int}{ng:Bool}{n z0 z1 m d fr ma:Int}(hz0:0<=z0/\z0<=255)(hz1:0<=z1/\z1<=255)(hk:0<=k/\k<=255)(hfr : -32768<=fr/\fr<=32767)(hma:0<=ma/\ma<=255)(h:iL k f n z0 z1 m d=false) :
 aa (cA (fK k f n z0 z1 m d) 0 0 (dZ (wd k f ng n z0 z1 m d) (zL k f n z0 z1 m d) (fS k f n z0 z1 m d) (fE k f n z0 z1 m d) 0 (tV k f n z0 z1 m d) (tN k f n z0 z1 m d) 0 0 0) (fP k p) (sZ (fA k op) (fB k p op fr) (fC k op) (fD k p op fr ma)) (bJ (wd k f ng n z0 z1 m d) (zL k f n z0 z1 m d) (fS k f n z0 z1 m d) (fE k f n z0 z1 m d) 0 (tV k f n z0 z1 m d) (tN k f n z0 z1 m d) 0 0 0) 0 (ba (fS k f n z0 z1 m d++tV k f n z0 z1 m d++tN k f n z0 z1 m d)) (mZ 0 0 0) (cJ (fA k op) (fB k p op fr) (fC k op) (fD k p op fr ma) (fP k p)) (a_ (fA k op) (fB k p op fr) (fC k op) (fD k p op fr ma)) (fA k op) (fC k op)) 0/\
 ae .i64 (fE k f n z0 z1 m d)/\ae .u8 (fP k p)/\ae .i8 (fA k op)/\ae .i64 (fB k p op fr)/\ae .i8 (fC k op)/\ae .i64 (fD k p op fr ma)/\Nat.ble (fS k f n z0 z1 m d).length 1000/\Nat.ble (tV k f n z0 z1 m d).length 1000/\Nat.ble (tN k f n z0 z1 m d).length 1000=true:=by
 obtain⟨h1,⟨_,h2,h3,h4,h5,h6,h7⟩,l1,l2,l3⟩:=Gg (p:=p) (op:=op) (ng:=ng) hz0 hz1 hk hfr hma h;simp only[aB,dP,dR,aq];exact⟨al.mpr h1,h2,h3,h4,h5,h6,h7,by omega,by omega,by omega⟩
theorem WV(hS:ak Tryz.prog cfg S):ak Tryz.prog cfg (fw S 5 (fy 14 [2] Xm)):=by
 refine bm hS (ga dG.lv AD λargs ws t r he hr=>?_);unfold Xm at he;split at he
 . rename_i k p op f ng n z0 z1 m d x y z fr ma;cases he;replace hr:=aF hr;obtain⟨⟨h1,h2,h3,h4,h5,h6,h7,h8,h9,h10,h11,h12,h13,h14,-⟩,hr⟩:=hr;rw[aB]at h1 h2 h3 h13 h14;simp only[dP,dR]at h1 h2 h3 h13 h14;have hr:(bif iL k f n z0 z1 m d then Tr.ret (zb 14 (mA (eO fr ma (aa (op%4) 1) (aa (op%4) 2) [])) (.known 1),[aE.cells (bB (eO fr ma (aa (op%4) 1) (aa (op%4) 2) [])) true none])else .ret (kH k p op f ng n z0 z1 m d fr ma,[])).run=some r:=hr;cases ho:iL k f n z0 z1 m d with
   | true=>
     rw[ho]at hr;cases hr;exact⟨WQ (k:=k) (p:=p) (op:=op) (f:=f) (ng:=ng) (n:=n) (z0:=z0) (z1:=z1) (m:=m) (d:=d) (x:=x) (y:=y) (z:=z) (fr:=fr) (ma:=ma) h1 h2 h3 h4 h5 h6 h7 h8 h9 h10 h11 h12 h13 h14 ho,λx hx=>by simp only[zAf]at hx;subst hx;exact f_⟩
   | false=>
     rw[ho]at hr;cases hr;exact⟨WF (k:=k) (p:=p) (op:=op) (f:=f) (ng:=ng) (n:=n) (z0:=z0) (z1:=z1) (m:=m) (d:=d) (x:=x) (y:=y) (z:=z) (fr:=fr) (ma:=ma) h1 h2 h3 h4 h5 h6 h7 h8 h9 h10 h11 h12 h13 h14 ho,λx hx=>by cases hx⟩
 . rename_i k p op f ng n z0 z1 m d x y z fr ma l K w;cases he;replace hr:=aF hr;obtain⟨⟨h1,h2,h3,h4,h5,h6,h7,h8,h9,h10,h11,h12,h13,h14,h15,h16,-⟩,hr⟩:=hr;rw[aB]at h1 h2 h3 h13 h14;simp only[dP,dR]at h1 h2 h3 h13 h14;rw[aK]at h16;subst h16;obtain⟨e,hin⟩:=xf h15;have hr:(bif iL k f n z0 z1 m d then Tr.ret (zb 15 (mA (eO fr ma (aa (op%4) 1) (aa (op%4) 2) (p7 w))) (CD (p7 w)),[aE.cells (bB (eO fr ma (aa (op%4) 1) (aa (op%4) 2) (p7 w))) true (Dh (p7 w))])else .ret (kH k p op f ng n z0 z1 m d fr ma,[])).run=some r:=hr;cases ho:iL k f n z0 z1 m d with
   | true=>
     rw[ho]at hr;cases hr;have key:=Va (k:=k) (p:=p) (op:=op) (f:=f) (ng:=ng) (n:=n) (z0:=z0) (z1:=z1) (m:=m) (d:=d) (x:=x) (y:=y) (z:=z) (fr:=fr) (ma:=ma) (gs:=p7 w) (K:=K) hin h1 h2 h3 h4 h5 h6 h7 h8 h9 h10 h11 h12 h13 h14 ho;rw[<-e]at key;exact⟨key,λx hx=>by simp only[zAf]at hx;subst hx;exact f_⟩
   | false=>
     rw[ho]at hr;cases hr;have key:=WC (k:=k) (p:=p) (op:=op) (f:=f) (ng:=ng) (n:=n) (z0:=z0) (z1:=z1) (m:=m) (d:=d) (x:=x) (y:=y) (z:=z) (fr:=fr) (ma:=ma) (gs:=p7 w) (K:=K) hin h1 h2 h3 h4 h5 h6 h7 h8 h9 h10 h11 h12 h13 h14 ho;rw[<-e]at key;exact⟨key,λx hx=>by cases hx⟩
 . cases he
noncomputable def W1:aR:=aY V3 47 SW
theorem F9:ak Tryz.prog cfg W1:=Gy GC
def cu(mo:List UInt8):List Int:=bif af mo []then[0]else bif aa (aL mo) 0 then Bx mo 12 else[aL mo]
def eX(da:List UInt8):List Int:=bif af da []then[0]else Bx da 31
def zS(ng:Bool)(s:List UInt8)(e:Int)(mo da:List UInt8)(cy cm cd:Int):Option (Int×Int×Int):=cP ng s e cy cm cd mo da (cu mo) (eX da) (yV ng s e cy true) (yB ng s e cy true)
def gB(ng:Bool)(s:List UInt8)(e:Int)(mo da:List UInt8)(cy cm cd:Int):Bool:=wh (zS ng s e mo da cy cm cd)&&(aa (p1 (zS ng s e mo da cy cm cd)) cy&&((af mo [] || aa (p2 (zS ng s e mo da cy cm cd)) cm)&&(af da [] || aa (p3 (zS ng s e mo da cy cm cd)) cd)))
def Rk:dJ:=λargs=>match args with
 | [.agg [.bool ng,.bool lg,.str s,.int .i64 e,.int .i64 g,.str mo,.str da,.int .u8 a,.int .u8 b,.int .u8 c],.agg [.int .i64 cy,.int .i64 cm,.int .i64 cd]]=>some (aH [Nat.ble s.length 1000,Nat.ble mo.length 1000,Nat.ble da.length 1000,ae .i64 e,aa g 0,ae .u8 a,ae .u8 b,ae .u8 c,ae .i64 cy,aa (bJ ng lg s e g mo da a b c) 0] (.ret (.bool (gB ng s e mo da cy cm cd))))
 | _=>none
theorem iG{g:Int}{a b c:Int}(h:bJ ng lg s e g mo da a b c=0):nh ng lg s e g mo da a b c=0:=by
 unfold bJ at h;cases hE:aa (nh ng lg s e g mo da a b c) 0 with
 | true=>exact al.mp hE
 | false=>rw[hE,cond_false]at h;exact h
theorem z8{l:List UInt8}(h:af l []):l=[]:=by rw[bX,beq_iff_eq]at h;exact h
theorem tB{L:List Int}(h:L≠[]):g9 L=false:=by unfold g9;cases L with|nil=>exact absurd rfl h|cons x xs=>rfl
theorem TU{a b c:Int}(hs:s.length<=1000)(hmo:mo.length<=1000)(he : -9223372036854775808<=e/\e<=9223372036854775807)(ha:0<=a/\a<=255)(hb:0<=b/\b<=255)(hc:0<=c/\c<=255)(hcy : -9223372036854775808<=cy/\cy<=9223372036854775807)(hE:bJ ng lg s e 0 mo da a b c=0) :
 bt Tryz.prog cfg 135 [.agg [.bool ng,.bool lg,.str s,.int .i64 e,.int .i64 0,.str mo,.str da,.int .u8 a,.int .u8 b,.int .u8 c],.agg [.int .i64 cy,.int .i64 cm,.int .i64 cd]] [] (.bool (gB ng s e mo da cy cm cd)) []:=by
 obtain⟨ho,hx,_,h4,h5⟩:=fm (iG hE) fo;have hE':=al.mpr hE;unfold gB zS;have i1:Nat.ble s.length 1000=true:=aq.mpr hs;have i2:ae .i64 e=true:=by rw[aB];exact he
 have i3:ae .u8 a=true:=by rw[aB];exact ha
 have i4:ae .u8 b=true:=by rw[aB];exact hb
 have i5:ae .u8 c=true:=by rw[aB];exact hc
 have i6:ae .i64 cy=true:=by rw[aB];exact hcy
 cases hd:af da []with
 | true=>
   obtain rfl:=z8 hd;cases hm:af mo []with
   | true=>
     obtain rfl:=z8 hm;refine kP F9 ag (bA 15663381006330581562020522024220220245527006667020025566637020020005666) (R:=λQ=>(λ(F:Bool)(G:List Int)(H:Prop)=>(λ(I:Option (Int×Int×Int))=>(λ(A B:Bool)=>(λ(C E:Prop)=>(λ(N:Prop->Prop)=>N (not (aa (bJ ng lg s e 0 [] [] a b c) 0)=false/\N (ae .i64 cy/\aZ ng lg s e 0/\F/\k_ s/\(A->A/\A/\A/\A/\A/\(B->B/\B/\B/\B/\B/\Q (.bool true))/\(C->C/\C/\C/\C/\C/\H))/\(E->E/\E/\E/\E/\E/\H)))) (λu0=>F/\ae .i64 e/\ae .u8 a/\ae .u8 b/\ae .u8 c/\u0)) (B=false) (A=false)) (wh I) (aa (p1 I) cy)) (cP ng s e cy cm cd [] [] G G (yV ng s e cy true) (yB ng s e cy true))) (Nat.ble s.length 1000) (gE [.int .i64 0]) (Q (.bool false))) (λ_=>by kernel_rfl) λQ' hQ=>?_;try dsimp only
     have u1:cu []=[0]:=rfl;have u2:eX []=[0]:=rfl;have u3:gE [AV.int .i64 0]=[0]:=rfl;rw[u1,u2]at hQ;rw[u3,ho,hx,hE'];generalize cP ng s e cy cm cd [] [] [0] [0] (yV ng s e cy true) (yB ng s e cy true)=r at *;clear hE hE';cases k1:wh r<;>cases k2:aa (p1 r) cy<;>simp only[i1,i2,i3,i4,i5,i6,k1,k2,Bool.and_false,Bool.false_and,Bool.true_or,Bool.false_or,zAi,zAj,reduceCtorEq,zAh]at hQ ⊢<;>exact hQ
   | false=>
     cases hse:aa (aL mo) 0 with
     | false=>
       refine kP F9 ag (bA 156633810063305813305812020522024232202202702422022024552766627020225566637020220005666) (R:=λQ=>(λ(I P T:Bool)(N:Option (Int×Int×Int))(O:Prop)=>(λ(A B C H:Bool)=>(λ(E F G:Prop)=>(λ(V:Prop->Prop->Prop)=>(λ(U:Prop->Prop)=>U (not (aa (bJ ng lg s e 0 mo [] a b c) 0)=false/\U (not (aa (aL mo) 0)/\ae .i64 cy/\aZ ng lg s e 0/\I/\k_ s/\(A->V A ((B->B/\B/\B/\V H (B/\T=false/\B/\(C->V C (Q (.bool true)))/\(E->V E O)))/\(F->V F O)))/\(G->V G O)))) (λu0=>I/\P/\ae .i64 e/\ae .u8 a/\ae .u8 b/\ae .u8 c/\u0)) (λu0 u1=>u0/\u0/\u0/\u0/\u0/\u1)) (C=false) (B=false) (A=false)) (wh N) (aa (p1 N) cy) (aa (p2 N) cm) (not T)) (Nat.ble s.length 1000) (Nat.ble mo.length 1000) (af mo []) (cP ng s e cy cm cd mo [] (gE [.int .i64 (aL mo)]) (gE [.int .i64 0]) (yV ng s e cy true) (yB ng s e cy true)) (Q (.bool false))) (λ_=>by kernel_rfl) λQ' hQ=>?_;try dsimp only
       have u1:cu mo=[aL mo]:=by unfold cu;rw[hm,hse];rfl
       have u2:eX []=[0]:=rfl;have u3:∀x,gE [AV.int .i64 x]=[x]:=λx=>rfl;have u4:∀x,mN [] [x]=true:=λx=>rfl;rw[u1,u2]at hQ;simp only[u3,u4];rw[ho,hx,hE',hse,hm];have j1:Nat.ble mo.length 1000=true:=aq.mpr hmo;generalize aL mo=sx at *;generalize cP ng s e cy cm cd mo [] [sx] [0] (yV ng s e cy true) (yB ng s e cy true)=r at *;clear hE hE';cases k1:wh r<;>cases k2:aa (p1 r) cy<;>cases k3:aa (p2 r) cm<;>simp only[i1,i2,i3,i4,i5,i6,j1,k1,k2,k3,Bool.and_false,Bool.false_and,Bool.true_or,Bool.false_or,zAi,zAj,reduceCtorEq,zAh]at hQ ⊢<;>exact hQ
     | true=>
       obtain⟨m0,m1,rfl,h0,h1,k0⟩:=oD (by decide) (h4 ⟨hm,al.mp hse⟩);refine kP F9 ag (bA 1566338100633058133058120205220242020005220242202202455227020202206630022537020025566637020020005666) (R:=λQ=>(λ(I:Bool)(O:List Int)(N:List UInt8)(P:Prop)=>(λ(T:Nat)=>(λ(V:Nat)=>(λ(H:List AV)=>(λ(U:Option (Int×Int×Int))=>(λ(A B C:Bool)=>(λ(E F G:Prop)=>(λ(Y:Prop->Prop->Prop)=>(λ(W:Prop->Prop)=>W (not (aa (bJ ng lg s e 0 N [] a b c) 0)=false/\W (not (aa (aL N) 0)=false/\cg m0/\cg m1/\g9 O=false/\and (and true (and (Nat.ble (HAdd.hAdd 0 V) (List.length (aQ O))) (bw 14 H))) true/\List.all H (cq .i64)/\Nat.beq H.length T/\Nat.ble T 1000/\mN [] (gE H)/\ae .i64 cy/\aZ ng lg s e 0/\I/\k_ s/\(A->Y A ((B->Y B ((C->Y C (Q (.bool true)))/\(E->Y E P)))/\(F->Y F P)))/\(G->Y G P)))) (λu0=>I/\ae .i64 e/\ae .u8 a/\ae .u8 b/\ae .u8 c/\u0)) (λu0 u1=>u0/\u0/\u0/\u0/\u0/\u1)) (C=false) (B=false) (A=false)) (wh U) (aa (p1 U) cy) (aa (p2 U) cm)) (cP ng s e cy cm cd N [] (gE H) (gE [.int .i64 0]) (yV ng s e cy true) (yB ng s e cy true))) (cN (aQ O) 0 V)) (HMul.hMul T 1)) (dy O)) (Nat.ble s.length 1000) (aw m0 m1 12) [m0,m1] (Q (.bool false))) (λ_=>by kernel_rfl) λQ' hQ=>?_;try dsimp only
       have u1:cu [m0,m1]=aw m0 m1 12:=by unfold cu;rw[hm,hse];rfl
       have u2:eX []=[0]:=rfl;have u3:gE [AV.int .i64 0]=[0]:=rfl;have l1:dy (aw m0 m1 12)=(aw m0 m1 12).length:=rfl;have z1:=eU m0 m1 12;have aM:mN [] (aw m0 m1 12)=true:=oZ;have aX:∀M:List Int,Nat.ble (0+M.length*1) M.length=true:=λM=>by simp
       rw[u1,u2]at hQ;simp only[l1,u3,@ta,jo,gR,dF,cZ,aM,aX,Bool.and_true,Bool.true_and];rw[ho,hx,hE',hse];have n1:=tB k0;have y1:Nat.ble (aw m0 m1 12).length 1000=true:=aq.mpr (by omega);have w1:Nat.beq (aw m0 m1 12).length (aw m0 m1 12).length=true:=aK.mpr rfl;generalize aw m0 m1 12=M at *;generalize cP ng s e cy cm cd [m0,m1] [] M [0] (yV ng s e cy true) (yB ng s e cy true)=r at *;clear hE hE';cases k1:wh r<;>cases k2:aa (p1 r) cy<;>cases k3:aa (p2 r) cm<;>simp only[i1,i2,i3,i4,i5,i6,h0,h1,n1,y1,w1,k1,k2,k3,Bool.and_false,Bool.false_and,Bool.true_or,Bool.false_or,zAi,zAj,reduceCtorEq,zAh]at hQ ⊢<;>exact hQ
 | false=>
   obtain⟨m0,m1,d0,d1,rfl,rfl,h0,h1,h2,h3,k0,k1,hse,_⟩:=iT (iG hE) hd;have hse:=al.mpr hse;refine kP F9 ag (bA 1566338100633058133058120200052202420200052202422022024557777556300220530022537020025566637020020005666) (R:=λQ=>(λ(O:Bool)(U V:List Int)(P T:List UInt8)(W:Prop)=>(λ(Y Z:Nat)=>(λ(u0 u1:Nat)=>(λ(H I:List AV)=>(λ(N:Option (Int×Int×Int))=>(λ(A B C:Bool)=>(λ(E F G:Prop)=>(λ(u3:Prop->Prop->Prop)=>(λ(u2:Prop->Prop)=>u2 (not (aa (bJ ng lg s e 0 P T a b c) 0)=false/\u2 (not (aa (aL P) 0)=false/\cg m0/\cg m1/\g9 U=false/\cg d0/\cg d1/\g9 V=false/\and (and true (and (Nat.ble (HAdd.hAdd 0 u0) (List.length (aQ U))) (bw 14 H))) (and (Nat.ble (HAdd.hAdd 0 u1) (List.length (aQ V))) (bw 14 I))/\List.all H (cq .i64)/\List.all I (cq .i64)/\Nat.beq H.length Y/\Nat.beq I.length Z/\Nat.ble Y 1000/\Nat.ble Z 1000/\mN T (gE H)/\ae .i64 cy/\aZ ng lg s e 0/\O/\k_ s/\(A->u3 A ((B->u3 B ((C->u3 C (Q (.bool (aa (p3 N) cd))))/\(E->u3 E W)))/\(F->u3 F W)))/\(G->u3 G W)))) (λu4=>O/\ae .i64 e/\ae .u8 a/\ae .u8 b/\ae .u8 c/\u4)) (λu4 u5=>u4/\u4/\u4/\u4/\u4/\u5)) (C=false) (B=false) (A=false)) (wh N) (aa (p1 N) cy) (aa (p2 N) cm)) (cP ng s e cy cm cd P T (gE H) (gE I) (yV ng s e cy true) (yB ng s e cy true))) (cN (aQ U) 0 u0) (cN (aQ V) 0 u1)) (HMul.hMul Y 1) (HMul.hMul Z 1)) (dy U) (dy V)) (Nat.ble s.length 1000) (aw m0 m1 12) (aw d0 d1 31) [m0,m1] [d0,d1] (Q (.bool false))) (λ_=>by kernel_rfl) λQ' hQ=>?_;try dsimp only
   have u1:cu [m0,m1]=aw m0 m1 12:=by unfold cu;rw[hse];rfl
   have u2:eX [d0,d1]=aw d0 d1 31:=rfl;have u3:af [m0,m1] []=false:=rfl;have l1:dy (aw m0 m1 12)=(aw m0 m1 12).length:=rfl;have l2:dy (aw d0 d1 31)=(aw d0 d1 31).length:=rfl;have z1:=eU m0 m1 12;have z2:=eU d0 d1 31;have aM:mN [d0,d1] (aw m0 m1 12)=true:=oZ;have aX:∀M:List Int,Nat.ble (0+M.length*1) M.length=true:=λM=>by simp
   rw[u1,u2,u3]at hQ;simp only[l1,l2,@ta,jo,gR,dF,cZ,aM,aX,Bool.and_true,Bool.true_and];rw[ho,hx,hE',hse];have n1:=tB k0;have n2:=tB k1;have y1:Nat.ble (aw m0 m1 12).length 1000=true:=aq.mpr (by omega);have w1:Nat.beq (aw m0 m1 12).length (aw m0 m1 12).length=true:=aK.mpr rfl;have y2:Nat.ble (aw d0 d1 31).length 1000=true:=aq.mpr (by omega);have w2:Nat.beq (aw d0 d1 31).length (aw d0 d1 31).length=true:=aK.mpr rfl;generalize aw m0 m1 12=M at *;generalize aw d0 d1 31=D at *;generalize cP ng s e cy cm cd [m0,m1] [d0,d1] M D (yV ng s e cy true) (yB ng s e cy true)=r at *;clear hE hE';cases k1:wh r<;>cases k2:aa (p1 r) cy<;>cases k3:aa (p2 r) cm<;>cases k4:aa (p3 r) cd<;>simp only[i1,i2,i3,i4,i5,i6,h0,h1,h2,h3,n1,n2,y1,y2,w1,w2,k1,k2,k3,k4,Bool.and_false,Bool.false_and,Bool.true_or,Bool.false_or,zAi,zAj,reduceCtorEq,zAh]at hQ ⊢<;>exact hQ
theorem Sz(hS:ak Tryz.prog cfg S):ak Tryz.prog cfg (aY S 135 Rk):=au hS λargs t v he hv=>by
 unfold Rk at he;split at he
 . cases he;replace hv:=aF hv;obtain⟨⟨h1,h2,h3,h4,h5,h6,h7,h8,h9,h10,-⟩,hv⟩:=hv;rw[aq]at h1 h2;rw[al]at h5 h10;rw[aB]at h4 h6 h7 h8 h9;simp only[dP,dR]at h4 h6 h7 h8 h9;subst h5;cases hv;exact TU h1 h2 h4 h6 h7 h8 h9 h10
 . cases he
def BT(l:List Int):Prop:=l.Pairwise (· < ·)
theorem AS{c0 c1:UInt8}:∀{g:Nat},BT (aw c0 c1 g)
 | 0=>List.Pairwise.nil
 | g+1=>by
   rw[fW];cases h:agr [c0,c1] ((g:Int)+1)with
   | false=>rw[cond_false,List.append_nil];exact AS
   | true=>
     rw[cond_true];unfold BT;rw[List.pairwise_append];refine⟨AS,List.pairwise_singleton _ _,λa ha b hb=>?_⟩;rw[zAf]at hb;have:=(iy.1 ha).1;omega
theorem DY{s:List UInt8}{g:Nat}:BT (Bx s g):=by
 unfold Bx;split
 . exact AS
 . exact List.Pairwise.nil
theorem FS{mo:List UInt8}:BT (cu mo):=by
 unfold cu;cases af mo []with
 | true=>exact List.pairwise_singleton _ _
 | false=>
   cases aa (aL mo) 0 with
   | true=>exact DY
   | false=>exact List.pairwise_singleton _ _
theorem MZ:BT (eX da):=by
 unfold eX;cases af da []with
 | true=>exact List.pairwise_singleton _ _
 | false=>exact DY
theorem qj{p:Int->Bool}:∀{l:List Int} {x y:Int},BT l->l.find? p=some x->y∈l->p y->x<=y
 | [],_,_,_,h,_,_=>by cases h
 | a::l,x,y,hs,h,hy,hp=>by
   rw[List.find?_cons]at h;unfold BT at hs;rw[List.pairwise_cons]at hs;cases ha:p a with
   | true=>
     rw[ha]at h;cases h;rcases List.mem_cons.1 hy with rfl|hy
     . exact Int.le_refl _
     . exact Int.le_of_lt (hs.1 _ hy)
   | false=>
     rw[ha]at h;rcases List.mem_cons.1 hy with rfl|hy
     . rw[ha]at hp;cases hp
     . exact qj hs.2 h hy hp
def rz(ng:Bool)(s:List UInt8)(e:Int)(mo da:List UInt8)(y m d:Int):Prop:=rl ng s e y/\m∈cu mo/\d∈eX da/\d<=nw y m da
theorem yk{ng lg:Bool}{s:List UInt8}{e g cy cm cd:Int}{mo da:List UInt8}{M D:List Int}(ho:aZ ng lg s e g):∀(t:Nat) (y:Int) (ok:Bool),DP y ok<=t->y<=10000000000000000->wh (cP ng s e cy cm cd mo da M D y ok)->y<=p1 (cP ng s e cy cm cd mo da M D y ok)
 | t,y,false,_,_,h=>by rw[ja]at h;cases h
 | t,y,true,ht,hy,h=>by
   cases hf:fl y cy cm cd mo da M D with
   | some m=>rw[mD hf];exact Int.le_refl _
   | none=>
     rw[mJ ho hy hf]at h ⊢;have hm:=iD (ng:=ng) (s:=s) (e:=e) hy;cases hb:yB ng s e (y+1) true with
     | false=>rw[hb,ja]at h;cases h
     | true=>
       rw[hb]at h hm;have:=(xy hb).2.1
       match t,ht with
       | 0,ht=>omega
       | t+1,ht=>
         have:=yk ho t _ true (by omega) (i7 (n:=y+1) (up:=true) ho).2 h;omega
theorem aP{l:List UInt8}:af l []=true↔l=[]:=by rw[bX,beq_iff_eq]
theorem AT(ho:aZ ng lg s e 0)(hx:k_ s):gB ng s e mo da cy cm cd=true↔∃m d,rz ng s e mo da cy m d/\(mo=[]\/m=cm)/\(da=[]\/d=cd):=by
 unfold gB zS;simp only[zAa,Bool.or_eq_true,al,aP];cases hb:yB ng s e cy true with
 | false=>
   rw[ja];refine⟨λh=>(by cases h.1),λ⟨m,d,h,_⟩=>?_⟩;have:=KU hx hb h.1;omega
 | true=>
   obtain⟨q1,q2,q3⟩:=xy hb;have bd:=i7 (n:=cy) (up:=true) ho;by_cases hy:yV ng s e cy true=cy
   . rw[hy]at q1 bd ⊢;have pick:∀m d,rz ng s e mo da cy m d->(mo=[]\/m=cm)->(da=[]\/d=cd)->kO (mF da) (RI cy cy cm mo m) (nw cy m da) cd d/\nR cy cy cm cd mo da (eX da) m=true:=λm d hF h1 h2=>by
      have hp:kO (mF da) (RI cy cy cm mo m) (nw cy m da) cd d=true:=by
       unfold kO mF;rw[ao.mpr hF.2.2.2,Bool.true_and];rcases h2 with rfl|rfl
       . cases RI cy cy cm mo m<;>rfl
       . rw[ao.mpr (Int.le_refl d)];simp
      refine⟨hp,?_⟩;unfold nR qF;have hc:(aa cy cy&&(!(af mo [])&&!(ab cm m)))=false:=by
       rcases h1 with rfl|rfl
       . simp[aP.2]
       . rw[ao.mpr (Int.le_refl m)];simp
      rw[hc,cond_false];unfold g_;exact xr.2 ⟨d,hF.2.2.1,hp⟩
     cases hf:fl cy cy cm cd mo da (cu mo) (eX da)with
     | none=>
       constructor
       . intro h;exfalso;rw[mJ ho bd.2 hf]at h;cases hb2:yB ng s e (cy+1) true with
         | false=>rw[hb2,ja]at h;cases h.1
         | true=>
           rw[hb2]at h;have:=yk ho _ _ true (Nat.le_refl _) (i7 (n:=cy+1) (up:=true) ho).2 h.1;have:=(xy hb2).2.1;omega
       . rintro⟨m,d,hF,h1,h2⟩;unfold fl at hf;have:=List.find?_eq_none.1 hf m hF.2.1;exact absurd (pick m d hF h1 h2).2 this
     | some m=>
       rw[mD hf];unfold fl at hf;have hm:=List.mem_of_find?_eq_some hf;have hp:nR cy cy cm cd mo da (eX da) m=true:=List.find?_some hf;unfold nR at hp;cases hd:qF cy cy cm cd mo da (eX da) m with
       | none=>rw[hd]at hp;cases hp
       | some d=>
         simp only[wh,p1,p2,p3,dE,Option.isSome_some,Option.getD_some,true_and];unfold qF at hd;cases hc:(aa cy cy&&(!(af mo [])&&!(ab cm m)))with
         | true=>rw[hc]at hd;cases hd
         | false=>
           rw[hc,cond_false]at hd;unfold g_ at hd;have hdm:=List.mem_of_find?_eq_some hd;have hdp:=List.find?_some hd;have hle:d<=nw cy m da:=by
            unfold kO at hdp;rw[zAa,ao]at hdp;exact hdp.1
           constructor
           . rintro⟨h1,h2⟩;exact⟨m,d,⟨q1,hm,hdm,hle⟩,h1,h2⟩
           . rintro⟨m0,d0,hF,h1,h2⟩;obtain⟨pk1,pk2⟩:=pick m0 d0 hF h1 h2;have hmm:m<=m0:=qj FS hf hF.2.1 pk2;have hcm:mo=[]\/cm<=m:=by
              by_cases h0:mo=[]
              . exact .inl h0
              . right
                have hb0:af mo []=false:=by rw[<-Bool.not_eq_true,aP];exact h0
                rw[al.mpr rfl,hb0]at hc;simp only[Bool.true_and,Bool.not_false,Bool.not_eq_false']at hc;exact ao.mp hc
             have hme:m=m0:=by
              rcases hcm with h0|h0
              . subst h0;have a:m=0:=by simpa [cu,aP.2]using hm
                have b:m0=0:=by simpa [cu,aP.2]using hF.2.1
                omega
              . rcases h1 with h1|h1
                . subst h1;have a:m=0:=by simpa [cu,aP.2]using hm
                  have b:m0=0:=by simpa [cu,aP.2]using hF.2.1
                  omega
                . omega
             subst hme;refine⟨h1,?_⟩;rcases h2 with h2|h2
             . exact .inl h2
             . by_cases h3:da=[]
               . exact .inl h3
               . right
                 have hdd:d<=d0:=qj MZ hd hF.2.2.1 pk1;have hb0:mF da=true:=by unfold mF;rw[Bool.not_eq_true',<-Bool.not_eq_true,aP];exact h3
                 have hsm:RI cy cy cm mo m=true:=by
                  unfold RI;rw[al.mpr rfl,Bool.true_and,Bool.or_eq_true,aP,al];exact h1
                 unfold kO at hdp;rw[hb0,hsm]at hdp;simp only[Bool.true_and,Bool.not_not,zAa,ao]at hdp;omega
   . constructor
     . intro h;exfalso;have:=yk ho _ _ true (Nat.le_refl _) bd.2 h.1;omega
     . rintro⟨m,d,hF,_⟩;have:=q3 cy hF.1 (Int.le_refl _);omega
def la(f:Int->Nat):List Int->Nat
 | []=>0
 | x::l=>f x+la f l
theorem CL{f:Int->Nat}:∀{l k:List Int},la f (l++k)=la f l+la f k
 | [],k=>(Nat.zero_add _).symm
 | x::l,k=>by
   show f x+la f (l++k)=f x+la f l+la f k;rw[CL];omega
def mw(f:Int->Nat):Int->Nat->Nat
 | _,0=>0
 | a,n+1=>f a+mw f (a+1) n
theorem yK{f g h:Int->Nat}:∀{n:Nat} {a:Int},(∀k,a<=k->k<a+n->f k=g k+h k)->mw f a n=mw g a n+mw h a n
 | 0,_,_=>rfl
 | n+1,a,H=>by
   rw[mw,mw,mw,H a (Int.le_refl _) (by omega),yK (g:=g) (h:=h) λk h1 h2=>H k (by omega) (by omega)];omega
theorem oL{f:Int->Nat}:∀{n:Nat} {a:Int},(∀k,a<=k->k<a+n->f k=0)->mw f a n=0
 | 0,_,_=>rfl
 | n+1,a,H=>by
   rw[mw,H a (Int.le_refl _) (by omega),oL λk h1 h2=>H k (by omega) (by omega)]
theorem D8{f g:Int->Nat}{n:Nat}{a:Int}(H:∀k,a<=k->k<a+n->f k=g k):mw f a n=mw g a n:=by
 rw[yK (g:=g) (h:=λ_=>0) λk h1 h2=>by rw[H k h1 h2];rfl,oL (f:=λ_=>0) λ_ _ _=>rfl];omega
theorem B8{y:Int}{c:Nat}:∀{n:Nat} {a:Int},a<=y->y<a+n->mw (λk=>bif aa k y then c else 0) a n=c
 | 0,a,h1,h2=>by omega
 | n+1,a,h1,h2=>by
   rw[mw];by_cases he:a=y
   . subst he;rw[al.mpr rfl,cond_true,oL λk h3 _=>by rw[ay.mpr (by omega),cond_false]];rfl
   . rw[ay.mpr he,cond_false,B8 (by omega) (by omega)];omega
def oe(da:List UInt8)(D:List Int)(y m:Int):Nat:=(D.filter λd=>ab d (nw y m da)).length
def pH(da:List UInt8)(M D:List Int)(y:Int):Nat:=la (oe da D y) M
def GY(ng:Bool)(s:List UInt8)(e:Int)(da:List UInt8)(M D:List Int):Nat->Int->Bool->Nat
 | 0,_,_=>0
 | f+1,y,ok=>bif ok then pH da M D y+GY ng s e da M D f (yV ng s e (y+1) true) (yB ng s e (y+1) true)else 0
def nv(ng:Bool)(s:List UInt8)(e:Int)(da:List UInt8)(M D:List Int)(y:Int)(ok:Bool):Nat:=GY ng s e da M D (DP y ok+1) y ok
theorem Aj{ng lg:Bool}{s:List UInt8}{e g:Int}{da:List UInt8}{M D:List Int}(ho:aZ ng lg s e g):∀(f f':Nat) (y:Int) (ok:Bool),y<=10000000000000000->DP y ok<f->DP y ok<f'->GY ng s e da M D f y ok=GY ng s e da M D f' y ok
 | 0,_,_,_,_,h,_=>absurd h (Nat.not_lt_zero _)
 | _+1,0,_,_,_,_,h=>absurd h (Nat.not_lt_zero _)
 | f+1,f'+1,y,ok,hy,h1,h2=>by
   unfold GY;cases ok with
   | false=>rfl
   | true=>
     rw[cond_true,cond_true];have hm:=iD (ng:=ng) (s:=s) (e:=e) hy;rw[Aj ho f f' _ _ (i7 ho).2 (by omega) (by omega)]
theorem Fm{M D:List Int}{y:Int}:nv ng s e da M D y false=0:=rfl
theorem zP{ng lg:Bool}{s:List UInt8}{e g:Int}{da:List UInt8}{M D:List Int}{y:Int}(ho:aZ ng lg s e g)(hy:y<=10000000000000000):nv ng s e da M D y true=pH da M D y+nv ng s e da M D (yV ng s e (y+1) true) (yB ng s e (y+1) true):=by
 have hm:=iD (ng:=ng) (s:=s) (e:=e) hy;unfold nv;rw[GY,cond_true];rw[Aj ho _ (DP (yV ng s e (y+1) true) (yB ng s e (y+1) true)+1) _ _ (i7 ho).2 (by omega) (by omega)]
def mQ(ng:Bool)(s:List UInt8)(e:Int)(g:Int->Nat)(n k:Int):Nat:=bif kB ng s e k&&ab n k then g k else 0
theorem JD{ng lg:Bool}{s:List UInt8}{e g:Int}{da:List UInt8}{M D:List Int}(ho:aZ ng lg s e g)(hx:k_ s):∀(t:Nat) (n:Int),DP (yV ng s e n true) (yB ng s e n true)<=t->
 nv ng s e da M D (yV ng s e n true) (yB ng s e n true)=mw (mQ ng s e (pH da M D) n) (je ng s e) (qE ng s e+1-je ng s e).toNat
 | t,n,ht=>by
   cases hb:yB ng s e n true with
   | false=>
     rw[Fm,oL λk _ _=>?_];unfold mQ;cases hk:kB ng s e k with
     | false=>rfl
     | true=>
       have:=KU hx hb (lW.1 hk);rw[bY.mpr this];rfl
   | true=>
     obtain⟨p1,p2,p3⟩:=xy hb;have bd:=i7 (n:=n) (up:=true) ho;have lh:=Eu hx p1;rw[zP ho bd.2];have hm:=iD (ng:=ng) (s:=s) (e:=e) bd.2;rw[hb]at ht;have ih:nv ng s e da M D (yV ng s e (yV ng s e n true+1) true) (yB ng s e (yV ng s e n true+1) true)=mw (mQ ng s e (pH da M D) (yV ng s e n true+1)) (je ng s e) (qE ng s e+1-je ng s e).toNat:=by
      match t,ht with
      | 0,ht=>omega
      | t+1,ht=>exact JD ho hx t _ (by omega)
     rw[ih];generalize yV ng s e n true=y at *;rw[yK (f:=mQ ng s e (pH da M D) n) (g:=λk=>bif aa k y then pH da M D y else 0) (h:=mQ ng s e (pH da M D) (y+1)) λk _ _=>?_,B8 lh.1 (by omega)];unfold mQ;cases hk:kB ng s e k with
     | false=>
       have:k≠y:=λh=>by subst h;rw[lW.2 p1]at hk;cases hk
       rw[ay.mpr this];rfl
     | true=>
       by_cases he:k=y
       . subst he;rw[al.mpr rfl,ao.mpr p2,bY.mpr (by omega)];rfl
       . rw[ay.mpr he];by_cases hn:n<=k
         . have:=p3 k (lW.1 hk) hn;rw[ao.mpr hn,ao.mpr (by omega)];simp
         . rw[bY.mpr (by omega),bY.mpr (by omega)];rfl
def cM(mo:List UInt8)(m:Int):Int:=bif af mo []then 0 else m
def cD(da:List UInt8)(d:Int):Int:=bif af da []then 0 else d
def M_(mo da:List UInt8)(y m d:Int):Bool:=nz y (cM mo m) (cD da d)&&((af mo [] || ab 1 m)&&(ab 0 d&&ab d 31&&(af da [] || ab 1 d)))
def Lw:dJ:=λargs=>match args with
 | [.agg [.bool ng,.bool lg,.str s,.int .i64 e,.int .i64 g,.str mo,.str da,.int .u8 a,.int .u8 b,.int .u8 c],.agg [.int .i64 y,.int .i64 m,.int .i64 d]]=>some (aH [M_ mo da y m d] (.ret (.tuple [vR (jQ y (cM mo m) (cD da d)) (jV y (cM mo m) (cD da d)),.int .i64 0])))
 | _=>none
noncomputable def W2:aR:=aY (aY (aY gX 47 SW) 135 Rk) 136 Lw
def SR:dJ:=λargs=>match args with
 | [.agg [.bool ng,.bool lg,.str s,.int .i64 e,.int .i64 g,.str mo,.str da,.int .u8 a,.int .u8 b,.int .u8 c],.agg [.int .i64 y,.int .i64 m,.int .i64 d]]=>some (aH [Nat.ble s.length 1000,Nat.ble mo.length 1000,Nat.ble da.length 1000,ae .i64 e,aa g 0,ae .u8 a,ae .u8 b,ae .u8 c,ae .i64 y,aa (bJ ng lg s e g mo da a b c) 0,!(gB ng s e mo da y m d) || M_ mo da y m d] (.test (gB ng s e mo da y m d) λx=>bif x then .ret (.tuple [vR (jQ y (cM mo m) (cD da d)) (jV y (cM mo m) (cD da d)),.int .i64 0])else .ret (.tuple [vR 0 0,.int .i64 1])))
 | _=>none
theorem Gq{y m d:Int}:M_ mo da y m d=true↔nz y (cM mo m) (cD da d)/\(af mo []\/1<=m)/\(0<=d/\d<=31)/\(af da []\/1<=d):=by
 unfold M_;simp only[zAa,Bool.or_eq_true,ao]
theorem MR(hS:ak Tryz.prog cfg S):ak Tryz.prog cfg (aY S 136 Lw):=by
 refine au hS λargs t v he hv=>?_;unfold Lw at he;split at he
 . rename_i ng lg s e g mo da a b c y m d;cases he;replace hv:=aF hv;obtain⟨⟨h1,-⟩,hv⟩:=hv;cases hv;obtain⟨h1,hm1,hd,hd1⟩:=Gq.1 h1;obtain⟨hy,_,hm⟩:=ku.1 h1;have yb:=bV.2 hy;have cb:=@lN m;have hi:1<=m->m<=12->cV (12*y+m-1) 12=y/\jZ (12*y+m-1)=m-1:=λk1 k2=>by unfold cV jZ;omega
   have hid:aD (.tuple [vR (jQ y (cM mo m) (cD da d)) (jV y (cM mo m) (cD da d)),.int .i64 0])=[]:=by simp[aD,bz,vR]
   cases hmo:af mo []with
   | true=>
     have e0:cM mo m=0:=by unfold cM;rw[hmo];rfl
     rw[e0]at hid ⊢;refine iI KV ag (bA 1052020020) (R:=λQ=>(λ(A:AV)=>af mo []/\eB y/\eB y/\Q (.tuple [.agg [A,.int .i64 (bf y),A,.int .i64 (HSub.hSub (bf (HAdd.hAdd y 1)) 1)],.int .i64 0])) (.int .i8 0)) (λ_=>by kernel_rfl) (hi:=hid) λQ' hQ=>?_;try dsimp only
     have hQ:Q' (.tuple [vR (bf y) (bf (y+1)-1),.int .i64 0]):=hQ _ rfl;unfold vR at hQ;rw[hmo,yb];simp[hQ]
   | false=>
     have e0:cM mo m=m:=by unfold cM;rw[hmo];rfl
     rw[e0]at hid hm ⊢;rw[hmo]at hm1;have hm1:1<=m:=by rcases hm1 with h|h;exact absurd h (by decide);exact h
     have hm1:1<=m/\m<=41:=by omega
     have b2:m<=12->-3652425000000000001<=aG (cV (12*y+m-1) 12) (jZ (12*y+m-1)+1)/\aG (cV (12*y+m-1) 12) (jZ (12*y+m-1)+1)<=3652425000000000800:=λh=>by
      obtain⟨e1,e2⟩:=hi hm1.1 h;rw[e1,e2];exact mst_bd hy (by omega) (by omega)
     refine kP KV ag (bA 1000220220220220201000220220204010104220004030) (R:=λQ=>(λ(A B:AV)(G H I:Bool)(N:Int)=>(λ(O:Bool)(P:Int)=>(λ(T:Bool)(E:Int)=>(λ(C:Bool)(F:Int)=>(λ(U:Int)=>(λ(V:Int)=>(λ(W:Bool)(Y:Int)=>(λ(u0:AV)(Z:Bool)=>af mo []=false/\(G->eB y/\yQ m/\(H->Q (.tuple [.agg [A,.int .i64 (aG y (fR m)),A,.int .i64 (HSub.hSub (aG (fk y m) (HAdd.hAdd (kK y m) 2)) 1)],B]))/\(H=false->Q (.tuple [.agg [A,B,A,B],.int .i64 6])))/\(G=false->(I->O/\T/\C/\C/\eB F/\Q (.tuple [.agg [A,.int .i64 U,A,.int .i64 (HSub.hSub (aG F (HAdd.hAdd (jZ E) 2)) 1)],B]))/\(I=false->O/\T/\C/\C/\eB F/\W/\Z/\W/\Z/\Q (.tuple [.agg [A,u0,A,u0],B])))) (.int .i64 Y) (ae .i64 Y)) (ae .i64 V) (Int.sub V 1)) (Int.add U d)) (aG F (HAdd.hAdd (jZ E) 1))) (ae .i64 E) (cV E 12)) (ae .i64 P) (Int.sub P 1)) (ae .i64 N) (Int.add N m)) (.int .i8 0) (.int .i64 0) (not (ab m 12)) (eB (fk y m)) (af da []) (Int.mul 12 y)) (λ_=>by kernel_rfl) (hi:=hid) λQ' hQ=>?_;try dsimp only
     have hm0:aa m 0=false:=ay.mpr (by omega);unfold vR jQ jV at hQ;rw[hm0,cond_false,cond_false]at hQ;rw[yb,hmo];generalize fk y m=sy at *;generalize kK y m=sm at *;generalize aG y (fR m)=k1 at *;generalize aG sy (sm+2)=k2 at *;cases h13:ab 13 m with
     | true=>
       rw[h13,cond_true,cond_true]at hQ;rw[ao]at h13;have hs:eB sy=true:=by rcases hm with h|h|h<;>first|omega|exact h.2
       have hc:yQ m=true:=cb.2 (by omega);have h12:ab m 12=false:=by rw[bY];omega
       rw[hs,hc,h12];simp[hQ]
     | false=>
       rw[h13,cond_false,cond_false]at hQ;rw[bY]at h13;have h12:ab m 12=true:=by rw[ao];omega
       obtain⟨e1,e2⟩:=hi (by omega) (by omega);have b3:=@mst_bd y m hy (by omega) (by omega);rw[h12];rw[show Int.sub (Int.add (Int.mul 12 y) m) 1=12*y+m-1 from rfl,e1,e2,yb,show m-1+1=m by omega,show m-1+2=m+1 by omega];clear b2 hi;generalize aG y m=k3 at *;generalize aG y (m+1)=k4 at *;cases hda:af da []with
       | true=>
         have e1:cD da d=0:=by unfold cD;rw[hda];rfl
         rw[e1,show aa 0 0=true from rfl,cond_true,cond_true]at hQ;simp only[az,reduceCtorEq]
         (repeat' first|exact trivial|refine⟨?_,?_⟩|intro)<;>first|contradiction|omega|exact hQ
       | false=>
         have e1:cD da d=d:=by unfold cD;rw[hda];rfl
         rw[hda]at hd1;have hd1:1<=d:=by rcases hd1 with h|h;exact absurd h (by decide);exact h
         rw[e1,ay.mpr (show d≠0 by omega),cond_false,cond_false]at hQ;simp only[az,reduceCtorEq]
         (repeat' first|exact trivial|refine⟨?_,?_⟩|intro)<;>first|contradiction|omega|exact hQ
 . cases he
theorem WI:ak Tryz.prog cfg W2:=MR (Sz (Gy aV))
theorem Sg(hS:ak Tryz.prog cfg S):ak Tryz.prog cfg (aY S 90 SR):=by
 refine au hS λargs t v he hv=>?_;unfold SR at he;split at he
 . rename_i ng lg s e g mo da a b c y m d;cases he;replace hv:=aF hv;obtain⟨⟨h1,h2,h3,h4,h5,h6,h7,h8,h9,h10,h11,-⟩,hv⟩:=hv;rw[al]at h5;subst h5;have key:∀v,(bif gB ng s e mo da y m d then v=AV.tuple [vR (jQ y (cM mo m) (cD da d)) (jV y (cM mo m) (cD da d)),.int .i64 0]else v=AV.tuple [vR 0 0,.int .i64 1])->bt Tryz.prog cfg 90 [.agg [.bool ng,.bool lg,.str s,.int .i64 e,.int .i64 0,.str mo,.str da,.int .u8 a,.int .u8 b,.int .u8 c],.agg [.int .i64 y,.int .i64 m,.int .i64 d]] [] v []:=λv hv=>by
    refine iI WI ag (bA 102056104002270276637027006) (R:=λQ=>(λ(A B:AV)(C E F G H:Bool)=>(λ(I:Prop->Prop)=>I (not G=false/\I (ae .i64 y/\G/\(H->Q (.tuple [.agg [A,B,A,B],.int .i64 1]))/\(H=false->M_ mo da y m d/\Q (.tuple [.agg [A,.int .i64 (jQ y (cM mo m) (cD da d)),A,.int .i64 (jV y (cM mo m) (cD da d))],B]))))) (λu0=>C/\E/\F/\ae .i64 e/\ae .u8 a/\ae .u8 b/\ae .u8 c/\u0)) (.int .i8 0) (.int .i64 0) (Nat.ble s.length 1000) (Nat.ble mo.length 1000) (Nat.ble da.length 1000) (aa (bJ ng lg s e 0 mo da a b c) 0) (not (gB ng s e mo da y m d))) (λ_=>by kernel_rfl) (hi:=?_) λQ' hQ=>?_
    . have hQ:=hQ _ rfl;try dsimp only
      rw[h1,h2,h3,h4,h6,h7,h8,h9,h10];cases hH:gB ng s e mo da y m d with
      | true=>rw[hH]at hv h11;simp only[cond_true]at hv;subst hv;rw[Bool.not_true,Bool.false_or]at h11;rw[h11];unfold vR at hQ;simp[hQ]
      | false=>rw[hH]at hv;simp only[cond_false]at hv;subst hv;unfold vR at hQ;simp[hQ]
    . cases hH:gB ng s e mo da y m d with
      | true=>rw[hH]at hv;simp only[cond_true]at hv;subst hv;simp[aD,bz,vR]
      | false=>rw[hH]at hv;simp only[cond_false]at hv;subst hv;simp[aD,bz,vR]
   refine key v ?_;simp only[Tr.run]at hv;cases hH:gB ng s e mo da y m d with
   | true=>rw[hH]at hv;cases hv;rfl
   | false=>rw[hH]at hv;cases hv;rfl
 . cases he
end Go.Ev
