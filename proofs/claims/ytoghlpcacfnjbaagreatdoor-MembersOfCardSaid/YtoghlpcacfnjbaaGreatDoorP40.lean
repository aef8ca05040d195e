import Derived.Test.YtoghlpcacfnjbaaGreatDoorP39
set_option linter.all false
set_option maxRecDepth 100000
set_option maxHeartbeats 4000000
namespace Go.Ev
open Go Go.Proofs
variable{C:List Ci}{b0:aE}{ng lg:Bool}{s mo da:List UInt8}{e b c y m d:Int}{S:aR}
noncomputable def SA:aR:=fw (aY (aY gX 92 SM) 91 PR) 93 (fy 14 [] I2)
def kM(ng lg:Bool)(s:List UInt8)(e:Int)(mo da:List UInt8):Bool:=aZ ng lg s e 0&&(Nat.ble s.length 1000&&(k_ s&&sQ mo da))
def yT(ng:Bool)(s:List UInt8)(e:Int):Nat:=(qE ng s e+1-je ng s e).toNat
def mh(C:List Ci):AV:=match C.length with
 | 0=>.nilslice
 | k+1=>.slice 15 0 (k+1) (.rest 0)
def nG(C:List Ci)(b0:aE):aC:=match C.length with
 | 0=>⟨1,[b0],[]⟩
 | _+1=>⟨2,[.cells (bF C) true (some 3),b0],[]⟩
def Qx:d9:=λvs o=>match vs,o with
 | [.ptr 14 0,.nilslice,.int .i64 hi,.int .i64 y],⟨1,[.cells [.bool ng,.bool lg,.str s,.int .i64 e,.int .i64 g,.str mo,.str da,.int .u8 a,.int .u8 b,.int .u8 c] true none],[]⟩=>
   some (aH [aa g 0,kM ng lg s e mo da,aa hi (qE ng s e),aa y (je ng s e),Nat.ble (bZ ng s e mo da).length 1000000] (.ret (.exit 0,[.ptr 14 0,mh (bZ ng s e mo da),.int .i64 hi,.int .i64 (je ng s e+Int.ofNat (yT ng s e))],nG (bZ ng s e mo da) (bx ng lg s e 0 mo da a b c))))
 | _,_=>none
theorem LS:ak Tryz.prog cfg SA:=N8 (Sp (Qq aV))
theorem oO{f:Int->List Ci}:∀{i:Nat} {a:Int},jL f a (i+1)=jL f a i++f (a+i)
 | 0,a=>by
   show f a++[]=[]++f (a+0);rw[List.append_nil,List.nil_append,Int.add_zero]
 | i+1,a=>by
   rw[jL,oO,jL,List.append_assoc,show a+1+(i:Int)=a+((i+1:Nat):Int)by omega]
theorem F0{f:Int->List Ci}{a:Int}{i:Nat}:∀{n:Nat},i<=n->(jL f a i).length<=(jL f a n).length
 | 0,h=>by rw[Nat.le_zero.1 h];exact Nat.le_refl _
 | n+1,h=>by
   by_cases e:i=n+1
   . rw[e];exact Nat.le_refl _
   . have:=@F0 f a i n (by omega);rw[oO,zAg];omega
theorem zv:∀{C:List Ci},ff (bF C)=true
 | []=>rfl
 | c::C=>by
   show ff (.int .i64 c.1::.int .i64 c.2.1::.int .i64 c.2.2::bF C)=true;simp only[ff,LY,zv (C:=C),Bool.and_self]
theorem Ek{C:List Ci}:List.take (C.length*3) (List.drop 0 (bF C))=bF C:=by
 rw[List.drop_zero];exact List.take_of_length_le (by rw[lK];exact Nat.le_refl _)
theorem nL(h:C.length=0):mh C=.nilslice/\nG C b0=⟨1,[b0],[]⟩:=by unfold mh nG;rw[h];exact⟨rfl,rfl⟩
theorem jN(h:0<C.length):mh C=.slice 15 0 C.length (.rest 0)/\nG C b0=⟨2,[.cells (bF C) true (some 3),b0],[]⟩:=by
 obtain⟨k,hk⟩:∃k,C.length=k+1:=⟨_,(Nat.succ_pred_eq_of_pos h).symm⟩;unfold mh nG;rw[hk];exact⟨rfl,rfl⟩
theorem Ps:1<=(nG C b0).n:=by
 unfold nG;split<;>simp
theorem G9{b:Bool}:aa (bI b) 1=b:=by cases b<;>rfl
theorem Uk:cx Tryz.prog (cH cfg SA) (Cw cfg []) (lb 51 0) 30 [1,3,5,6] Qx:=by
 intro vs o t Q hv hq J;unfold Qx at hv;split at hv
 . rename_i hi y ng lg s e g mo da a b c;cases hv;replace hq:=cL hq;obtain⟨⟨k1,k2,k3,k4,k5,-⟩,hq⟩:=hq;rw[al]at k1 k3 k4;rw[aq]at k5;subst k1 k3 k4;unfold kM at k2;simp only[zAa]at k2;obtain⟨o1,o2,o3,o4⟩:=k2;have lh:=vS o1 o3;have hq:Q (.exit 0,[.ptr 14 0,mh (bZ ng s e mo da),.int .i64 (qE ng s e),.int .i64 (je ng s e+Int.ofNat (yT ng s e))],nG (bZ ng s e mo da) (bx ng lg s e 0 mo da a b c)):=hq;have hN:∀i:Nat,i<=yT ng s e->(i<yT ng s e↔je ng s e+Int.ofNat i<=qE ng s e):=λi hi=>by
    unfold yT at hi ⊢;simp only[Int.ofNat_eq_natCast];omega
   refine im LS rfl rfl ag (ι:={i:Nat // i<=yT ng s e}) (λx=>[.ptr 14 0,mh (jL (j9 ng s e mo da) (je ng s e) x.1),.int .i64 (qE ng s e),.int .i64 (je ng s e+Int.ofNat x.1)]) (λx=>nG (jL (j9 ng s e mo da) (je ng s e) x.1) (bx ng lg s e 0 mo da a b c)) (λx=>yT ng s e-x.1) 1 (λx=>Ps) (λx J=>?_) (Nat.le_refl _) (λJ=>Wk.refl ⟨⟨0,Nat.zero_le _⟩,J,by simp only[Int.ofNat_eq_natCast,Int.natCast_zero,Int.add_zero];rfl⟩) J;obtain⟨i,hi⟩:=x;dsimp only;have hNi:=hN i hi;have bl:cR (14+1) (bx ng lg s e 0 mo da a b c):=aO (by simp[bz,aD]);have hlow:∀z∈[bx ng lg s e 0 mo da a b c],cR (14+1) z:=λz hz=>by
    simp only[zAf]at hz;subst hz;exact bl
   have fin:¬i<yT ng s e->∃vs2 o2,VW cfg (Cw cfg []) 1 30 [1,3,5,6] [.ptr 14 0,mh (jL (j9 ng s e mo da) (je ng s e) i),.int .i64 (qE ng s e),.int .i64 (je ng s e+Int.ofNat i)] (nG (jL (j9 ng s e mo da) (je ng s e) i) (bx ng lg s e 0 mo da a b c)) vs2 o2/\Q (.exit 0,vs2,o2):=λh=>by
    obtain rfl:i=yT ng s e:=by omega
    exact⟨_,_,VW.refl,hq⟩
   have go:i<yT ng s e->∀vs o,VW cfg (Cw cfg []) 1 30 [1,3,5,6] vs o [.ptr 14 0,mh (jL (j9 ng s e mo da) (je ng s e) i++j9 ng s e mo da (je ng s e+Int.ofNat i)),.int .i64 (qE ng s e),.int .i64 (je ng s e+Int.ofNat i+1)] (nG (jL (j9 ng s e mo da) (je ng s e) i++j9 ng s e mo da (je ng s e+Int.ofNat i)) (bx ng lg s e 0 mo da a b c))->∃x:{i:Nat // i<=yT ng s e},yT ng s e-x.1<yT ng s e-i/\VW cfg (Cw cfg []) 1 30 [1,3,5,6] vs o [.ptr 14 0,mh (jL (j9 ng s e mo da) (je ng s e) x.1),.int .i64 (qE ng s e),.int .i64 (je ng s e+Int.ofNat x.1)] (nG (jL (j9 ng s e mo da) (je ng s e) x.1) (bx ng lg s e 0 mo da a b c)):=λh vs o hv=>⟨⟨i+1,h⟩,by dsimp only;omega,by
    dsimp only;rw[oO,show je ng s e+Int.ofNat (i+1)=je ng s e+Int.ofNat i+1 by simp only[Int.ofNat_eq_natCast];omega];exact hv⟩
   have hlenT:i<yT ng s e->(jL (j9 ng s e mo da) (je ng s e) i).length+(j9 ng s e mo da (je ng s e+Int.ofNat i)).length<=1000000:=λh=>by
    have h1:(jL (j9 ng s e mo da) (je ng s e) (i+1)).length<=(bZ ng s e mo da).length:=F0 h;rw[oO,zAg]at h1;exact Nat.le_trans h1 k5
   have hyb:i<yT ng s e->gh (je ng s e+Int.ofNat i)/\ae .i64 (Int.add (je ng s e+Int.ofNat i) 1)=true:=λh=>by
    have:=hNi.1 h;have h0:(0:Int)<=Int.ofNat i:=Int.natCast_nonneg i;refine⟨fi.2 (by omega),?_⟩;rw[aB];simp only[dP,dR];show _<=je ng s e+Int.ofNat i+1/\je ng s e+Int.ofNat i+1<=_;omega
   clear hq hN;generalize hR:jL (j9 ng s e mo da) (je ng s e) i=R at *;generalize qE ng s e=hi' at *;generalize hY:je ng s e+Int.ofNat i=y at *;have eK:j9 ng s e mo da y=bif kB ng s e y then kZ mo da y else[]:=rfl
   rw[eK]at go hlenT;generalize hCC:kZ mo da y=C at *;have tk:=@Ek C;have on:=@zv C;have lC:Nat.ble (0+C.length*3) (bF C).length=true:=aq.mpr (by rw[lK];omega);have lC2:Nat.ble C.length C.length=true:=aq.mpr (Nat.le_refl _);by_cases hR0:R.length=0
   . have hRn:R=[]:=List.eq_nil_of_length_eq_zero hR0;subst hRn;rw[(nL (b0:=bx ng lg s e 0 mo da a b c) hR0).1,(nL (b0:=bx ng lg s e 0 mo da a b c) hR0).2]at fin ⊢;rw[List.nil_append]at go;refine jT (bA 11141142731140042200642700054) (R:=λQ=>(λ(I:aE)(B C:AV)(H:Bool)(E:Int)(F:List AV)(A:Nat)=>(λ(O P U:AV)(G N:Bool)(T:Nat)=>(λ(Y:List AV)(V W:Prop)=>(λ(Z:Prop)=>(ab y hi'->aZ ng lg s e 0/\Nat.ble s.length 1000/\k_ s/\gh y/\(H->sQ mo da/\gh y/\(N->Z)/\(W->W/\and (and (Nat.ble (HAdd.hAdd 0 A) 1000000) true) true/\Nat.ble A A/\Nat.ble (HAdd.hAdd 0 T) F.length/\ff Y/\(G->Q (.normal,[B,U,C,O],⟨3,[.cells Y true (some 3),.cells F true (some 3),I],[]⟩))/\(V->Q (.normal,[B,U,C,P],⟨3,[.cells Y true (some 3),.cells F true (some 3),I],[]⟩))))/\(H=false->Z))/\(ab y hi'=false->Q (.exit 0,[B,.nilslice,C,.int .i64 y],⟨1,[I],[]⟩))) ((G->Q (.normal,[B,.nilslice,C,O],⟨1,[I],[]⟩))/\(V->Q (.normal,[B,.nilslice,C,P],⟨1,[I],[]⟩)))) (List.take T (List.drop 0 F)) (G=false) (N=false)) (.int .i64 E) (.int .i64 (IntKind.wrap .i64 E)) (.slice 16 0 A (eZ.rest 0)) (ae .i64 E) (Nat.beq A 0) (HMul.hMul A 3)) (.cells [.bool ng,.bool lg,.str s,.int .i64 e,.int .i64 0,.str mo,.str da,.int .u8 a,.int .u8 b,.int .u8 c] true none) (.ptr 14 0) (.int .i64 hi') (aa (bI (kB ng s e y)) 1) (Int.add y 1) (bF (kZ mo da y)) (List.length (kZ mo da y))) (λ_=>by kernel_rfl) λQ' hQ=>?_;try dsimp only
     by_cases hl:i<yT ng s e
     . obtain⟨f1,f2⟩:=hyb hl;have f3:=ao.mpr (hNi.1 hl);cases hB:kB ng s e y with
       | false=>
         have go2:=λvs o h=>hQ (.normal,vs,o) (by rw[hB,cond_false]at go;exact go hl vs o h);have go3:=go2 _ _ VW.refl;rw[(nL (b0:=bx ng lg s e 0 mo da a b c) rfl).1,(nL (b0:=bx ng lg s e 0 mo da a b c) rfl).2]at go3;try dsimp only
         simp only[hCC,o1,o2,o3,o4,f1,f2,f3,hB,G9,reduceCtorEq,zAh];exact go3
       | true=>
         rw[hB,cond_true]at go hlenT;have hl6:Nat.ble (0+C.length) 1000000=true:=aq.mpr (by have:=hlenT hl;simp only[List.length_nil]at this;omega);have go2:=λvs o h=>hQ (.normal,vs,o) (go hl vs o h);by_cases hC:C.length=0
         . have go3:=go2 _ _ VW.refl;rw[(nL (b0:=bx ng lg s e 0 mo da a b c) hC).1,(nL (b0:=bx ng lg s e 0 mo da a b c) hC).2]at go3;have hb:=aK.mpr hC;try dsimp only
           simp only[hCC,o1,o2,o3,o4,f1,f2,f3,hB,G9,hb,reduceCtorEq,zAh];exact go3
         . have hb:=cr.mpr hC;have hp:0<C.length:=Nat.pos_of_ne_zero hC;rw[(jN (b0:=bx ng lg s e 0 mo da a b c) hp).1,(jN (b0:=bx ng lg s e 0 mo da a b c) hp).2]at go2;have go3:=go2 _ _ (fu (tn:=30) (rel:=[1,3,5,6]) (vs:=[.ptr 14 0,.slice 16 0 C.length (.rest 0),.int .i64 hi',.int .i64 (y+1)]) (vs':=[.ptr 14 0,.slice 15 0 C.length (.rest 0),.int .i64 hi',.int .i64 (y+1)]) (x:=.cells (bF C) true (some 3)) (mid:=[.cells (bF C) true (some 3)]) (B:=[bx ng lg s e 0 mo da a b c]) (k:=1) (kb:=1) (n:=3) rfl rfl rfl hlow (aO gK) rfl);try dsimp only
           simp only[hCC,o1,o2,o3,o4,f1,f2,f3,hB,G9,hb,hl6,lC,lC2,tk,on,Bool.and_true,reduceCtorEq,zAh];exact go3
     . have f3:ab y hi'=false:=bY.mpr (by by_cases h:y<=hi';exact absurd (hNi.2 h) hl;omega);have fin2:=hQ (.exit 0,_,_) (fin hl);try dsimp only
       simp only[f3,reduceCtorEq,zAh];exact fin2
   . have hRp:0<R.length:=Nat.pos_of_ne_zero hR0;rw[(jN (b0:=bx ng lg s e 0 mo da a b c) hRp).1,(jN (b0:=bx ng lg s e 0 mo da a b c) hRp).2]at fin ⊢;refine jT (bA 1114114202731140042200642700054) (R:=λQ=>(λ(N:aE)(B C F:AV)(I:Bool)(E:Int)(G:List AV)(A:Nat)=>(λ(P T:AV)(H O:Bool)(U V:Nat)=>(λ(u0:AV)(Z:List AV)(W Y:Prop)=>(λ(u1:Prop)=>(ab y hi'->aZ ng lg s e 0/\Nat.ble s.length 1000/\k_ s/\gh y/\(I->sQ mo da/\gh y/\(O->u1)/\(Y->Y/\and (and (Nat.ble U 1000000) true) true/\Nat.ble A A/\Nat.ble (HAdd.hAdd 0 V) G.length/\ff Z/\and true (Nat.beq (bF R).length (HMul.hMul R.length 3))/\(H->Q (.normal,[B,u0,C,P],⟨4,[.cells ((bF R)++Z) true (some 3),.cells G true (some 3),aE.dead,N],[]⟩))/\(W->Q (.normal,[B,u0,C,T],⟨4,[.cells ((bF R)++Z) true (some 3),.cells G true (some 3),aE.dead,N],[]⟩))))/\(I=false->u1))/\(ab y hi'=false->Q (.exit 0,[B,F,C,.int .i64 y],⟨2,[.cells (bF R) true (some 3),N],[]⟩))) ((H->Q (.normal,[B,F,C,P],⟨2,[.cells (bF R) true (some 3),N],[]⟩))/\(W->Q (.normal,[B,F,C,T],⟨2,[.cells (bF R) true (some 3),N],[]⟩)))) (.slice 17 0 U (eZ.rest 0)) (List.take V (List.drop 0 G)) (H=false) (O=false)) (.int .i64 E) (.int .i64 (IntKind.wrap .i64 E)) (ae .i64 E) (Nat.beq A 0) (HAdd.hAdd R.length A) (HMul.hMul A 3)) (.cells [.bool ng,.bool lg,.str s,.int .i64 e,.int .i64 0,.str mo,.str da,.int .u8 a,.int .u8 b,.int .u8 c] true none) (.ptr 14 0) (.int .i64 hi') (.slice 15 0 R.length (eZ.rest 0)) (aa (bI (kB ng s e y)) 1) (Int.add y 1) (bF (kZ mo da y)) (List.length (kZ mo da y))) (λ_=>by kernel_rfl) λQ' hQ=>?_;try dsimp only
     by_cases hl:i<yT ng s e
     . obtain⟨f1,f2⟩:=hyb hl;have f3:=ao.mpr (hNi.1 hl);cases hB:kB ng s e y with
       | false=>
         rw[hB,cond_false,List.append_nil,(jN (b0:=bx ng lg s e 0 mo da a b c) hRp).1,(jN (b0:=bx ng lg s e 0 mo da a b c) hRp).2]at go;have go3:=hQ (.normal,_,_) (go hl _ _ VW.refl);try dsimp only
         simp only[hCC,o1,o2,o3,o4,f1,f2,f3,hB,G9,reduceCtorEq,zAh];exact go3
       | true=>
         rw[hB,cond_true]at go hlenT;have hl6:Nat.ble (R.length+C.length) 1000000=true:=aq.mpr (hlenT hl);have lR:Nat.beq (bF R).length (R.length*3)=true:=aK.mpr lK;have go2:=λvs o h=>hQ (.normal,vs,o) (go hl vs o h);by_cases hC:C.length=0
         . have hCn:C=[]:=List.eq_nil_of_length_eq_zero hC;rw[hCn,List.append_nil,(jN (b0:=bx ng lg s e 0 mo da a b c) hRp).1,(jN (b0:=bx ng lg s e 0 mo da a b c) hRp).2]at go2;have go3:=go2 _ _ VW.refl;have hb:=aK.mpr hC;try dsimp only
           simp only[hCC,o1,o2,o3,o4,f1,f2,f3,hB,G9,hb,reduceCtorEq,zAh];exact go3
         . have hb:=cr.mpr hC;have hp:0<(R++C).length:=by rw[zAg];omega
           rw[(jN (b0:=bx ng lg s e 0 mo da a b c) hp).1,(jN (b0:=bx ng lg s e 0 mo da a b c) hp).2,zAg,o5]at go2;have go3:=go2 _ _ (fu (tn:=30) (rel:=[1,3,5,6]) (vs:=[.ptr 14 0,.slice 17 0 (R.length+C.length) (.rest 0),.int .i64 hi',.int .i64 (y+1)]) (vs':=[.ptr 14 0,.slice 15 0 (R.length+C.length) (.rest 0),.int .i64 hi',.int .i64 (y+1)]) (x:=.cells (bF R++bF C) true (some 3)) (mid:=[.cells (bF C) true (some 3),.dead]) (B:=[bx ng lg s e 0 mo da a b c]) (k:=2) (kb:=1) (n:=4) rfl rfl rfl hlow (aO (by rw[gu,gK,gK];rfl)) rfl);try dsimp only
           simp only[hCC,o1,o2,o3,o4,f1,f2,f3,hB,G9,hb,hl6,lC,lC2,lR,tk,on,Bool.and_true,Bool.true_and,reduceCtorEq,zAh];exact go3
     . have f3:ab y hi'=false:=bY.mpr (by by_cases h:y<=hi';exact absurd (hNi.2 h) hl;omega);have fin2:=hQ (.exit 0,_,_) (fin hl);try dsimp only
       simp only[f3,reduceCtorEq,zAh];exact fin2
 . cases hv
noncomputable def Xr:cz:=iz io 0 (eb 30 [1,3,5,6] Qx)
def Pk:lB:=λargs ws=>match args,ws with
 | [.agg [.bool ng,.bool lg,.str s,.int .i64 e,.int .i64 g,.str mo,.str da,.int .u8 a,.int .u8 b,.int .u8 c]],[]=>some (aH [aa g 0,kM ng lg s e mo da,Nat.ble (bZ ng s e mo da).length 1000000] (H6 (bZ ng s e mo da)))
 | _,_=>none
def Ml:bh tab 51=some (dC 51,aN 51):=by kernel_rfl
def Jh:(bj (aN 51)).map (·.1)=[0]:=by kernel_rfl
theorem Tl{a:Int}{v:AV}{news:List aE}(h:kM ng lg s e mo da)(hl:Nat.ble (bZ ng s e mo da).length 1000000)(hv:dL [] v news (mh (bZ ng s e mo da),nG (bZ ng s e mo da) (bx ng lg s e 0 mo da a b c))) :
 bt Tryz.prog cfg 51 [.agg [.bool ng,.bool lg,.str s,.int .i64 e,.int .i64 0,.str mo,.str da,.int .u8 a,.int .u8 b,.int .u8 c]] [] v news:=by
 refine Bp LS (L:=Xr) Ml (by simp) (dv Jh λi hi e he st Q hw=>?_) (jT (bA 127070005) (R:=λQ=>aZ ng lg s e 0/\Nat.ble s.length 1000/\k_ s/\kM ng lg s e mo da/\aa (qE ng s e) (qE ng s e)/\aa (je ng s e) (je ng s e)/\Nat.ble (List.length (bZ ng s e mo da)) 1000000/\(∀J1:Nat->Value,Q (Prod.fst (Prod.fst (mh (bZ ng s e mo da),Prod.snd ([.ptr 14 0,mh (bZ ng s e mo da),.int .i64 (qE ng s e),.int .i64 (HAdd.hAdd (je ng s e) (Int.ofNat (yT ng s e)))],nG (bZ ng s e mo da) (.cells [.bool ng,.bool lg,.str s,.int .i64 e,.int .i64 0,.str mo,.str da,.int .u8 a,.int .u8 b,.int .u8 c] true none))),Prod.snd (mh (bZ ng s e mo da),Prod.snd ([.ptr 14 0,mh (bZ ng s e mo da),.int .i64 (qE ng s e),.int .i64 (HAdd.hAdd (je ng s e) (Int.ofNat (yT ng s e)))],nG (bZ ng s e mo da) (.cells [.bool ng,.bool lg,.str s,.int .i64 e,.int .i64 0,.str mo,.str da,.int .u8 a,.int .u8 b,.int .u8 c] true none)))),Prod.snd (Prod.fst (mh (bZ ng s e mo da),Prod.snd ([.ptr 14 0,mh (bZ ng s e mo da),.int .i64 (qE ng s e),.int .i64 (HAdd.hAdd (je ng s e) (Int.ofNat (yT ng s e)))],nG (bZ ng s e mo da) (.cells [.bool ng,.bool lg,.str s,.int .i64 e,.int .i64 0,.str mo,.str da,.int .u8 a,.int .u8 b,.int .u8 c] true none))),Prod.snd (mh (bZ ng s e mo da),Prod.snd ([.ptr 14 0,mh (bZ ng s e mo da),.int .i64 (qE ng s e),.int .i64 (HAdd.hAdd (je ng s e) (Int.ofNat (yT ng s e)))],nG (bZ ng s e mo da) (.cells [.bool ng,.bool lg,.str s,.int .i64 e,.int .i64 0,.str mo,.str da,.int .u8 a,.int .u8 b,.int .u8 c] true none))))))) (λ_=>by kernel_rfl) λQ' hQ=>?_)
 . have hi:i=0:=by simp at hi;omega
   subst hi;cases he;exact b7 (cF.good LS) (by decide) rfl Uk hw
 . have hQ:=hQ _ hv;have h':=h;unfold kM at h';simp only[zAa]at h';have r1:aa (qE ng s e) (qE ng s e)=true:=al.mpr rfl;have r2:aa (je ng s e) (je ng s e)=true:=al.mpr rfl;try dsimp only
   simp only[h,hl,h'.1,h'.2.1,h'.2.2.1,r1,r2,reduceCtorEq,zAh];exact λ_=>hQ
theorem Lq{r:AV×List aE}(h:(H6 C).run=some r):(C.length=0/\r=(.nilslice,[]))\/(0<C.length/\r=(.slice 14 0 C.length (.rest 0),[.cells (bF C) true (some 3)])):=by
 unfold H6 at h;simp only[Tr.run]at h;cases hb:Nat.beq C.length 0 with
 | true=>rw[hb]at h;cases h;exact .inl ⟨aK.mp hb,rfl⟩
 | false=>rw[hb]at h;cases h;rw[cr]at hb;exact .inr ⟨by omega,rfl⟩
theorem PM(hS:ak Tryz.prog cfg S):ak Tryz.prog cfg (fw S 51 (fy 14 [] Pk)):=by
 refine bm hS (ga dG.lv AD λargs ws t r he hr=>?_);unfold Pk at he;split at he
 . rename_i ng lg s e g mo da a b c;cases he;replace hr:=aF hr;obtain⟨⟨k1,k2,k3,-⟩,hr⟩:=hr;rw[al]at k1;subst k1;rcases Lq hr with⟨h0,rfl⟩|⟨h0,rfl⟩
   . refine⟨Tl k2 k3 ?_,λx hx=>by cases hx⟩;rw[(nL (b0:=bx ng lg s e 0 mo da a b c) h0).1,(nL (b0:=bx ng lg s e 0 mo da a b c) h0).2];exact dL.plain rfl (by simp[aD]) rfl rfl
   . refine⟨Tl k2 k3 ?_,λx hx=>?_⟩
     . rw[(jN (b0:=bx ng lg s e 0 mo da a b c) h0).1,(jN (b0:=bx ng lg s e 0 mo da a b c) h0).2];exact dL.last (k:=1) rfl rfl (aO gK) rfl
     . simp only[zAf]at hx;subst hx;exact aO gK
 . cases he
def Rr:dJ:=λargs=>match args with
 | [.int .i64 x]=>some (aH [ae .i64 x] (.test (bR x) λb=>bif b then .ret (.tuple [.agg [.int .i64 (aJ x),.int .i64 (bu x),.int .i64 (sF x)],.int .i64 0])else .ret (.tuple [.agg [.int .i64 0,.int .i64 0,.int .i64 0],.int .i64 6])))
 | _=>none
noncomputable def SF:aR:=aY (aY (aY (aY gX 105 Rr) 106 K2) 90 SR) 104 W9
def QO:dJ:=λargs=>match args with
 | [.agg [.bool ng,.bool lg,.str s,.int .i64 e,.int .i64 g,.str mo,.str da,.int .u8 a,.int .u8 b,.int .u8 c],.int .i64 x]=>some (aH [Nat.ble s.length 1000,Nat.ble mo.length 1000,Nat.ble da.length 1000,ae .i64 e,aa g 0,ae .u8 a,ae .u8 b,ae .u8 c,ae .i64 x,aa (bJ ng lg s e g mo da a b c) 0,ba (s++mo++da)] (.ret (.bool (bR x&&s6 ng s e mo da x))))
 | _=>none
def VB(x:Int){Q:AV->Prop}:fx Q (pT R6 io 105 [.int .i64 x]) (bA 100101041010442200420)=((λ(A:AV)(E F:Int)=>(λ(B C:AV)(G:Int)=>(λ(N:Bool)(H I:Int)=>(λ(O P:Bool)=>ae .i64 x/\(bR x->eB E/\qD F/\(N->(O->Q (.tuple [.agg [B,C,.int .i64 H],A]))/\(O=false->Q (.tuple [.agg [B,C,.int .i64 (IntKind.wrap .i64 H)],A])))/\(N=false->(P->Q (.tuple [.agg [B,C,.int .i64 I],A]))/\(P=false->Q (.tuple [.agg [B,C,.int .i64 (IntKind.wrap .i64 I)],A]))))/\(bR x=false->Q (.tuple [.agg [A,A,A],.int .i64 6]))) (ae .i64 H) (ae .i64 I)) (ae .i64 G) (Int.add G 1) (Int.add (IntKind.wrap .i64 G) 1)) (.int .i64 E) (.int .i64 F) (Int.sub x (aG E F))) (.int .i64 0) (aJ x) (bu x)):=by kernel_rfl
def E0:bh tab 105=some (dC 105,aN 105):=by kernel_rfl
theorem LF(x:Int):1<=sF x/\sF x<=31:=by
 have sp:=Go.Proofs.YtoghlpcacfnjbaaGreatDoor.mOf_spec x;have s:=@pQ (aJ x) (bu x) sp.1 sp.2.1;have b:=iF (aJ x) (bu x);have h1:aG (aJ x) (bu x)<=x:=sp.2.2.1;have h2:x<aG (aJ x) (bu x+1):=sp.2.2.2;unfold sF;omega
theorem Rx(hS:ak Tryz.prog cfg S):ak Tryz.prog cfg (aY S 105 Rr):=au hS λargs t v he hv=>by
 unfold Rr at he;split at he
 . rename_i x;cases he;replace hv:=aF hv;obtain⟨⟨h1,-⟩,hv⟩:=hv;simp only[Tr.run]at hv;cases hc:bR x with
   | false=>
     rw[hc]at hv;cases hv;refine kw FK (L:=io) E0 (by simp) ag (dD λQ' hQ=>bG ((VB x).mpr ?_)) (by simp[aD,bz]);dsimp only;have hQ:=hQ _ rfl;simp only[h1,hc,reduceCtorEq,zAh];exact hQ
   | true=>
     rw[hc]at hv;cases hv;refine kw FK (L:=io) E0 (by simp) ag (dD λQ' hQ=>bG ((VB x).mpr ?_)) (by simp[aD,bz]);dsimp only;have hQ:=hQ _ rfl;have cb:=g8 hc;have di:=LF x;unfold sF at di;have k1:eB (aJ x)=true:=bV.2 cb.1;have k2:qD (bu x)=true:=gz.2 cb.2.1;have k3:ae .i64 (Int.sub x (aG (aJ x) (bu x)))=true:=by rw[aB];simp only[dP,dR];show _<=x-aG (aJ x) (bu x)/\x-aG (aJ x) (bu x)<=_;omega
     have k4:ae .i64 (Int.add (Int.sub x (aG (aJ x) (bu x))) 1)=true:=by rw[aB];simp only[dP,dR];show _<=x-aG (aJ x) (bu x)+1/\x-aG (aJ x) (bu x)+1<=_;omega
     simp only[h1,hc,k1,k2,k3,k4,reduceCtorEq,zAh];exact hQ
 . cases he
theorem Ng{a:Int}(hE:bJ ng lg s e 0 mo da a b c=0)(h:gB ng s e mo da y m d):rz ng s e mo da y (cM mo m) (cD da d):=by
 obtain⟨ho,hX,_⟩:=fm (iG hE) fo;rw[AT ho hX]at h;obtain⟨m1,d1,hF,h1,h2⟩:=h;have hs:=jg hE hF;have e1:cM mo m=m1:=by
  unfold cM;by_cases h0:mo=[]
  . rw[aP.2 h0,cond_true];rcases hs with h|h|h
    . omega
    . exact absurd h0 h.1
    . exact absurd h0 h.1
  . rw[show af mo []=false by rw[<-Bool.not_eq_true,aP];exact h0,cond_false];rcases h1 with h1|h1
    . exact absurd h1 h0
    . exact h1.symm
 have e2:cD da d=d1:=by
  unfold cD;by_cases h0:da=[]
  . rw[aP.2 h0,cond_true];rcases hs with h|h|⟨_,_,_,h|h⟩
    . omega
    . omega
    . omega
    . exact absurd h0 h.1
  . rw[show af da []=false by rw[<-Bool.not_eq_true,aP];exact h0,cond_false];rcases h2 with h2|h2
    . exact absurd h2 h0
    . exact h2.symm
 rw[e1,e2];exact hF
theorem qu{a:Int}(hE:bJ ng lg s e 0 mo da a b c=0)(hX:ba (s++mo++da))(hm:af mo []\/1<=m)(hd:0<=d/\d<=31)(hd1:af da []\/1<=d) :
 (!(gB ng s e mo da y m d) || M_ mo da y m d)/\(gB ng s e mo da y m d->ae .i64 (jQ y (cM mo m) (cD da d))/\ae .i64 (jV y (cM mo m) (cD da d))/\aa (a_ 0 (jQ y (cM mo m) (cD da d)) 0 (jV y (cM mo m) (cD da d))) 0=true):=by
 cases h:gB ng s e mo da y m d with
 | false=>exact⟨rfl,λh=>by cases h⟩
 | true=>
   have ok:=Cs hE hX (Ng hE h);have bd:=OO ok;refine⟨by rw[Bool.not_true,Bool.false_or];exact Gq.2 ⟨ok,hm,hd,hd1⟩,λ_=>⟨?_,?_,al.mpr (Jw bd.2.1)⟩⟩
   . rw[aB];simp only[dP,dR];omega
   . rw[aB];simp only[dP,dR];omega
theorem rK{x:Int}:co 0 (jQ y m d) 0 (jV y m d) x=tw y m d x:=by
 rw[Bool.eq_iff_iff,qM];unfold co;rw[zAb];omega
theorem LG:ak Tryz.prog cfg SF:=Pb (Sg (bm (Rx aV) (BU 106 _ rfl)))
theorem Yb{a x:Int}(h1:Nat.ble s.length 1000)(h2:Nat.ble mo.length 1000)(h3:Nat.ble da.length 1000)(h4:ae .i64 e)(h5:ae .u8 a)(h6:ae .u8 b)(h7:ae .u8 c)(h8:ae .i64 x)(hE:bJ ng lg s e 0 mo da a b c=0)(hX:ba (s++mo++da)) :
 bt Tryz.prog cfg 59 [.agg [.bool ng,.bool lg,.str s,.int .i64 e,.int .i64 0,.str mo,.str da,.int .u8 a,.int .u8 b,.int .u8 c],.int .i64 x] [] (.bool (bR x&&s6 ng s e mo da x)) []:=by
 have h9:=al.mpr hE;have di:=LF x;have mi:=qz x;cases hc:bR x with
 | false=>
   refine kP LG ag (bA 100320) (R:=λQ=>ae .i64 x/\bR x=false/\Q (.bool false)) (λ_=>by kernel_rfl) λQ' hQ=>?_;simp only[h8,hc,reduceCtorEq,zAh];exact hQ
 | true=>
   have cb:=g8 hc;have y1:ae .i64 (aJ x)=true:=by rw[aB];simp only[dP,dR];omega
   have y2:ae .i64 (Int.sub (aJ x) 1)=true:=by rw[aB];simp only[dP,dR];show _<=aJ x-1/\aJ x-1<=_;omega
   rw[Bool.true_and];unfold s6 tU;cases hs:aa (aL mo) 0 with
   | true=>
     obtain⟨f1,f2⟩:=qu (y:=aJ x) (m:=bu x) (d:=sF x) hE hX (.inr mi.1) (by omega) (.inr di.1);refine kP LG ag (bA 155100140276477027000663702700056220) (R:=λQ=>(λ(H I N:Bool)(A B C:Int)(O:Prop)=>(λ(E:Bool)(F G:Int)=>(λ(P:Bool)=>(λ(T:Prop->Prop)=>ae .i64 x/\bR x/\T (not (aa (aL mo) 0)=false/\T (ae .i64 A/\aa (bJ ng lg s e 0 mo da a b c) 0/\or (not E) (M_ mo da A B C)/\(E->ae .i64 F/\ae .i64 G/\ae .i64 x/\aa (a_ 0 F 0 G) 0/\(P->Q (.bool true))/\(P=false->O))/\(E=false->O)))) (λu0=>H/\I/\N/\ae .i64 e/\ae .u8 a/\ae .u8 b/\ae .u8 c/\u0)) (co 0 F 0 G x)) (gB ng s e mo da A B C) (jQ A (cM mo B) (cD da C)) (jV A (cM mo B) (cD da C))) (Nat.ble s.length 1000) (Nat.ble mo.length 1000) (Nat.ble da.length 1000) (aJ x) (bu x) (sF x) (Q (.bool false))) (λ_=>by kernel_rfl) λQ' hQ=>?_;try dsimp only
     rw[cond_true]at hQ;rw[rK];generalize tw (aJ x) (cM mo (bu x)) (cD da (sF x)) x=iu at *;cases k:gB ng s e mo da (aJ x) (bu x) (sF x)with
     | false=>
       rw[k]at hQ f1;simp only[h1,h2,h3,h4,h5,h6,h7,h8,h9,hc,hs,y1,k,f1,Bool.not_true,reduceCtorEq,zAh];exact hQ
     | true=>
       rw[k]at hQ f1;rw[Bool.not_true,Bool.false_or]at f1;obtain⟨g1,g2,g3⟩:=f2 k;cases iu<;>simp only[h1,h2,h3,h4,h5,h6,h7,h8,h9,hc,hs,y1,k,f1,g1,g2,g3,Bool.not_true,Bool.false_or,Bool.true_and,reduceCtorEq,zAh]at hQ ⊢<;>exact hQ
   | false=>
     have hm1:1<=aL mo:=by have:=yc mo;rw[ay]at hs;omega
     have hda:af da []=true:=by
      cases hd:af da []with
      | true=>rfl
      | false=>
        obtain⟨m0,m1,d0,d1,rfl,rfl,_,_,_,_,_,_,hse,_⟩:=iT (iG hE) hd;rw[hse]at hm1;exact absurd hm1 (by decide)
     obtain⟨f1,f2⟩:=qu (y:=aJ x) (m:=aL mo) (d:=0) hE hX (.inr hm1) (by omega) (.inl hda);obtain⟨f3,f4⟩:=qu (y:=Int.sub (aJ x) 1) (m:=aL mo) (d:=0) hE hX (.inr hm1) (by omega) (.inl hda);refine kP LG ag (bA 1551001402764770270666155100140276477027566140276477027000662002702700056220) (R:=λQ=>(λ(G H I N O P T U u2:Bool)(A B E:Int)(u3 u4:Prop)=>(λ(V:Bool)(C F:Int)=>(λ(Z u5:Bool)(W Y u0 u1:Int)=>(λ(u6 u7:Bool)=>(λ(u9:Prop)=>(λ(ua:Prop->Prop)=>G/\bR x/\ua (not (aa A 0)/\u5/\ua (ae .i64 B/\u2/\or (not V) (M_ mo da B A 0)/\(V->ae .i64 W/\ae .i64 Y/\G/\aa (a_ 0 W 0 Y) 0/\(u6->u3)/\(u6=false->u9))/\(V=false->u9)))) (λub=>H/\I/\N/\O/\P/\T/\U/\ub)) (H/\I/\N/\O/\P/\T/\U/\u5/\u2/\or (not Z) (M_ mo da C A 0)/\(Z->ae .i64 u0/\ae .i64 u1/\G/\aa (a_ 0 u0 0 u1) 0/\(u7->u3)/\(u7=false->u4))/\(Z=false->u4))) (co 0 W 0 Y x) (co 0 u0 0 u1 x)) (gB ng s e mo da C A 0) (ae .i64 C) (jQ B F E) (jV B F E) (jQ C F E) (jV C F E)) (gB ng s e mo da B A 0) (Int.sub B 1) (cM mo A)) (ae .i64 x) (Nat.ble s.length 1000) (Nat.ble mo.length 1000) (Nat.ble da.length 1000) (ae .i64 e) (ae .u8 a) (ae .u8 b) (ae .u8 c) (aa (bJ ng lg s e 0 mo da a b c) 0) (aL mo) (aJ x) (cD da 0) (Q (.bool true)) (Q (.bool false))) (λ_=>by kernel_rfl) λQ' hQ=>?_;try dsimp only
     have ec:cD da 0=0:=by unfold cD;rw[hda];rfl
     rw[cond_false,show aJ x-1=Int.sub (aJ x) 1 from rfl]at hQ;rw[rK,rK];generalize tw (aJ x) (cM mo (aL mo)) (cD da 0) x=iu at *;generalize tw (Int.sub (aJ x) 1) (cM mo (aL mo)) (cD da 0) x=iw at *;clear ec hda hE hX hm1 di mi cb;cases k:gB ng s e mo da (aJ x) (aL mo) 0<;>cases k':gB ng s e mo da (Int.sub (aJ x) 1) (aL mo) 0<;>rw[k]at hQ f1 f2<;>rw[k']at hQ f3 f4<;>(try obtain⟨g1,g2,g3⟩:=f2 rfl)<;>(try obtain⟨g4,g5,g6⟩:=f4 rfl)<;>clear f2 f4<;>(try simp only[Bool.not_true,Bool.false_or]at f1)<;>(try simp only[Bool.not_true,Bool.false_or]at f3)<;>cases iu<;>cases iw<;>simp only[*,Bool.not_true,Bool.not_false,Bool.true_and,Bool.false_and,Bool.or_true,Bool.true_or,Bool.or_false,Bool.false_or,reduceCtorEq,zAh]at hQ ⊢<;>exact hQ
theorem RD(hS:ak Tryz.prog cfg S):ak Tryz.prog cfg (aY S 59 QO):=au hS λargs t v he hv=>by
 unfold QO at he;split at he
 . rename_i ng lg s e g mo da a b c x;cases he;replace hv:=aF hv;obtain⟨⟨h1,h2,h3,h4,h5,h6,h7,h8,h9,h10,h11,-⟩,hv⟩:=hv;rw[al]at h5 h10;subst h5;cases hv;exact Yb h1 h2 h3 h4 h6 h7 h8 h9 h10 h11
 . cases he
end Go.Ev
