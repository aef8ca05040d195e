import Derived.Test.YtoghlpcacfnjbaaGreatDoorP30
import Derived.Test.YtoghlpcacfnjbaaGreatDoorP27
set_option linter.all false
set_option maxRecDepth 100000
set_option maxHeartbeats 4000000
namespace Go.Ev
open Go Go.Proofs
variable{y x e g b c d:Int}{ng lg:Bool}{s mo da:List UInt8}{S:aR}
def yN(d0 d1:UInt8)(y:Int)(w:List AV):Nat->Nat
 | 0=>0
 | i+1=>yN d0 d1 y w i+(j6 d0 d1 y (cQ w i)).length
def yL(d0 d1:UInt8)(y:Int)(w:List AV):Nat->List AV
 | 0=>[]
 | i+1=>yL d0 d1 y w i++dU y (cQ w i) (j6 d0 d1 y (cQ w i))
def JJ:d9:=λvs o=>match vs,o with
 | [.int .i64 y,.ptr 14 0,.nilslice,.slice 15 0 nM (.rest 0),.int .i64 i],⟨2,[.cells w true (some 1),.cells [.bool ng,.bool lg,.str s,.int .i64 e,.int .i64 g,.str mo,.str [d0,d1],.int .u8 a,.int .u8 b,.int .u8 c] true none],[]⟩=>
   some (aH [aa i 0,Nat.ble nM 1000,gh y,cg d0,cg d1,e_ w,List.all w (cq .i64),Nat.beq w.length nM] (.ret (.exit 0,[.int .i64 y,.ptr 14 0,e7 (yN d0 d1 y w nM),.slice 15 0 nM (.rest 0),.int .i64 (Int.ofNat nM)],gV (yN d0 d1 y w nM) (yL d0 d1 y w nM) (.cells w true (some 1)) (bx ng lg s e g mo [d0,d1] a b c))))
 | _,_=>none
def YY:cz:=iz io 0 (eb 55 [1,2,5,6,7] JJ)
theorem fi:gh y=true↔-10000000000000000<=y/\y<=10000000000000000:=by unfold gh;rw[zAa,ao,ao]
theorem RC:cx Tryz.prog (cH cfg Z1) (Cw cfg []) (lb 93 1) 55 [1,2,5,6,7,8] K_:=by
 intro vs o t Q hv hq J;unfold K_ at hv;split at hv
 . rename_i y nM i d w ng lg s e g mo d0 d1 a b c;cases hv;replace hq:=cL hq;obtain⟨⟨k1,k2,k3,k4,k5,k6,k7,k8,k9,-⟩,hq⟩:=hq;rw[al]at k1;rw[ao]at k2;rw[aS]at k3;rw[aq]at k4;rw[fi]at k5;subst k1;obtain⟨k,rfl⟩:∃k:Nat,i=Int.ofNat k:=⟨i.toNat,(Int.toNat_of_nonneg k2).symm⟩;exact I6 k5 k3 k4 k8 k9 hq
 . rename_i y n nM i d cs w ng lg s e g mo d0 d1 a b c;cases hv;replace hq:=cL hq;obtain⟨⟨k1,k2,k3,k4,k5,k6,k7,k8,k9,k10,k11,k12,k13,-⟩,hq⟩:=hq;rw[al]at k1;rw[ao]at k2;rw[aS]at k3 k11;rw[aq]at k4 k12;rw[aK]at k10;rw[fi]at k5;subst k1;obtain⟨k,rfl⟩:∃k:Nat,i=Int.ofNat k:=⟨i.toNat,(Int.toNat_of_nonneg k2).symm⟩;exact LP k5 k3 k4 k8 k9 k10 k12 k13 hq
 . cases hv
theorem OV{d0 d1:UInt8}{y:Int}{w:List AV}:∀{i:Nat},yN d0 d1 y w i<=31*i
 | 0=>Nat.le_refl _
 | i+1=>by
   have:=OV (d0:=d0) (d1:=d1) (y:=y) (w:=w) (i:=i);have h1:=eU d0 d1 (bP y (cQ w i)).toNat;have h2:=jl y (cQ w i);rw[yN];unfold j6;omega
theorem J9{d0 d1:UInt8}{y:Int}{w:List AV}:∀{i:Nat},(yL d0 d1 y w i).length=yN d0 d1 y w i*3
 | 0=>rfl
 | i+1=>by rw[yL,yN,zAg,J9,qQ];omega
theorem KD{d0 d1:UInt8}{y:Int}{w:List AV}:∀{i:Nat},bz (yL d0 d1 y w i)=[]
 | 0=>rfl
 | i+1=>by rw[yL,gu,KD,nU];rfl
theorem PO:cx Tryz.prog (cH cfg Z1) (Cw cfg []) (lb 93 0) 55 [1,2,5,6,7] JJ:=by
 intro vs o t Q hv hq J;unfold JJ at hv;split at hv
 . rename_i y nM i w ng lg s e g mo d0 d1 a b c;cases hv;replace hq:=cL hq;obtain⟨⟨k1,k2,k3,k4,k5,k6,k7,k8,-⟩,hq⟩:=hq;rw[al]at k1;rw[aq]at k2;rw[fi]at k3;rw[aK]at k8;subst k1;have hq:Q (.exit 0,[.int .i64 y,.ptr 14 0,e7 (yN d0 d1 y w nM),.slice 15 0 nM (.rest 0),.int .i64 (Int.ofNat nM)],gV (yN d0 d1 y w nM) (yL d0 d1 y w nM) (.cells w true (some 1)) (bx ng lg s e g mo [d0,d1] a b c)):=hq;have lok:qv Tryz.prog (cH cfg Z1) (Cw cfg []) TY (lb 93 0):=by
    refine dv G4 λi hi e he st Q hw=>?_;have hi:i=0:=by simp at hi;omega
    subst hi;cases he;rw[Jp];exact b7 (cF.good q6) (by decide) rfl RC hw
   refine im q6 rfl rfl lok (ι:={i:Nat // i<=nM}) (λx=>[.int .i64 y,.ptr 14 0,e7 (yN d0 d1 y w x.1),.slice 15 0 nM (.rest 0),.int .i64 (Int.ofNat x.1)]) (λx=>gV (yN d0 d1 y w x.1) (yL d0 d1 y w x.1) (.cells w true (some 1)) (bx ng lg s e g mo [d0,d1] a b c)) (λx=>nM-x.1) 2 (λx=>DW) (λx J=>?_) (Nat.le_refl _) (λJ=>Wk.refl ⟨⟨0,Nat.zero_le _⟩,J,rfl⟩) J;obtain⟨i,hi⟩:=x;dsimp only;have wl:cR (14+2) (.cells w true (some 1)):=aO (fY.1 k6);have bl:cR (14+2) (bx ng lg s e g mo [d0,d1] a b c):=aO (by simp[bz,aD]);have hkA:i<nM->cq .i64 (w.getD i (.tuple []))=true:=λh=>by
    rw[zAe,List.getElem?_eq_getElem (by omega)];exact List.all_eq_true.1 k7 _ (List.getElem_mem _)
   have fin:i=nM->∃vs2 o2,VW cfg (Cw cfg []) 2 55 [1,2,5,6,7] [.int .i64 y,.ptr 14 0,e7 (yN d0 d1 y w i),.slice 15 0 nM (.rest 0),.int .i64 (Int.ofNat i)] (gV (yN d0 d1 y w i) (yL d0 d1 y w i) (.cells w true (some 1)) (bx ng lg s e g mo [d0,d1] a b c)) vs2 o2/\Q (.exit 0,vs2,o2):=λh=>by
    subst h;exact⟨_,_,VW.refl,hq⟩
   have go:i<nM->∀vs o,VW cfg (Cw cfg []) 2 55 [1,2,5,6,7] vs o [.int .i64 y,.ptr 14 0,e7 (yN d0 d1 y w (i+1)),.slice 15 0 nM (.rest 0),.int .i64 (Int.ofNat (i+1))] (gV (yN d0 d1 y w (i+1)) (yL d0 d1 y w (i+1)) (.cells w true (some 1)) (bx ng lg s e g mo [d0,d1] a b c))->∃x:{i:Nat // i<=nM},nM-x.1<nM-i/\VW cfg (Cw cfg []) 2 55 [1,2,5,6,7] vs o [.int .i64 y,.ptr 14 0,e7 (yN d0 d1 y w x.1),.slice 15 0 nM (.rest 0),.int .i64 (Int.ofNat x.1)] (gV (yN d0 d1 y w x.1) (yL d0 d1 y w x.1) (.cells w true (some 1)) (bx ng lg s e g mo [d0,d1] a b c)):=λhle vs o hv=>⟨⟨i+1,by omega⟩,by dsimp only;omega,hv⟩;have hle:=@OV d0 d1 y w i;have hlen:=@J9 d0 d1 y w i;have hids:=@KD d0 d1 y w i;rw[yN,yL]at go;clear hq;by_cases hN:yN d0 d1 y w i=0
   . have hC:yL d0 d1 y w i=[]:=List.eq_nil_of_length_eq_zero (by rw[hlen,hN]);rw[hN,hC]at fin go ⊢;rw[Nat.zero_add,List.nil_append]at go;refine jT (bA 11122422754) (R:=λQ=>(λ(N O:aE)(B C F:AV)(I:Bool)(A E:Int)=>(λ(G:AV)(P:Bool)(T:Int)(U:List Int)=>(λ(H:AV)(V:Nat)=>(P->aW i nM/\Nat.ble nM 1000/\and (ab (Neg.neg 10000000000000000) y) (ab y 10000000000000000)/\cg d0/\cg d1/\(I->e_ w/\(∀J1:Nat->Value,ae .i64 T/\Q (.normal,[B,C,e7 V,F,H],Prod.snd (H,Prod.snd (H,Prod.snd (G,Prod.snd ([B,C,e7 V,F,G,.int .i64 (HAdd.hAdd (bP y E) 1)],gV V (dU y E U) N O)))))))/\(I=false->False))/\(P=false->Q (.exit 0,[B,C,.nilslice,F,G],⟨2,[N,O],[]⟩))) (.int .i64 T) U.length) (.int .i64 A) (not (ab (Int.ofNat nM) A)) (Int.add A 1) (j6 d0 d1 y E)) (.cells w true (some 1)) (.cells [.bool ng,.bool lg,.str s,.int .i64 e,.int .i64 g,.str mo,.str [d0,d1],.int .u8 a,.int .u8 b,.int .u8 c] true none) (.int .i64 y) (.ptr 14 0) (.slice 15 0 nM (eZ.rest 0)) (cq .i64 (List.getD w i (.tuple []))) (Int.ofNat i) (cQ w i)) (λ_=>by kernel_rfl) λQ' hQ=>?_;try dsimp only
     have fin2:i=nM->Q' (.exit 0,[.int .i64 y,.ptr 14 0,.nilslice,.slice 15 0 nM (.rest 0),.int .i64 (Int.ofNat i)],⟨2,[.cells w true (some 1),bx ng lg s e g mo [d0,d1] a b c],[]⟩):=λh=>hQ _ (fin h);have go2:i<nM->Q' (.normal,[.int .i64 y,.ptr 14 0,e7 (j6 d0 d1 y (cQ w i)).length,.slice 15 0 nM (.rest 0),.int .i64 (Int.ofNat (i+1))],gV (j6 d0 d1 y (cQ w i)).length (dU y (cQ w i) (j6 d0 d1 y (cQ w i))) (.cells w true (some 1)) (bx ng lg s e g mo [d0,d1] a b c)):=λh=>hQ (.normal,_,_) (go h _ _ VW.refl);clear hQ go fin;generalize j6 d0 d1 y (cQ w i)=D at *;generalize cQ w i=m at *;simp only[az,reduceCtorEq]
     (repeat' first|exact trivial|refine⟨?_,?_⟩|intro)<;>first|contradiction|omega|assumption|exact fin2 (by omega)|exact go2 (by omega)|exact hkA (by omega)|(exfalso;have:=hkA (by omega);simp_all;done)
   . have hpos:0<yN d0 d1 y w i:=by omega
     rw[fQ hpos,fT hpos]at fin;rw[fQ hpos,fT hpos];refine jT (bA 11177422754) (R:=λQ=>(λ(N O:aE)(B C F:AV)(I:Bool)(A E:Int)=>(λ(G:AV)(P:Bool)(T:Int)(U:List Int)=>(λ(H:AV)(V:Nat)=>(P->aW i nM/\Nat.ble nM 1000/\and (ab (Neg.neg 10000000000000000) y) (ab y 10000000000000000)/\cg d0/\cg d1/\(I->e_ w/\Nat.beq (yL d0 d1 y w i).length (HMul.hMul (yN d0 d1 y w i) 3)/\aW 0 (yN d0 d1 y w i)/\Nat.ble (yN d0 d1 y w i) 40000/\e_ (yL d0 d1 y w i)/\(∀J1:Nat->Value,ae .i64 T/\Q (.normal,[B,C,yS (yN d0 d1 y w i) V,F,H],Prod.snd (H,Prod.snd (H,Prod.snd (G,Prod.snd ([B,C,yS (yN d0 d1 y w i) V,F,G,.int .i64 (HAdd.hAdd (bP y E) 1)],yZ V (yL d0 d1 y w i) ((yL d0 d1 y w i)++(dU y E U)) N O)))))))/\(I=false->False))/\(P=false->Q (.exit 0,[B,C,.slice 16 0 (yN d0 d1 y w i) (eZ.rest 0),F,G],⟨3,[.cells (yL d0 d1 y w i) true (some 3),N,O],[]⟩))) (.int .i64 T) U.length) (.int .i64 A) (not (ab (Int.ofNat nM) A)) (Int.add A 1) (j6 d0 d1 y E)) (.cells w true (some 1)) (.cells [.bool ng,.bool lg,.str s,.int .i64 e,.int .i64 g,.str mo,.str [d0,d1],.int .u8 a,.int .u8 b,.int .u8 c] true none) (.int .i64 y) (.ptr 14 0) (.slice 15 0 nM (eZ.rest 0)) (cq .i64 (List.getD w i (.tuple []))) (Int.ofNat i) (cQ w i)) (λ_=>by kernel_rfl) λQ' hQ=>?_;try dsimp only
     have fin2:i=nM->Q' (.exit 0,[.int .i64 y,.ptr 14 0,.slice 16 0 (yN d0 d1 y w i) (.rest 0),.slice 15 0 nM (.rest 0),.int .i64 (Int.ofNat i)],⟨3,[.cells (yL d0 d1 y w i) true (some 3),.cells w true (some 1),bx ng lg s e g mo [d0,d1] a b c],[]⟩):=λh=>hQ _ (fin h);have go2:i<nM->Q' (.normal,[.int .i64 y,.ptr 14 0,yS (yN d0 d1 y w i) (j6 d0 d1 y (cQ w i)).length,.slice 15 0 nM (.rest 0),.int .i64 (Int.ofNat (i+1))],yZ (j6 d0 d1 y (cQ w i)).length (yL d0 d1 y w i) (yL d0 d1 y w i++dU y (cQ w i) (j6 d0 d1 y (cQ w i))) (.cells w true (some 1)) (bx ng lg s e g mo [d0,d1] a b c)):=λh=>hQ (.normal,_,_) (go h _ _ (by
      have hti:=@nU y (cQ w i) (j6 d0 d1 y (cQ w i));generalize j6 d0 d1 y (cQ w i)=D at *;generalize yL d0 d1 y w i=C at *;generalize yN d0 d1 y w i=N at *;cases D with
      | nil=>
        simp only[List.length_nil,Nat.add_zero,dU,List.append_nil];rw[fQ hpos,fT hpos];exact VW.refl
      | cons z zs=>
        have hp2:0<N+(z::zs).length:=by omega
        rw[fQ hp2,fT hp2];exact fu (tn:=55) (rel:=[1,2,5,6,7]) (vs:=[.int .i64 y,.ptr 14 0,.slice 17 0 (N+(z::zs).length) (.rest 0),.slice 15 0 nM (.rest 0),.int .i64 (Int.ofNat (i+1))]) (vs':=[.int .i64 y,.ptr 14 0,.slice 16 0 (N+(z::zs).length) (.rest 0),.slice 15 0 nM (.rest 0),.int .i64 (Int.ofNat (i+1))]) (x:=.cells (C++dU y (cQ w i) (z::zs)) true (some 3)) (mid:=[.dead]) (B:=[.cells w true (some 1),bx ng lg s e g mo [d0,d1] a b c]) (k:=1) (kb:=2) (n:=4) rfl rfl rfl (λz hz=>by
         simp only[List.mem_cons,List.not_mem_nil,or_false]at hz;rcases hz with rfl|rfl
         . exact wl
         . exact bl) (aO (by rw[gu,hids,hti];rfl)) rfl))
     clear hQ go fin;have hids2:=fY.2 hids;clear hids;generalize j6 d0 d1 y (cQ w i)=D at *;generalize cQ w i=m at *;generalize yL d0 d1 y w i=C at *;generalize yN d0 d1 y w i=N at *;simp only[az,reduceCtorEq]
     (repeat' first|exact trivial|refine⟨?_,?_⟩|intro)<;>first|contradiction|omega|assumption|exact fin2 (by omega)|exact go2 (by omega)|exact hkA (by omega)|(exfalso;have:=hkA (by omega);simp_all;done)
 . cases hv
theorem rB{M:List Int}:e_ (aQ M)=true:=by
 rw[fY];unfold aQ;induction M with
 | nil=>rfl
 | cons x xs ih=>simp only[List.map_cons,bz,aD,List.nil_append];exact ih
theorem N_{ng lg:Bool}{s:List UInt8}{e g:Int}{m0 m1 d0 d1:UInt8}{a b c y:Int}{v:AV}{news:List aE}(hy : -10000000000000000<=y/\y<=10000000000000000)(h0:cg m0)(h1:cg m1)(h2:cg d0)(h3:cg d1)(hse:aa (aL [m0,m1]) 0)(hn:g9 (aw m0 m1 12)=false)
 (hv:dL [] v news (e7 (yN d0 d1 y (aQ (aw m0 m1 12)) (dy (aw m0 m1 12))),gV (yN d0 d1 y (aQ (aw m0 m1 12)) (dy (aw m0 m1 12))) (yL d0 d1 y (aQ (aw m0 m1 12)) (dy (aw m0 m1 12))) (.cells (aQ (aw m0 m1 12)) true (some 1)) (bx ng lg s e g [m0,m1] [d0,d1] a b c))) :
 bt Tryz.prog cfg 93 [.agg [.bool ng,.bool lg,.str s,.int .i64 e,.int .i64 g,.str [m0,m1],.str [d0,d1],.int .u8 a,.int .u8 b,.int .u8 c],.int .i64 y] [] v news:=by
 refine Bp q6 (L:=YY) FU (by simp) (dv BS λi hi e he st Q hw=>?_) (jT (bA 1111144474027006) (R:=λQ=>(λ(C:List Int)=>(λ(B:List AV)(A:Nat)=>(λ(E F:Bool)(G:Nat)=>cg m0/\cg m1/\aa (aL [m0,m1]) 0/\not (g9 C)/\(E->and (ab (Neg.neg 10000000000000000) y) (ab y 10000000000000000)/\cg d0/\cg d1/\(e_ B->(List.all B (cq .i64)->(F->(∀J1:Nat->Value,Q (Prod.fst (Prod.fst (e7 G,Prod.snd ([.int .i64 y,.ptr 14 0,e7 G,.slice 15 0 A (eZ.rest 0),.int .i64 (Int.ofNat A)],gV G (yL d0 d1 y B A) (.cells B true (some 1)) (.cells [.bool ng,.bool lg,.str s,.int .i64 e,.int .i64 g,.str [m0,m1],.str [d0,d1],.int .u8 a,.int .u8 b,.int .u8 c] true none))),Prod.snd (e7 G,Prod.snd ([.int .i64 y,.ptr 14 0,e7 G,.slice 15 0 A (eZ.rest 0),.int .i64 (Int.ofNat A)],gV G (yL d0 d1 y B A) (.cells B true (some 1)) (.cells [.bool ng,.bool lg,.str s,.int .i64 e,.int .i64 g,.str [m0,m1],.str [d0,d1],.int .u8 a,.int .u8 b,.int .u8 c] true none)))),Prod.snd (Prod.fst (e7 G,Prod.snd ([.int .i64 y,.ptr 14 0,e7 G,.slice 15 0 A (eZ.rest 0),.int .i64 (Int.ofNat A)],gV G (yL d0 d1 y B A) (.cells B true (some 1)) (.cells [.bool ng,.bool lg,.str s,.int .i64 e,.int .i64 g,.str [m0,m1],.str [d0,d1],.int .u8 a,.int .u8 b,.int .u8 c] true none))),Prod.snd (e7 G,Prod.snd ([.int .i64 y,.ptr 14 0,e7 G,.slice 15 0 A (eZ.rest 0),.int .i64 (Int.ofNat A)],gV G (yL d0 d1 y B A) (.cells B true (some 1)) (.cells [.bool ng,.bool lg,.str s,.int .i64 e,.int .i64 g,.str [m0,m1],.str [d0,d1],.int .u8 a,.int .u8 b,.int .u8 c] true none)))))))/\(F=false->False))/\(List.all B (cq .i64)=false->False))/\(e_ B=false->False))/\(E=false->False)) (Nat.ble A 1000) (Nat.beq B.length A) (yN d0 d1 y B A)) (aQ C) (dy C)) (aw m0 m1 12)) (λ_=>by kernel_rfl) λQ' hQ=>?_)
 . have hi:i=0\/i=1:=by simp at hi;omega
   rcases hi with rfl|rfl
   . cases he;exact b7 (cF.good q6) (by decide) rfl PO hw
   . cases he
 . have hQ:=hQ _ hv;dsimp only;have l1:dy (aw m0 m1 12)=(aw m0 m1 12).length:=rfl;have z1:=eU m0 m1 12;have c1:=@rB (aw m0 m1 12);have c2:=@gR (aw m0 m1 12);have c3:(aQ (aw m0 m1 12)).length=dy (aw m0 m1 12):=dF;have z2:dy (aw m0 m1 12)<=1000:=by omega
   have n2:(!(g9 (aw m0 m1 12)))=true:=by rw[hn];rfl
   have yb:=fi.2 hy;clear hv hn l1 z1;generalize aL [m0,m1]=sr at *;generalize aw m0 m1 12=M at *;generalize yL d0 d1 y (aQ M) (dy M)=C at *;generalize yN d0 d1 y (aQ M) (dy M)=N at *;generalize e7 N=oN at *;generalize aQ M=cM at *;generalize dy M=lM at *;refine⟨h0,h1,hse,n2,λ_=>⟨yb,h2,h3,λ_=>⟨λ_=>⟨λ_=>λJ1=>hQ,λh=>?_⟩,λh=>?_⟩,λh=>?_⟩,λh=>?_⟩
   . rw[cr]at h;exact h c3
   . rw[c2]at h;cases h
   . rw[c1]at h;cases h
   . rw[<-Bool.not_eq_true,aq]at h;exact h z2
theorem FN{c0 c1 c2 c3:UInt8}(hx:48<=x/\x<=57)(h0:cg c0)(h1:cg c1)(h2:cg c2)(h3:cg c3):0<=gj c0 c1 c2 c3 x/\gj c0 c1 c2 c3 x<=9999:=by
 have d:∀c:UInt8,cg c->0<=lu c x/\lu c x<=9:=λc h=>by
  rw[dp]at h;unfold lu;by_cases e:c.toNat=88
  . rw[gb e,cond_true];omega
  . rw[g7 e,cond_false];omega
 have:=d c0 h0;have:=d c1 h1;have:=d c2 h2;have:=d c3 h3;unfold gj;omega
theorem vS(ho:aZ ng lg s e g)(hX:k_ s) : -10000000000000000<=je ng s e/\qE ng s e<=10000000000000000:=by
 unfold je qE;cases hx:Nat.beq (aT s 88 88) 0 with
 | true=>
   rw[aK]at hx;have:=C_ ho hx;rw[cond_true,cond_true];exact⟨this.1,this.2⟩
 | false=>
   rw[cond_false,cond_false];obtain⟨c0,c1,c2,c3,rfl,h0,h1,h2,h3⟩:=rW hX hx;have a:=FN (x:=48) (by decide) h0 h1 h2 h3;have b:=FN (x:=57) (by decide) h0 h1 h2 h3;have l:0<=nq c1 c2 c3/\nq c1 c2 c3<=1000:=by
    unfold nq;cases Nat.beq c3.toNat 88<;>cases Nat.beq c2.toNat 88<;>cases Nat.beq c1.toNat 88<;>decide
   unfold Ed;cases ng with
   | true=>
     simp only[cond_true,Bool.true_and];cases aa (gj c0 c1 c2 c3 48) 0<;>simp only[zAj]<;>omega
   | false=>
     simp only[cond_false,Bool.false_and];omega
theorem lW{k:Int}:kB ng s e k=true↔rl ng s e k:=by
 unfold kB rl;cases Nat.beq (aT s 88 88) 0 with
 | true=>rw[cond_true,cond_true,al]
 | false=>
   rw[cond_false,cond_false];split
   . rename_i c0 c1 c2 c3;cases ng with
     | true=>exact(by rw[zAa,ao,zAb]:(ab 1 (-k)&&decide (nk c0 c1 c2 c3 (-k)))=true↔1<=-k/\nk c0 c1 c2 c3 (-k))
     | false=>exact(by rw[zAb]:decide (nk c0 c1 c2 c3 k)=true↔nk c0 c1 c2 c3 k)
   . rename_i hne;refine⟨λh=>(by cases h),λh=>?_⟩;split at h
     . exact absurd rfl (hne _ _ _ _)
     . cases h
def ba(s:List UInt8):Bool:=!(Nat.beq (aT s 88 88) 0)
def Uu:dJ:=λargs=>match args with
 | [.str s,.str t]=>some (aH [af t [88],Nat.ble s.length 1000000] (.ret (.bool (ba s))))
 | _=>none
def Yv:dJ:=λargs=>match args with
 | [.agg [.bool ng,.bool lg,.str s,.int .i64 e,.int .i64 g,.str mo,.str da,.int .u8 a,.int .u8 b,.int .u8 c]]=>some (aH [Nat.ble s.length 1000,Nat.ble mo.length 1000,Nat.ble da.length 1000] (.ret (.bool (ba (s++mo++da)))))
 | _=>none
def Xe:dJ:=λargs=>match args with
 | [.agg [.bool ng,.bool lg,.str s,.int .i64 e,.int .i64 g,.str mo,.str da,.int .u8 a,.int .u8 b,.int .u8 c]]=>some (aH [Nat.ble s.length 1000,Nat.ble mo.length 1000,Nat.ble da.length 1000] (.ret (.int .i64 (bI (ba (s++mo++da))))))
 | _=>none
def P4:d9:=λvs o=>match vs,o with
 | [.ptr 14 0,.int .i64 z,.str t,.int .i64 i],⟨1,[.cells [.bool ng,.bool lg,.str s,.int .i64 e,.int .i64 g,.str mo,.str da,.int .u8 a,.int .u8 b,.int .u8 c] true none],[]⟩=>
   some (aH [aa z 0,aa i 0,Nat.ble t.length 1000000] (.test (ba t) λx=>bif x then .all λJ=>.ret (.ret,[.ptr 14 0,.int .i64 1,.str t,.any (J 0)],o)else .ret (.exit 0,[.ptr 14 0,.int .i64 0,.str t,.int .i64 (Int.ofNat t.length)],o)))
 | _,_=>none
def Ys:cz:=iz io 0 (eb 28 [1,2,3,4] P4)
def VR:dJ:=λargs=>match args with
 | [.agg [.bool ng,.bool lg,.str s,.int .i64 e,.int .i64 g,.str mo,.str da,.int .u8 a,.int .u8 b,.int .u8 c]]=>some (aH [aa g 0,Nat.ble s.length 1000,Nat.ble mo.length 1000,Nat.ble da.length 1000] (.ret (.int .i64 (bI (ba (s++mo++da))))))
 | _=>none
def X1:aR:=aY gX 84 Uu
def X2:aR:=aY gX 39 VR
def Oj:bh tab 84=some (dC 84,aN 84):=by kernel_rfl
def Nj:bh tab 39=some (dC 39,aN 39):=by kernel_rfl
def Kv:(bj (aN 39)).map (·.1)=[0]:=by kernel_rfl
theorem Tw{t:List UInt8}(ht:af t [88]):bt Tryz.prog cfg 84 [.str s,.str t] [] (.bool (ba s)) []:=by
 rw[bX,beq_iff_eq]at ht;subst ht;refine dq Oj (by simp[aD]) λm w hG=>?_;have:=Go.Proofs.YtoghlpcacfnjbaaGreatDoor.Contains_X ⟨⟨s⟩⟩ w;have e:Go.Proofs.YtoghlpcacfnjbaaGreatDoor.hasX s=ba s:=by
  unfold ba;rw[Bool.eq_iff_iff,Cl,Bool.not_eq_true',cr]
 have h2:Calls Tryz.prog 84 (ap m [.str s,.str [88]]).toArray w λe w'=>e=.returned (.bool (Go.Proofs.YtoghlpcacfnjbaaGreatDoor.hasX s))/\w=w':=by simpa [ap,aj]using this
 rw[e]at h2;refine h2.mono ?_;rintro e w' ⟨he,rfl⟩;exact⟨by simpa [aj]using he,Go.RowKit.Below.refl _ _⟩
theorem Uz:ak Tryz.prog cfg X1:=au aV λargs t v he hv=>by
 unfold Uu at he;split at he
 . cases he;obtain⟨⟨h1,h2,-⟩,hv⟩:=aF hv;cases hv;exact Tw h1
 . cases he
theorem ZF{a:Int}(hs:s.length<=1000)(hm:mo.length<=1000)(hd:da.length<=1000) :
 bt Tryz.prog cfg 48 [.agg [.bool ng,.bool lg,.str s,.int .i64 e,.int .i64 g,.str mo,.str da,.int .u8 a,.int .u8 b,.int .u8 c]] [] (.bool (ba (s++mo++da))) []:=by
 refine kP Uz ag (bA 11140040200) (R:=λQ=>(λ(A:List UInt8)=>(λ(B:Bool)(C:List UInt8)=>(λ(E:Bool)=>Nat.ble (HAdd.hAdd s.length mo.length) 1000000/\(B->(E->Q (.bool (ba C)))/\(E=false->False))/\(B=false->False)) (Nat.ble C.length 1000000)) (Nat.ble (HAdd.hAdd A.length da.length) 1000000) (A++da)) (s++mo)) (λ_=>by kernel_rfl) λQ' hQ=>?_;try dsimp only
 have l1:(s++mo).length=s.length+mo.length:=List.length_append;have l2:(s++mo++da).length=s.length+mo.length+da.length:=by rw[zAg,l1]
 simp only[az,reduceCtorEq]
 (repeat' first|exact trivial|refine⟨?_,?_⟩|intro)<;>first|contradiction|omega|assumption|(simp only[l1,l2];omega)|(exfalso;simp_all;omega)
theorem Hq{t:List UInt8}{i:Nat}(h:∀k,k<i->(t.getD k 0).toNat≠88)(hi:t.length<=i):ba t=false:=by
 unfold ba;rw[Bool.not_eq_false',aK];unfold aT;rw[List.length_eq_zero_iff,List.filter_eq_nil_iff];intro x hx;obtain⟨k,hk,rfl⟩:=List.getElem_of_mem hx;have:=h k (by omega);rw[zAe,List.getElem?_eq_getElem hk]at this;simp only[Option.getD_some]at this;simp;omega
theorem N3{t:List UInt8}{i:Nat}(hi:i<t.length)(h:(t.getD i 0).toNat=88):ba t=true:=by
 unfold ba;rw[Bool.not_eq_true',cr];intro hn;unfold aT at hn;rw[List.length_eq_zero_iff,List.filter_eq_nil_iff]at hn;have:=hn _ (List.getElem_mem hi);rw[zAe,List.getElem?_eq_getElem hi]at h;simp only[Option.getD_some]at h;apply this;simp[h]
theorem UE:cx Tryz.prog (cH cfg gX) (Cw cfg []) (lb 39 0) 28 [1,2,3,4] P4:=by
 intro vs o t Q hv hq J;unfold P4 at hv;split at hv
 . rename_i z t i ng lg s e g mo da a b c;cases hv;replace hq:=cL hq;obtain⟨⟨k1,k2,k3,-⟩,hq⟩:=hq;rw[al]at k1 k2;rw[aq]at k3;subst k1 k2;simp only[aH,Tr.wp]at hq;refine im aV rfl rfl ag (ι:={i:Nat // i<=t.length/\∀k,k<i->(t.getD k 0).toNat≠88}) (λx=>[.ptr 14 0,.int .i64 0,.str t,.int .i64 (Int.ofNat x.1)]) (λ_=>⟨1,[bx ng lg s e g mo da a b c],[]⟩) (λx=>t.length-x.1) 1 (λ_=>Nat.le_refl _) (λx J=>?_) (Nat.le_refl _) (λJ=>Wk.refl ⟨⟨0,Nat.zero_le _,λk hk=>absurd hk (Nat.not_lt_zero k)⟩,J,rfl⟩) J;obtain⟨i,hi,hz⟩:=x;dsimp only;refine jT (bA 11214204) (R:=λQ=>(λ(B C G:AV)(F:Bool)(A:Int)(E:Nat)=>(λ(I:AV)(H:Bool)(N:Int)=>(H->aW i E/\(F->Q (.ret,[B,.int .i64 1,C,I],⟨1,[.cells [.bool ng,.bool lg,.str s,.int .i64 e,.int .i64 g,.str mo,.str da,.int .u8 a,.int .u8 b,.int .u8 c] true none],[]⟩))/\(F=false->ae .i64 N/\Q (.normal,[B,G,C,.int .i64 N],⟨1,[.cells [.bool ng,.bool lg,.str s,.int .i64 e,.int .i64 g,.str mo,.str da,.int .u8 a,.int .u8 b,.int .u8 c] true none],[]⟩)))/\(H=false->Q (.exit 0,[B,G,C,I],⟨1,[.cells [.bool ng,.bool lg,.str s,.int .i64 e,.int .i64 g,.str mo,.str da,.int .u8 a,.int .u8 b,.int .u8 c] true none],[]⟩))) (.int .i64 A) (not (ab (Int.ofNat E) A)) (Int.add A 1)) (.ptr 14 0) (.str t) (.int .i64 0) (aa (Int.ofNat (UInt8.toNat (List.getD t i (UInt8.ofNat 0)))) 88) (Int.ofNat i) t.length) (λ_=>by kernel_rfl) λQ' hQ=>?_;try dsimp only
   have ret:i<t.length->(t.getD i 0).toNat=88->Q' (.ret,[.ptr 14 0,.int .i64 1,.str t,.int .i64 (Int.ofNat i)],⟨1,[bx ng lg s e g mo da a b c],[]⟩):=λh1 h2=>hQ _ ⟨_,_,VW.any (.same (.same (.same (.int .nil)))) rfl,by
    rw[N3 h1 h2]at hq;exact hq (jv [_])⟩
   have fin:i=t.length->Q' (.exit 0,[.ptr 14 0,.int .i64 0,.str t,.int .i64 (Int.ofNat i)],⟨1,[bx ng lg s e g mo da a b c],[]⟩):=λh=>hQ _ ⟨_,_,VW.refl,by
    rw[Hq hz (by omega)]at hq;subst h;exact hq⟩
   have go:i<t.length->(t.getD i 0).toNat≠88->Q' (.normal,[.ptr 14 0,.int .i64 0,.str t,.int .i64 (Int.ofNat (i+1))],⟨1,[bx ng lg s e g mo da a b c],[]⟩):=λh1 h2=>hQ _ ⟨⟨i+1,by omega,λk hk=>by
    by_cases e:k=i
    . subst e;exact h2
    . exact hz k (by omega)⟩,by dsimp only;omega,VW.of_eq rfl rfl⟩
   clear hQ hq hz;rw[show(UInt8.ofNat 0)=(0:UInt8)from rfl];generalize (t.getD i 0).toNat=cn at *;simp only[az,reduceCtorEq]
   (repeat' first|exact trivial|refine⟨?_,?_⟩|intro)<;>first|contradiction|omega|assumption|(apply fin;omega)|(apply go<;>omega)|(apply ret<;>omega)|(exfalso;simp_all;done)
 . cases hv
theorem LJ{a:Int}(hs:s.length<=1000)(hm:mo.length<=1000)(hd:da.length<=1000) :
 bt Tryz.prog cfg 39 [.agg [.bool ng,.bool lg,.str s,.int .i64 e,.int .i64 0,.str mo,.str da,.int .u8 a,.int .u8 b,.int .u8 c]] [] (.int .i64 (bI (ba (s++mo++da)))) []:=by
 refine kw aV (L:=Ys) Nj (by simp) (dv Kv λi hi e he st Q hw=>?_) (jT (bA 111001440040200) (R:=λQ=>(λ(A:List UInt8)=>(λ(B:Bool)(C:List UInt8)=>(λ(E:Bool)=>Nat.ble (HAdd.hAdd s.length mo.length) 1000000/\(B->(E->(ba C->(∀J1 J2:Nat->Value,Q (.int .i64 1)))/\(ba C=false->(∀J1:Nat->Value,Q (.int .i64 0))))/\(E=false->False))/\(B=false->False)) (Nat.ble C.length 1000000)) (Nat.ble (HAdd.hAdd A.length da.length) 1000000) (A++da)) (s++mo)) (λ_=>by kernel_rfl) λQ' hQ=>?_) (by simp[aD])
 . have hi:i=0:=by simp at hi;omega
   subst hi;cases he;exact b7 (cF.good aV) (by decide) rfl UE hw
 . have l1:(s++mo).length=s.length+mo.length:=List.length_append;have l2:(s++mo++da).length=s.length+mo.length+da.length:=by rw[zAg,l1]
   have y1:ba (s++mo++da)->Q' (.int .i64 1):=λh=>hQ _ (by rw[h];rfl);have y0:ba (s++mo++da)=false->Q' (.int .i64 0):=λh=>hQ _ (by rw[h];rfl);clear hQ;simp only[az,reduceCtorEq]
   (repeat' first|exact trivial|refine⟨?_,?_⟩|intro)<;>first|contradiction|omega|assumption|(apply y1;assumption)|(apply y0;assumption)|(simp only[l1,l2];omega)|(exfalso;simp_all;omega)
theorem Tz:ak Tryz.prog cfg X2:=au aV λargs t v he hv=>by
 unfold VR at he;split at he
 . cases he;obtain⟨⟨h1,h2,h3,h4,-⟩,hv⟩:=aF hv;rw[al]at h1;rw[aq]at h2 h3 h4;cases hv;subst h1;exact LJ h2 h3 h4
 . cases he
theorem ZT{a:Int}(hs:s.length<=1000)(hm:mo.length<=1000)(hd:da.length<=1000) :
 bt Tryz.prog cfg 15 [.agg [.bool ng,.bool lg,.str s,.int .i64 e,.int .i64 g,.str mo,.str da,.int .u8 a,.int .u8 b,.int .u8 c]] [] (.int .i64 (bI (ba (s++mo++da)))) []:=by
 refine kP Tz ag (bA 1756) (R:=λQ=>Nat.ble s.length 1000/\Nat.ble mo.length 1000/\Nat.ble da.length 1000/\Q (.int .i64 (cond (ba ((s++mo)++da)) 1 0))) (λ_=>by kernel_rfl) λQ' hQ=>?_;simp only[az,reduceCtorEq]
 (repeat' first|exact trivial|refine⟨?_,?_⟩|intro)<;>first|contradiction|omega|assumption
theorem Vh(hS:ak Tryz.prog cfg S):ak Tryz.prog cfg (aY S 48 Yv):=au hS λargs t v he hv=>by
 unfold Yv at he;split at he
 . cases he;obtain⟨⟨h1,h2,h3,-⟩,hv⟩:=aF hv;rw[aq]at h1 h2 h3;cases hv;exact ZF h1 h2 h3
 . cases he
theorem Wy(hS:ak Tryz.prog cfg S):ak Tryz.prog cfg (aY S 15 Xe):=au hS λargs t v he hv=>by
 unfold Xe at he;split at he
 . cases he;obtain⟨⟨h1,h2,h3,-⟩,hv⟩:=aF hv;rw[aq]at h1 h2 h3;cases hv;exact ZT h1 h2 h3
 . cases he
def F1:aR:=aY (oC gX 45 O2) 65 Ln
def cJ(a b c d p:Int):Bool:=!(!(aa a 0)&&!(aa c 0))&&(aa (a_ a b c d) 0&&((!(aa a 0) || (jS b p&&aa (vI b p) b))&&(!(aa c 0) || (jS d p&&aa (AF d p) d))))
def Ya:dJ:=λargs=>match args with
 | [.agg [.int .i8 a,.int .i64 b,.int .i8 c,.int .i64 d],.int .u8 p]=>some (aH [ae .i8 a,ae .i64 b,ae .i8 c,ae .i64 d,ab 1 p,ab p 3] (.ret (.bool (cJ a b c d p))))
 | _=>none
theorem Wt:ak Tryz.prog cfg F1:=EG (d7 aV DH)
theorem Z4{a p:Int}(ha : -128<=a/\a<=127)(hb : -9223372036854775808<=b/\b<=9223372036854775807)(hc : -128<=c/\c<=127)(hd : -9223372036854775808<=d/\d<=9223372036854775807)(hp:1<=p/\p<=3):bt Tryz.prog cfg 49 [kD a b c d,.int .u8 p] [] (.bool (cJ a b c d p)) []:=by
 refine kP Wt ag (bA 155115511400642200401400642200201455381023315511400642200203014322542202240) (R:=λQ=>(λ(E G N O P U:Bool)(A T:Prop)=>(λ(B H:Bool)(V W:Prop)=>(λ(F:Bool)(C:Prop)=>(λ(I:Prop)=>(B->B/\B/\B/\B/\(F->F/\F/\H=false/\(N->A)/\(V->G=false/\E/\W))/\(I->I/\I/\H/\A))/\(C->C/\C/\C/\C/\(N->A)/\(V->G/\ae .i64 b/\O/\(jS b p->(U->A)/\(U=false->(E->W)/\(E=false->T)))/\(jS b p=false->A)))) (F=false)) (not H) (B=false)) (not G) (not E) (N=false) (ae .i64 d/\O/\(jS d p->(P->A)/\(P=false->T))/\(jS d p=false->A))) (aa c 0) (aa a 0) (not (aa (a_ a b c d) 0)) (and (ab 1 p) (ab p 3)) (not (and (aa 0 c) (and (aa (AF d p) d) true))) (not (and (aa 0 a) (and (aa (vI b p) b) true))) (Q (.bool false)) (Q (.bool true))) (λ_=>by kernel_rfl) λQ' hQ=>?_;try dsimp only
 unfold cJ at hQ;generalize a_ a b c d=r at *;generalize jS b p=o1 at *;generalize jS d p=o2 at *;generalize vI b p=l1 at *;generalize AF d p=l2 at *;have iff:(!(!(aa a 0)&&!(aa c 0))&&(aa r 0&&((!(aa a 0) || (o1&&aa l1 b))&&(!(aa c 0) || (o2&&aa l2 d)))))=true↔(a=0\/c=0)/\r=0/\(a=0->o1/\l1=b)/\(c=0->o2/\l2=d):=by
  simp only[zAa,Bool.or_eq_true,Bool.not_eq_true',Bool.and_eq_false_iff,Bool.not_eq_false',al,ay];grind
 have yes:((a=0\/c=0)/\r=0/\(a=0->o1/\l1=b)/\(c=0->o2/\l2=d))->Q' (.bool true):=λh=>by rw[iff.2 h]at hQ;exact hQ
 have no:¬((a=0\/c=0)/\r=0/\(a=0->o1/\l1=b)/\(c=0->o2/\l2=d))->Q' (.bool false):=λh=>by rw[<-iff,Bool.not_eq_true]at h;rw[h]at hQ;exact hQ
 clear hQ iff;simp only[az,reduceCtorEq]
 (repeat' first|exact trivial|refine⟨?_,?_⟩|intro)<;>first|contradiction|omega|assumption|(apply yes;grind)|(apply no;grind)|grind
theorem TH(hS:ak Tryz.prog cfg S):ak Tryz.prog cfg (aY S 49 Ya):=au hS λargs t v he hv=>by
 unfold Ya at he;split at he
 . cases he;obtain⟨⟨h1,h2,h3,h4,h5,h6,-⟩,hv⟩:=aF hv;rw[aB]at h1 h2 h3 h4;simp only[dP,dR]at h1 h2 h3 h4;rw[ao]at h5 h6;cases hv;exact Z4 h1 h2 h3 h4 ⟨h5,h6⟩
 . cases he
def mZ(x y z:Int):Bool:=Bool.and (aa x 0) (Bool.and (aa y 0) (Bool.and (aa z 0) Bool.true))
def dZ(ng lg:Bool)(s:List UInt8)(e g:Int)(mo da:List UInt8)(x y z:Int):Bool:=Bool.and (Bool.and (bW ng Bool.false) (Bool.and (bW lg Bool.false) (Bool.and (af s List.nil) (Bool.and (aa e 0) (Bool.and (aa g 0) Bool.true))))) (Bool.and (af mo List.nil) (Bool.and (af da List.nil) (Bool.and (Bool.and (aa x 0) (Bool.and (aa y 0) (Bool.and (aa z 0) Bool.true))) Bool.true)))
def sZ(a b c d:Int):Bool:=Bool.and (Bool.and (aa a 0) (Bool.and (aa b 0) Bool.true)) (Bool.and (Bool.and (aa c 0) (Bool.and (aa d 0) Bool.true)) Bool.true)
def cA(k:Int)(n:Nat)(ch:Int)(dz:Bool)(p:Int)(sz:Bool)(ef g:Int)(xb mz ft:Bool)(rk a c:Int):Int:=
 if k<1\/5<k then 18 else
 if k=1 then(if dz/\p=0/\sz=true then(if n=0 then 17 else ch)else 5)else
 if k=2 then(if n=0/\p=0/\sz=true then(if ef=0 then(if g=0/\xb/\mz=true then 0 else 1)else ef)else 5)else
 if k=3 then(if n=0/\dz=true then(if 1<=p/\p<=3 then(if ft=true then 0 else 1)else 18)else 5)else
 if n=0/\dz/\p=0 then(if rk=0/\(k=4/\a = -1/\c=0\/k=5/\a=0/\c=1)then 0 else 1)else 5
theorem pP{z:Int}:Bool.and (Bool.and (bW ng Bool.false) (Bool.and (bW lg Bool.false) (Bool.and (af s List.nil) (Bool.and (aa e 0) (Bool.and (aa g 0) Bool.true))))) (Bool.and (af mo List.nil) (Bool.and (af da List.nil) (Bool.and (Bool.and (aa x 0) (Bool.and (aa y 0) (Bool.and (aa z 0) Bool.true))) Bool.true)))=dZ ng lg s e g mo da x y z:=rfl
theorem pS{a:Int}:Bool.and (Bool.and (aa a 0) (Bool.and (aa b 0) Bool.true)) (Bool.and (Bool.and (aa c 0) (Bool.and (aa d 0) Bool.true)) Bool.true)=sZ a b c d:=rfl
theorem pZ{z:Int}:Bool.and (aa x 0) (Bool.and (aa y 0) (Bool.and (aa z 0) Bool.true))=mZ x y z:=rfl
def MW(R:List Rn):Prop:=∀i,i<R.length->GV (R.getD i j7).b/\GV (R.getD i j7).d
theorem kn:∀{R:List Rn},(bB R).length=R.length*4
 | []=>rfl
 | r::rs=>by simp only[bB,zAd,kn (R:=rs)];omega
theorem jn:∀{R:List Rn},jD (bB R)=R
 | []=>rfl
 | r::rs=>by simp only[bB,jD,jn (R:=rs)]
theorem tE:∀{R:List Rn},MW R->eQ (bB R)=true
 | [],_=>rfl
 | r::rs,h=>by
   have h0:=h 0 (Nat.succ_pos _);have h0:GV r.b/\GV r.d:=h0;unfold GV at h0;simp only[bB,eQ,zAa,aB,dP,dR];exact⟨h0.1,h0.2,tE λi hi=>h (i+1) (by simpa using hi)⟩
theorem ib:∀{R:List Rn},bw 14 (bB R)=true
 | []=>rfl
 | r::rs=>by
   have:=ib (R:=rs);unfold bw at this ⊢;simp only[bB,List.all_cons,zAa];exact⟨rfl,rfl,rfl,rfl,this⟩
theorem lZ{R:List Rn}:cN (bB R) 0 (R.length*4)=bB R:=by
 unfold cN;rw[List.drop_zero];exact List.take_of_length_le (by rw[kn];exact Nat.le_refl _)
theorem x7{a p:Int}:cJ a b c d p=true↔(a=0\/c=0)/\a_ a b c d=0/\(a=0->jS b p/\vI b p=b)/\(c=0->jS d p/\AF d p=d):=by
 unfold cJ;simp only[zAa,Bool.or_eq_true,Bool.not_eq_true',Bool.and_eq_false_iff,Bool.not_eq_false',al,ay];grind
end Go.Ev
