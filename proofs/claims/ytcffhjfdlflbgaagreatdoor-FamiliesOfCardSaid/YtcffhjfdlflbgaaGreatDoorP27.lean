import Derived.Test.YtcffhjfdlflbgaaGreatDoorP26
set_option linter.all false
open UInt8 renaming ofNat->ν
open Int renaming ofNat->ξ,tmod->υ,sub->Β
open List renaming getD->ο,not_mem_nil->Α,take->Δ
open Bool renaming and->π,not_false->σ,not_true->τ,true->ω
open Nat renaming beq->ς,ble->Γ
open HAdd renaming hAdd->χ
set_option linter.all false
set_option maxRecDepth 100000
set_option maxHeartbeats 4000000
namespace Go.Ev
open Go Go.Proofs
variable{s:List UInt8}{S:aQ}{f n z0 z1:Int}{K:fg}
def XN:List (List UInt8):=[[ν 48,ν 88],[ν 49,ν 88],[ν 88,ν 50],[ν 88,ν 88],[ν 88,ν 48],[ν 88,ν 57]]
def XO:List (List UInt8):=[[ν 48,ν 88],[ν 49,ν 88],[ν 50,ν 88],[ν 51,ν 88],[ν 88,ν 48],[ν 88,ν 49],[ν 88,ν 88],[ν 88,ν 56]]
def Av(k:Int):List UInt8:=bif aa k 0 then[]else bif ab k 12 then pZ k else bif ab k 33 then pZ (k+8)else XN.getD (k-34).toNat []
def WP(mo:List UInt8):Bool:=ae mo [ν 48,ν 52] || (ae mo [ν 48,ν 54] || (ae mo [ν 48,ν 57] || (ae mo [ν 49,ν 49] || ae mo [ν 88,ν 57])))
def JS(mo:List UInt8):Int:=bif ae mo [ν 48,ν 50]then 28 else bif WP mo then 30 else 31
def Gt(k:Int)(mo:List UInt8):List UInt8:=bif aa k 0 then[]else bif ab k 31 then pZ (gY k (JS mo))else XO.getD (bif ae mo [ν 48,ν 50]&&aa k 35 then 2 else(k-32).toNat) []
def YL:dP:=λ
 | [.g [.a .u8 f,.e ng,.a .u16 n,.a .u8 z0,.a .u8 z1,.a .u8 m,.a .u8 d,.a .u8 x,.a .u8 y,.a .u8 z]]=>some (aH [af .u8 m] (.a0 (Av (m%40))))
 | _=>none
def Y8:dP:=λ
 | [.g [.a .u8 f,.e ng,.a .u16 n,.a .u8 z0,.a .u8 z1,.a .u8 m,.a .u8 d,.a .u8 x,.a .u8 y,.a .u8 z],.f mo]=>some (aH [af .u8 d] (.a0 (Gt (d%40) mo)))
 | _=>none
def YT:aQ:=d5 gZ 125 QP
theorem Gb:ak Tryz.prog cfg YT:=bm aW (ML 125 _ rfl)
theorem QI{k:Int}(h:34<=k/\k<=39):ο [AV.f [ν 48,ν 88],AV.f [ν 49,ν 88],AV.f [ν 88,ν 50],AV.f [ν 88,ν 88],AV.f [ν 88,ν 48],AV.f [ν 88,ν 57]] (0+(Β k 34).toNat*1) (AV.c [])=(XN.getD (k-34).toNat []):=by
 have:k=34\/k=35\/k=36\/k=37\/k=38\/k=39:=by omega
 rcases this with rfl|rfl|rfl|rfl|rfl|rfl<;>rfl
theorem Se{k:Int}(h:32<=k/\k<=39):ο [AV.f [ν 48,ν 88],AV.f [ν 49,ν 88],AV.f [ν 50,ν 88],AV.f [ν 51,ν 88],AV.f [ν 88,ν 48],AV.f [ν 88,ν 49],AV.f [ν 88,ν 88],AV.f [ν 88,ν 56]] (0+(Β k 32).toNat*1) (AV.c [])=(XO.getD (k-32).toNat []):=by
 have:k=32\/k=33\/k=34\/k=35\/k=36\/k=37\/k=38\/k=39:=by omega
 rcases this with rfl|rfl|rfl|rfl|rfl|rfl|rfl|rfl<;>rfl
theorem AN:C9 s=s:=rfl
theorem CA:Iq s=true:=rfl
theorem VI(hS:ak Tryz.prog cfg S):ak Tryz.prog cfg (d5 S 65 YL):=by
 refine au hS λargs t v he hv=>?_;unfold YL at he;split at he
 . rename_i f ng n z0 z1 m d x y z;cases he;obtain⟨h1,hv⟩:=eL hv;cases hv;rw[aE]at h1;simp only[eH,eE]at h1;have e:υ m 40=m%40:=tm h1.1;have hk:0<=m%40/\m%40<=39:=by omega
   refine nF Gb ai (bE 1271220241220414200) (R:=λQ=>(λ(A:Int)(B F:UInt8)=>(λ(G H:Bool)(C E:Int)=>(λ(I:Nat)=>(λ(N:AV)=>af .i64 A/\(aa A 0->Q (.f []))/\(aa A 0=false->(G->ab 0 A/\ab A 99/\Q (pZ A))/\(G=false->(H->af .i64 C/\ab 0 C/\ab C 99/\Q (pZ C))/\(H=false->af .i64 E/\ab 0 E/\aS I 6/\Iq N/\Q (C9 N))))) (ο [.f [F,B],.f [ν 49,B],.f [B,ν 50],.f [B,B],.f [B,F],.f [B,ν 57]] (χ 0 (HMul.hMul I 1)) (.c []))) E.toNat) (ab A 12) (ab A 33) (Int.add A 8) (Β A 34)) (υ m 40) (ν 88) (ν 48)) (λ_=>by rfl) λQ' hQ=>?_;try dsimp only
   rw[e];unfold Av at hQ;generalize m%40=k at *;rw[show Int.add k 8=k+8 from rfl];by_cases h0:k=0
   . rw[ao.mpr h0]at hQ ⊢;simp only[reduceCtorEq,false_implies,true_implies,and_true,aE,eH,eE];exact⟨by omega,hQ⟩
   . rw[aw.mpr h0]at hQ ⊢;by_cases h12:k<=12
     . rw[aq.mpr h12]at hQ ⊢;simp only[reduceCtorEq,zAh,aE,eH,eE,aq];exact⟨by omega,by omega,by omega,hQ⟩
     . rw[bF.mpr (show 12<k by omega)]at hQ ⊢;by_cases h33:k<=33
       . rw[aq.mpr h33]at hQ ⊢;simp only[reduceCtorEq,zAh,aE,eH,eE,aq]
         (repeat' first|refine⟨?_,?_⟩|intro)<;>first|omega|exact hQ
       . rw[bF.mpr (show 33<k by omega)]at hQ ⊢;rw[QI (by omega),AN,CA];simp only[az,reduceCtorEq,zAh]
         (repeat' first|refine⟨?_,?_⟩|intro)<;>first|omega|exact hQ
 . cases he
theorem UF(hS:ak Tryz.prog cfg S):ak Tryz.prog cfg (d5 S 67 Y8):=by
 refine au hS λargs t v he hv=>?_;unfold Y8 at he;split at he
 . rename_i f ng n z0 z1 m d x y z mo;cases he;obtain⟨h1,hv⟩:=eL hv;cases hv;rw[aE]at h1;simp only[eH,eE]at h1;have e:υ d 40=d%40:=tm h1.1;have hk:0<=d%40/\d%40<=39:=by omega
   refine nF Gb ai (bE 12703312715422412201220412202412202412202412202412204414200) (R:=λQ=>(λ(B:Int)(A C G Y Z:UInt8)=>(λ(u3:AV)(E N P T U u0 u1 u2:Bool)(I O V W:Int)=>(λ(u4:Nat)(F H:Prop)=>(λ(u5:AV)=>(λ(u6:Prop)=>af .i64 B/\(aa B 0->Q (.f []))/\(aa B 0=false->(u0->(E->ab 0 I/\ab I 99/\Q (pZ I))/\(H->(N->N/\F)/\(N=false->(P->P/\F)/\(P=false->(T->T/\F)/\(T=false->(U->U/\F)/\(U=false->(u1->F)/\(u1=false->ab 0 V/\ab V 99/\Q (pZ V))))))))/\(u0=false->(E->E/\E/\(u2->Q u3)/\(u2=false->u6))/\(H->H/\H/\u6)))) (af .i64 W/\ab 0 W/\aS u4 8/\Iq u5/\Q (C9 u5))) (ο [.f [C,A],.f [G,A],u3,.f [ν 51,A],.f [A,C],.f [A,G],.f [A,A],.f [A,ν 56]] (χ 0 (HMul.hMul u4 1)) (.c []))) W.toNat (ab 0 O/\ab O 99/\Q (pZ O)) (E=false)) (.f [Y,A]) (ae mo [C,Y]) (ae mo [C,ν 52]) (ae mo [C,ν 54]) (ae mo [C,Z]) (ae mo [G,G]) (ab B 31) (ae mo [A,Z]) (aa B 35) (gY B 28) (gY B 30) (gY B 31) (Β B 32)) (υ d 40) (ν 88) (ν 48) (ν 49) (ν 50) (ν 57)) (λ_=>by rfl) λQ' hQ=>?_;try dsimp only
   rw[e];unfold Gt JS WP at hQ;generalize d%40=k at *;by_cases h0:k=0
   . rw[ao.mpr h0]at hQ ⊢;simp only[reduceCtorEq,false_implies,true_implies,and_true,aE,eH,eE];exact⟨by omega,hQ⟩
   . rw[aw.mpr h0]at hQ ⊢;by_cases h31:k<=31
     . rw[aq.mpr h31]at hQ ⊢;have m1:gY k 28<=28/\0<=gY k 28:=by rw[EB];omega
       have m2:gY k 30<=30/\0<=gY k 30:=by rw[EB];omega
       have m3:gY k 31<=31/\0<=gY k 31:=by rw[EB];omega
       generalize ae mo [ν 48,ν 50]=b1 at *;generalize ae mo [ν 48,ν 52]=b2 at *;generalize ae mo [ν 48,ν 54]=b3 at *;generalize ae mo [ν 48,ν 57]=b4 at *;generalize ae mo [ν 49,ν 49]=b5 at *;generalize ae mo [ν 88,ν 57]=b6 at *;rw[aq.mpr m1.2,aq.mpr m2.2,aq.mpr m3.2,aq.mpr (show gY k 28<=99 by omega),aq.mpr (show gY k 30<=99 by omega),aq.mpr (show gY k 31<=99 by omega)];have hr:af .i64 k=true:=by rw[aE];simp only[eH,eE];omega
       cases b1<;>cases b2<;>cases b3<;>cases b4<;>cases b5<;>cases b6<;>simp only[reduceCtorEq,zAh]<;>exact⟨hr,hQ⟩
     . rw[bF.mpr (show 31<k by omega)]at hQ ⊢;rw[Se (by omega),AN,CA];generalize ae mo [ν 48,ν 50]=b1 at *;have i1:af .i64 k=true:=by rw[aE];simp only[eH,eE];omega
       have i2:af .i64 (Β k 32)=true:=by rw[aE];simp only[eH,eE];show _<=k-32/\k-32<=_;omega
       have i3:ab 0 (Β k 32)=true:=by rw[aq];show 0<=k-32;omega
       have i4:aS (Β k 32).toNat 8=true:=by rw[aU];show(k-32).toNat<8;omega
       rw[i1,i2,i3,i4];cases h35:aa k 35<;>cases b1<;>rw[h35]at hQ<;>simp only[reduceCtorEq,zAh]<;>exact hQ
 . cases he
def jZ(f n z0 z1 m:Int):List UInt8:=bif aa (dr f n z0 z1) 0 then Av (m%40)else[]
def nY(f n z0 z1 m d:Int):List UInt8:=bif !(ae (jZ f n z0 z1 m) [])&&aa (aR (jZ f n z0 z1 m)) 0 then Gt (d%40) (jZ f n z0 z1 m)else[]
def Em(c:Int)(i x:Int):Int:=bif ab c i then 0 else x%4
def X9:dP:=λ
 | [.g [.a .u8 f,.e ng,.a .u16 n,.a .u8 z0,.a .u8 z1,.a .u8 m,.a .u8 d,.a .u8 x,.a .u8 y,.a .u8 z]]=>some (aH [af .u8 f,af .u16 n,af .u8 z0,af .u8 z1,af .u8 m,af .u8 d,af .u8 x,af .u8 y,af .u8 z] (.a0 (.g [(qV f ng n z0 z1),(sY f),(gw f n z0 z1),(kQ f z1),(dr f n z0 z1),(jZ f n z0 z1 m),(nY f n z0 z1 m d),.a .u8 (Em (dq (jZ f n z0 z1 m) (nY f n z0 z1 m d)) 0 x),.a .u8 (Em (dq (jZ f n z0 z1 m) (nY f n z0 z1 m d)) 1 y),.a .u8 (Em (dq (jZ f n z0 z1 m) (nY f n z0 z1 m d)) 2 z)])))
 | _=>none
def Na:aQ:=d5 (d5 (d5 (d5 (d5 gZ 64 ZX) 65 YL) 66 Zt) 67 Y8) 68 YA
theorem RS:ak Tryz.prog cfg Na:=bm (UF (bm (VI (WB aW)) (MW 66 _ rfl))) (MW 68 _ rfl)
theorem UZ(hS:ak Tryz.prog cfg S):ak Tryz.prog cfg (d5 S 19 X9):=by
 refine au hS λargs t v he hv=>?_;unfold X9 at he;split at he
 . rename_i f ng n z0 z1 m d x y z;cases he;obtain⟨⟨h1,h2,h3,h4,h5,h6,h7,h8,h9,-⟩,hv⟩:=aF hv;cases hv;refine nF RS ai (bE 1566666100610061006306640664066200068100610061006306640664066200610061006100630664066406620006200064220206400200640027005) (R:=λQ=>(λ(A B C E F G O T u0:AV)(Z:Int)(I:List UInt8)=>(λ(H N:AV)(P u1:Bool)(U:Int)(u2:List UInt8)=>(λ(Y:AV)(u3 u4:Bool)(V:Int)(W:Prop)=>(λ(u5 u6:Bool)(u7:Prop)=>af .u8 f/\af .u16 n/\af .u8 z0/\af .u8 z1/\(aa Z 0->af .u8 m/\(P->P/\P/\P/\(u1->af .u8 d/\not (ab V 0)/\(u5->(u6->not (ab V 3)=false/\Q (.g [B,C,E,F,H,N,Y,G,T,u0]))/\(u6=false->Q (.g [B,C,E,F,H,N,Y,G,T,A])))/\(u5=false->Q (.g [B,C,E,F,H,N,Y,G,A,A])))/\(u1=false->u7))/\(W->W/\W/\W/\u7))/\(aa Z 0=false->Q (.g [B,C,E,F,H,O,O,G,A,A]))) (not (ab V 1)) (not (ab V 2)) (not (ab U 0)/\(u3->(u4->not (ab U 3)=false/\Q (.g [B,C,E,F,H,N,O,G,T,u0]))/\(u4=false->Q (.g [B,C,E,F,H,N,O,G,T,A])))/\(u3=false->Q (.g [B,C,E,F,H,N,O,G,A,A])))) u2 (not (ab U 1)) (not (ab U 2)) (dq I u2) (P=false)) Z I (not (ae I [])) (aa (aR I) 0) (dq I []) (Gt (HMod.hMod d 40) I)) (.a .u8 0) (qV f ng n z0 z1) (sY f) (gw f n z0 z1) (kQ f z1) (.a .u8 (υ x 4)) (.f []) (.a .u8 (υ y 4)) (.a .u8 (υ z 4)) (dr f n z0 z1) (Av (HMod.hMod m 40))) (λ_=>by kernel_rfl) λQ' hQ=>?_;try dsimp only
   rw[aE]at h7 h8 h9;simp only[eH,eE]at h7 h8 h9;try dsimp only
   rw[h1,h2,h3,h4,h5,h6,tm (b:=4) h7.1,tm (b:=4) h8.1,tm (b:=4) h9.1];unfold nY jZ Em at hQ;grind [ae,pr,dq,bF]
 . cases he
theorem dL.d0{ws:List cD}{v v':AV}{x:cD}{rest:List cD}{k n:Nat}(hw:∀x∈ws,cR 14 x)(hk:rest.length=k)(hn:n=k+1)(hx:cR (14+ws.length) x)(hv:kG (14+ws.length) [(14+ws.length+k,14+ws.length)] 20 v'=some v):dL ws v [x] (v',⟨n,x::rest,[]⟩):=by
 subst hn;have hv':kG ((Cw cfg ws).lo+0) (eM (Cw cfg ws).lo 0 [k]) 20 v'=some v:=hv;refine(oX dI.lv (C:=Cw cfg ws) (st:=⟨.c0 v' .a0 .a0,1,⟨k+1,x::rest,[]⟩,[],none⟩) (kb:=0) (sel:=[k]) (ts':=.c0 v .a0 .a0) (o':=⟨1,[x],[]⟩) (B6 hw) (Nat.zero_le _) (λs hs=>?_) (by simp) (λp hp=>by grind) rfl rfl rfl (λi hi=>absurd hi (Nat.not_lt_zero i)) (λt ht=>?_) ?_ (λd hd=>by grind) (λi hi=>by grind)).b0 λs hs=>?_
 . grind
 . have:t=0:=by grind
   subst this;refine .inl ⟨?_,?_⟩
   . grind [aB.at]
   . show cR (14+ws.length) ((⟨k+1,x::rest,[]⟩:aB).at k);grind [aB.at]
 . grind [xB,ob]
 . rw[hs];exact⟨rfl,rfl⟩
def acx(r s:Rn):Bool:=π (π (aa r.a s.a) (π (aa r.b s.b) ω)) (π (π (aa r.c s.c) (π (aa r.d s.d) ω)) ω)
def mh:List Rn->List Rn->Bool
 | [],[]=>true
 | r::rs,s::ss=>acx r s&&mh rs ss
 | _,_=>false
def CT(R1 R2:List Rn):dW:=λ
 | [.b 14 0 n k,.b 15 0 n' k',.a .i64 z,.a .i64 i],⟨0,[],[]⟩=>some (aH [Γ n 1000,ς R1.length n,ς R2.length n,ς n' n,aa i 0,aa z 0] (.d0 (mh R1 R2) λb=>bif b then .a0 (.b 0,[.b 14 0 n k,.b 15 0 n' k',.a .i64 0,(ξ n)],dO)else .f0 λJ=>.a0 (.c,[.b 14 0 n k,.b 15 0 n' k',.a .i64 0,.j (J 0)],dO)))
 | _,_=>none
def LN(R1 R2:List Rn):cx:=iz jE 0 (d9 26 [0,1,4,5] (CT R1 R2))
theorem ao7{Q:AV->Prop}:gG Q (pW gZ jE [] 38 [.d,.d]) (.e (.e .z))=(Q (.a .i64 1)):=by rfl
theorem ahG:ec eS 38=some (dH 38,aL 38):=by rfl
theorem ajj:(bz (aL 38)).map (·.1)=[0]:=by rfl
theorem aif{r s:Rn}:acx r s=true↔r=s:=by
 obtain⟨a,b,c,d⟩:=r;obtain⟨a',b',c',d'⟩:=s;grind [acx,ao]
theorem ae5:∀{R S:List Rn},R.length=S.length->(mh R S=true↔∀j,j<R.length->acx (R.getD j fo) (S.getD j fo)=true)
 | [],[],_=>⟨λ_ j hj=>absurd hj (Nat.not_lt_zero j),λ_=>rfl⟩
 | r::rs,s::ss,h=>by
   have ih:=ae5 (R:=rs) (S:=ss) (by grind);rw[mh,zAa,ih];constructor
   . grind
   . intro h0;exact⟨h0 0 (Nat.succ_pos _),λj hj=>h0 (j+1) (by grind)⟩
theorem af2:∀{R S:List Rn},R.length≠S.length->mh R S=false
 | [],[],h=>absurd rfl h
 | [],_::_,_=>rfl
 | _::_,[],_=>rfl
 | r::rs,s::ss,h=>by rw[mh,af2 (R:=rs) (S:=ss) (by grind),Bool.and_false]
theorem aeo:∀{R:List Rn},mh R R=true
 | []=>rfl
 | r::rs=>by rw[mh,aif.2 rfl,aeo (R:=rs)];rfl
theorem acl{R1 R2:List Rn}:∀x∈[cD.a (bh R1) false none,cD.a (bh R2) false none],cR 14 x:=λx hx=>by
 grind [aO,sR]
theorem apI{R1 R2:List Rn}:cu Tryz.prog (cH cfg gZ) (Cw cfg [.a (bh R1) false none,.a (bh R2) false none]) (lb 38 0) 26 [0,1,4,5] (CT R1 R2):=by
 have hw:=@acl R1 R2;intro vs o t Q hv hq J;unfold CT at hv;split at hv
 . rename_i n k n' k' z i;cases hv;replace hq:=cO hq;obtain⟨⟨h1,h2,h3,h4,h5,h6,-⟩,hq⟩:=hq;rw[al]at h1;rw[aJ]at h2 h3 h4;rw[ao]at h5 h6;subst h2 h4 h5 h6;simp only[aH,Tr.wp]at hq;refine ia aW rfl rfl ai (ι:={i:Nat // i<=R1.length/\∀j,j<i->acx (R1.getD j fo) (R2.getD j fo)}) (λx=>[.b 14 0 R1.length k,.b 15 0 R1.length k',.a .i64 0,(ξ x.1)]) (λ_=>dO) (λx=>R1.length-x.1) 0 (λ_=>Nat.le_refl _) (λx J=>?_) (Nat.le_refl _) (λJ=>Wk.a0 ⟨⟨0,Nat.zero_le _,λj hj=>absurd hj (Nat.not_lt_zero j)⟩,J,rfl⟩) J;obtain⟨i,hi,hz⟩:=x;dsimp only;refine jJ (bE 11214227022704) (R:=λQ=>(λ(A G H I:AV)(B:Int)(C:Nat)=>(λ(O P:AV)(N:Bool)(T:Int)(E:Nat)=>(λ(U V:AV)(F:Nat)=>(λ(W Z:AV)(Y:Nat)=>(λ(u0 u1:AV)=>(λ(u2:Bool)=>(N->aS i R1.length/\eB .i8 O/\eB .i64 U/\eB .i8 W/\eB .i64 u0/\aS i R1.length/\eB .i8 P/\eB .i64 V/\eB .i8 Z/\eB .i64 u1/\(u2->Q (.c,[G,H,I,B],⟨0,[],[]⟩))/\(u2=false->af .i64 T/\Q (.a,[G,H,I,T],⟨0,[],[]⟩)))/\(N=false->Q (.b 0,[G,H,I,B],⟨0,[],[]⟩))) (not (and (and (aa (dx O) (dx P)) (and (aa (dx U) (dx V)) true)) (and (and (aa (dx W) (dx Z)) (and (aa (dx u0) (dx u1)) true)) true)))) (ο (bh R1) Y A) (ο (bh R2) Y A)) (ο (bh R1) F A) (ο (bh R2) F A) (χ F 1)) (ο (bh R1) E A) (ο (bh R2) E A) (χ E 1)) (ο (bh R1) C A) (ο (bh R2) C A) (not (ab (ξ R1.length) B)) (Int.add B 1) (χ C 1)) (.c []) (.b 14 0 R1.length k) (.b 15 0 R1.length k') (.a .i64 0) (ξ i) (χ 0 (HMul.hMul i 4))) (λ_=>by rfl) λQ' hQ=>?_;try dsimp only
   try dsimp only
   have yes:i<R1.length->acx (R1.getD i fo) (R2.getD i fo)=false->∀J:Nat->Value,Q (.c,[.b 14 0 R1.length k,.b 15 0 R1.length k',.a .i64 0,.j (J 0)],dO):=λhlt he J2=>by
    have hc:mh R1 R2=false:=by
     grind [ae5]
    rw[hc]at hq;exact hq J2
   have no:i=R1.length->Q (.b 0,[.b 14 0 R1.length k,.b 15 0 R1.length k',.a .i64 0,(ξ R1.length)],dO):=λhe=>by
    subst he;have hc:mh R1 R2=true:=(ae5 h3.symm).2 hz;rw[hc]at hq;exact hq
   have next:acx (R1.getD i fo) (R2.getD i fo)->∀j,j<i+1->acx (R1.getD j fo) (R2.getD j fo)=true:=λh j hj=>by
    grind
   clear hq;by_cases hlt:i<R1.length
   . obtain⟨f1,f2,f3,f4⟩:=wH hlt;obtain⟨g1,g2,g3,g4⟩:=wH (R:=R2) (i:=i) (by omega);have ret:acx (R1.getD i fo) (R2.getD i fo)=false->∃vs2 o2,VW cfg (Cw cfg [.a (bh R1) false none,.a (bh R2) false none]) 0 26 [0,1,4,5] [.b 14 0 R1.length k,.b 15 0 R1.length k',.a .i64 0,(ξ i)] dO vs2 o2/\Q (.c,vs2,o2):=λhe=>⟨_,_,VW.c0 (.same (.same (.same (.int .nil)))) rfl,yes hlt he (jv [_])⟩;have go:acx (R1.getD i fo) (R2.getD i fo)->∃y:{i:Nat // i<=R1.length/\∀j,j<i->acx (R1.getD j fo) (R2.getD j fo)},R1.length-y.1<R1.length-i/\VW cfg (Cw cfg [.a (bh R1) false none,.a (bh R2) false none]) 0 26 [0,1,4,5] [.b 14 0 R1.length k,.b 15 0 R1.length k',.a .i64 0,(Int.add (ξ i) 1)] dO [.b 14 0 R1.length k,.b 15 0 R1.length k',.a .i64 0,(ξ y.1)] dO:=λh0=>⟨⟨i+1,by omega,next h0⟩,by grind,VW.a0⟩;clear yes no next hz;simp only[Nat.add_assoc,Nat.reduceAdd,Nat.zero_add,Nat.add_zero,f1,f2,f3,f4,g1,g2,g3,g4,eB,dx,zb,abw]at *;generalize R1.getD i fo=r at *;generalize R2.getD i fo=s at *;have l1:ab (ξ R1.length) (ξ i)=false:=by grind [bF]
     have l2:aS i R1.length=true:=aU.2 hlt;have l3:af .i64 (Int.add (ξ i) 1)=true:=by rw[aE];simp only[eH,eE];show _<=(i:Int)+1/\(i:Int)+1<=_;omega
     have e:acx r s=π (π (aa r.a s.a) (π (aa r.b s.b) ω)) (π (π (aa r.c s.c) (π (aa r.d s.d) ω)) ω):=rfl;rw[l1,l2,l3,<-e];cases he:acx r s with
     | false=>simp only[az,reduceCtorEq,τ,σ];(repeat' first|exact trivial|refine⟨?_,?_⟩|intro)<;>first|contradiction|omega|(refine hQ _ ?_;exact ret he)
     | true=>simp only[az,reduceCtorEq,τ,σ];(repeat' first|exact trivial|refine⟨?_,?_⟩|intro)<;>first|contradiction|omega|(refine hQ _ ?_;exact go he)
   . obtain rfl:i=R1.length:=by omega
     have no:=no rfl;have l1:ab (ξ R1.length) (ξ R1.length)=true:=by rw[aq];exact Int.le_refl _
     rw[l1];simp only[reduceCtorEq,zAh,τ,σ];exact hQ _ ⟨_,_,VW.a0,no⟩
 . cases hv
theorem anU{R1 R2:List Rn}{k k':fg}(h1:R1.length<=1000):bu Tryz.prog cfg 38 [.b 14 0 R1.length k,.b 15 0 R2.length k'] [.a (bh R1) false none,.a (bh R2) false none] (bI (mh R1 R2)) []:=by
 refine P0 aW (L:=LN R1 R2) acl ahG (by simp) (dv ajj λi hi e he st Q hw=>?_) (jJ (bE 114002714) (R:=λQ=>(λ(A:Bool)(B:Prop)=>(A->B)/\(A=false->Γ R1.length 1000/\ς R1.length R1.length/\ς R2.length R1.length/\ς R2.length R1.length/\(mh R1 R2->(∀J1:Nat->Value,Q (.a .i64 1)))/\(mh R1 R2=false->(∀J1 J2:Nat->Value,B)))) (not (aa (ξ R1.length) (ξ R2.length))) (Q (.a .i64 0))) (λ_=>by rfl) λQ' hQ=>?_) (by rfl)
 . have hi:i=0:=by grind
   subst hi;cases he;exact bR (cC.a0 aW) (by decide) rfl apI hw
 . have hQ:=hQ _ rfl;try dsimp only
   by_cases hl:R1.length=R2.length
   . have e1:aa (ξ R1.length) (ξ R2.length)=true:=ao.mpr (by rw[hl]);have e2:Γ R1.length 1000=true:=by simp_all
     have e3:ς R1.length R1.length=true:=gm rfl;have e4:ς R2.length R1.length=true:=gm hl.symm;have e5:aa (ξ R1.length) (ξ R1.length)=true:=ao.mpr rfl;simp only[e1,e2,e3,e4,e5];cases he:mh R1 R2<;>rw[he]at hQ<;>simp only[reduceCtorEq,zAh,τ,σ]<;>(intros;exact hQ)
   . have e1:aa (ξ R1.length) (ξ R2.length)=false:=aw.mpr λh=>hl (Int.ofNat.inj h);rw[af2 hl]at hQ;simp only[e1,reduceCtorEq,zAh,τ,σ];exact hQ
theorem mN{c:UInt8}{a b:Int}:eC (c::s) a b=(if a<=(c.toNat:Int)/\(c.toNat:Int)<=b then 1 else 0)+eC s a b:=by
 grind [eC]
theorem rg{a b:Int}:eC [] a b=0:=rfl
theorem G8{n:Int}:(48<=(d0 n).toNat/\(d0 n).toNat<=57)/\(48<=(d1 n).toNat/\(d1 n).toNat<=57)/\(48<=(d2 n).toNat/\(d2 n).toNat<=57)/\(48<=(d3 n).toNat/\(d3 n).toNat<=57):=by
 grind [oZ,d0,d1,d2,d3]
theorem numL_lt:∀(s:List UInt8) (n:Nat),dV s->s.foldl (λn b=>n*10+(b.toNat-48)) n<(n+1)*10^s.length
 | [],n,_=>by simp
 | b::r,n,h=>by
   have hb:=@pz (b::r) h 0 (by simp);have hb:48<=b.toNat/\b.toNat<=57:=hb;have hr:dV r=true:=by
    grind [dV]
   have ih:=numL_lt r (n*10+(b.toNat-48)) hr;have:(n*10+(b.toNat-48)+1)*10^r.length<=(n+1)*10^(r.length+1):=by
    rw[Nat.pow_succ,<-Nat.mul_assoc,Nat.mul_right_comm];exact Nat.mul_le_mul_right _ (by omega)
   grind
theorem N3{n z0:Int}{k:Nat}(hk:1<=k)(hz:0<=z0):∃t:List UInt8,Δ k (I3 n z0)=Bc (z0%9+1)::t/\(∀c∈Δ k (I3 n z0),48<=c.toNat/\c.toNat<=57)/\(Δ k (I3 n z0)).length<=5/\(k<=5->(Δ k (I3 n z0)).length=k):=by
 obtain⟨h0,h1,h2,h3⟩:=@G8 n;have h9:=oZ (k:=z0%9+1) (by omega);unfold I3
 match k,hk with
 | k+1,_=>
   refine⟨Δ k [d0 n,d1 n,d2 n,d3 n],rfl,λc hc=>?_,?_,λh=>?_⟩<;>grind
theorem zq(h:∀c∈s,48<=c.toNat/\c.toNat<=57):eC s 48 57=s.length/\eC s 88 88=0:=by
 grind [eC,List.length_filter_eq_length_iff,List.filter_eq_nil_iff]
theorem Ke(h:∀c∈s,48<=c.toNat/\c.toNat<=57):dV s=true:=oV (zq h).1
theorem n7{f n z0 z1:Int}(hz0:0<=z0/\z0<=255)(hz1:0<=z1/\z1<=255) :
 (sY f=false/\kQ f z1=0/\(gw f n z0 z1).length=4/\(∀c∈gw f n z0 z1,(48<=c.toNat/\c.toNat<=57)\/c.toNat=88)/\0<=dr f n z0 z1/\dr f n z0 z1<=4/\(0<dr f n z0 z1->∀c∈gw f n z0 z1,48<=c.toNat/\c.toNat<=57))\/
 (sY f/\(∀c∈gw f n z0 z1,48<=c.toNat/\c.toNat<=57)/\1<=(gw f n z0 z1).length/\(gw f n z0 z1).length<=5/\((gw f n z0 z1).getD 0 0).toNat≠48/\0<=kQ f z1/\kQ f z1<=11/\(kQ f z1=0->(gw f n z0 z1).length=5)/\0<=dr f n z0 z1/\dr f n z0 z1<=(gw f n z0 z1).length+kQ f z1):=by
 obtain⟨h0,h1,h2,h3⟩:=@G8 n;have h9:=oZ (k:=z0%9+1) (by omega);by_cases c5:f%6=5
 . right
   have e5:aa (f%6) 5=true:=ao.mpr c5;have e4:aa (f%6) 4=false:=aw.mpr (by omega);have e3:aa (f%6) 3=false:=aw.mpr (by omega);have key:∀(S:List UInt8) (E:Int),gw f n z0 z1=S->kQ f z1=E->(∃t,S=Bc (z0%9+1)::t)->(∀c∈S,48<=c.toNat/\c.toNat<=57)->S.length<=5->0<=E->E<=11->(E=0->S.length=5)->sY f/\(∀c∈gw f n z0 z1,48<=c.toNat/\c.toNat<=57)/\1<=(gw f n z0 z1).length/\(gw f n z0 z1).length<=5/\((gw f n z0 z1).getD 0 0).toNat≠48/\0<=kQ f z1/\kQ f z1<=11/\(kQ f z1=0->(gw f n z0 z1).length=5)/\0<=dr f n z0 z1/\dr f n z0 z1<=(gw f n z0 z1).length+kQ f z1:=by
    intro S E hS hE ⟨t,ht⟩ hd hl e0 e11 he;have hg:dr f n z0 z1=z0/16%(ξ S.length+E+1):=by grind [dr]
    rw[hS,hE,hg];have hl1:1<=S.length:=by grind
    have hm:0<ξ S.length+E+1:=by grind
    have m0:=Int.emod_nonneg (z0/16) (show ξ S.length+E+1≠0 by omega);have m1:=Int.emod_lt_of_pos (z0/16) hm;grind [sY]
   by_cases c3:z1%3<=0
   . have e0:ab (z1%3) 0=true:=aq.mpr c3;refine key (I3 n z0) 0 (by unfold gw;rw[e3,e5,e0];rfl) (by unfold kQ;rw[e5,e0];rfl) ⟨_,rfl⟩ (λc hc=>?_) (Nat.le_refl _) (by omega) (by omega) (λ_=>rfl);unfold I3 at hc;simp only[List.mem_cons,Α,or_false]at hc;rcases hc with rfl|rfl|rfl|rfl|rfl<;>first|assumption|omega
   . have e0:ab (z1%3) 0=false:=bF.mpr (by omega);obtain⟨t,t1,t2,t3,t4⟩:=@N3 n z0 (1+z1%5).toNat (by omega) hz0.1;exact key _ (1+z1/16%11) (by unfold gw;rw[e3,e5,e0];rfl) (by unfold kQ;rw[e5,e0];rfl) ⟨t,t1⟩ t2 t3 (by omega) (by omega) (λh=>by omega)
 . left
   have e5:aa (f%6) 5=false:=aw.mpr c5;have hL:sY f=false:=e5;have hE:kQ f z1=0:=by unfold kQ;rw[e5];rfl
   by_cases c3:f%6=3
   . have e3:aa (f%6) 3=true:=ao.mpr c3;have e4:aa (f%6) 4=false:=aw.mpr (by omega);have hS:gw f n z0 z1=Rh (z0%4) (z1%4) n:=by unfold gw;rw[e3];rfl
     have hG:dr f n z0 z1=0:=by unfold dr;rw[e4,e5];rfl
     rw[hS,hG];refine⟨hL,hE,rfl,λc hc=>?_,by omega,by omega,λh=>by omega⟩;unfold Rh at hc;have sp:∀(b:Bool) (d:UInt8),(48<=d.toNat/\d.toNat<=57)->(48<=(bif b then ν 88 else d).toNat/\(bif b then ν 88 else d).toNat<=57)\/(bif b then ν 88 else d).toNat=88:=λb d hd=>by cases b;exact .inl hd;exact .inr rfl
     simp only[List.mem_cons,Α,or_false]at hc;rcases hc with rfl|rfl|rfl|rfl<;>exact sp _ _ (by assumption)
   . have e3:aa (f%6) 3=false:=aw.mpr c3;have hS:gw f n z0 z1=[d0 n,d1 n,d2 n,d3 n]:=by unfold gw;rw[e3,e5];rfl
     have hd:∀c∈[d0 n,d1 n,d2 n,d3 n],48<=c.toNat/\c.toNat<=57:=λc hc=>by
      simp only[List.mem_cons,Α,or_false]at hc;rcases hc with rfl|rfl|rfl|rfl<;>assumption
     rw[hS];have hG:0<=dr f n z0 z1/\dr f n z0 z1<=4:=by
      unfold dr;rw[e5];cases aa (f%6) 4<;>simp only[zAj]<;>omega
     exact⟨hL,hE,rfl,λc hc=>.inl (hd c hc),hG.1,hG.2,λ_=>hd⟩
theorem DO:∀{s:List UInt8},(∀c∈s,(48<=c.toNat/\c.toNat<=57)\/c.toNat=88)->eC s 48 57+eC s 88 88=s.length
 | [],_=>rfl
 | c::r,h=>by
   have ih:=DO (s:=r) λd hd=>h d (by grind);grind [mN]
theorem B9(h:∀c∈s,48<=c.toNat/\c.toNat<=57):eC s 88 88=0:=(zq h).2
theorem ER{e:Int}(h:∀c∈s,48<=c.toNat/\c.toNat<=57)(hl:s.length<=5)(he:0<=e/\e<=11):cF s e.toNat<10000000000000000:=by
 have h1:=numL_lt s 0 (Ke h);have h1:numL s<(0+1)*10^s.length:=h1;have h2:(10:Nat)^s.length<=10^5:=Nat.pow_le_pow_right (by decide) hl;have h3:(10:Nat)^e.toNat<=10^11:=Nat.pow_le_pow_right (by decide) (by omega);have h4:(1:Nat)<=10^e.toNat:=Nat.pos_of_ne_zero (by simp);have h5:numL s<10^5:=by omega
 unfold cF;have:numL s*10^e.toNat<10^5*10^e.toNat:=Nat.mul_lt_mul_of_pos_right h5 h4;omega
theorem Tc(hz0:0<=z0/\z0<=255)(hz1:0<=z1/\z1<=255):aV false (sY f) (gw f n z0 z1) (kQ f z1) (dr f n z0 z1)=true:=by
 grind [aV,n7,DO,zq,magOk,al,ER]
theorem Po{f:Int}{ng:Bool}{n z0 z1:Int}(hz0:0<=z0/\z0<=255)(hz1:0<=z1/\z1<=255):aV (qV f ng n z0 z1) (sY f) (gw f n z0 z1) (kQ f z1) (dr f n z0 z1)=true:=by
 grind [qV,Tc]
theorem Tw(hz0:0<=z0/\z0<=255)(hz1:0<=z1/\z1<=255)(hx:eC (gw f n z0 z1) 88 88=0):cF (gw f n z0 z1) (kQ f z1).toNat≠10000000000000000:=by
 have hd:∀c∈gw f n z0 z1,c.toNat≠88:=Oo hx;rcases @n7 f n z0 z1 hz0 hz1 with⟨a1,a2,a3,a4,a5,a6,a7⟩|⟨a1,a2,a3,a4,a5,a6,a7,a8,a9,a10⟩<;>grind [ER]
def yz(m:Int):Int:=if m=2 then 28 else if m=4\/m=6\/m=9\/m=11 then 30 else 31
theorem ID(y m:Int):yz m<=bP y m:=by
 unfold bP Go.Proofs.YtcffhjfdlflbgaaGreatDoor.mlen yz;have:=Go.Proofs.YtcffhjfdlflbgaaGreatDoor.lp_01 y;omega
def Kd(k:Nat):Bool:=ae (Av (ξ k)) [] || (!(aa (aR (Av (ξ k))) 0) || eW (Av (ξ k)) 12)
def Mt(k j:Nat):Bool:=ae (Av (ξ k)) [] || (!(aa (aR (Av (ξ k))) 0) || (ae (Gt (ξ j) (Av (ξ k))) [] || (eW (Gt (ξ j) (Av (ξ k))) 31&&((Co (Av (ξ k)) 12).any λm=>(Co (Gt (ξ j) (Av (ξ k))) 31).any λd=>decide (d<=yz m)))))
theorem Iw:(List.range 40).all Kd=true:=by rfl
def II:(List.range 40).all (λk=>(List.range 40).all (Mt k))=true:=by kernel_rfl
theorem ai1{c0 c1 c2 c3:UInt8}(h:∀c∈[c0,c1,c2,c3],(48<=c.toNat/\c.toNat<=57)\/c.toNat=88)(hx:eC [c0,c1,c2,c3] 88 88≠0):∃k:Int,1<=k/\nS c0 c1 c2 c3 k:=by
 have g0:=h c0 (by simp);have g1:=h c1 (by simp);have g2:=h c2 (by simp);have g3:=h c3 (by simp);have v:∀c:UInt8,((48<=c.toNat/\c.toNat<=57)\/c.toNat=88)->∃d:Int,0<=d/\d<=9/\(c.toNat=88\/(c.toNat:Int)=48+d)/\(c.toNat=88->d=9):=λc hc=>by
  rcases hc with hc|hc
  . exact⟨c.toNat-48,by omega,by omega,.inr (by omega),λe=>by omega⟩
  simp_all
 obtain⟨a0,p0,q0,r0,s0⟩:=v c0 g0;obtain⟨a1,p1,q1,r1,s1⟩:=v c1 g1;obtain⟨a2,p2,q2,r2,s2⟩:=v c2 g2;obtain⟨a3,p3,q3,r3,s3⟩:=v c3 g3;have some:c0.toNat=88\/c1.toNat=88\/c2.toNat=88\/c3.toNat=88:=by
  grind [mN,rg]
 refine⟨1000*a0+100*a1+10*a2+a3,by omega,by omega,by omega,?_,?_,?_,?_⟩<;>grind [mt]
theorem Fh{f:Int}{ng:Bool}{n z0 z1:Int}(hz0:0<=z0/\z0<=255)(hz1:0<=z1/\z1<=255):∃k,mK (qV f ng n z0 z1) (gw f n z0 z1) (kQ f z1) k/\-9223372036854775808<=k:=by
 have hk:=@Po f ng n z0 z1 hz0 hz1;by_cases hx:eC (gw f n z0 z1) 88 88=0
 . obtain⟨he,hl,hdg,hmk,hmv⟩:=Bk hk hx;refine⟨dY (qV f ng n z0 z1) (gw f n z0 z1) (kQ f z1),?_,?_⟩
   . simp_all [mK]
   grind [dY]
 . rcases @n7 f n z0 z1 hz0 hz1 with⟨a1,a2,a3,a4,a5,a6,a7⟩|⟨a1,a2,a3,a4,a5,a6,a7,a8,a9,a10⟩
   . generalize gw f n z0 z1=s at *
     match s,a3 with
     | [c0,c1,c2,c3],_=>
       obtain⟨k,k1,k2⟩:=ai1 a4 hx;have hb:ς (eC [c0,c1,c2,c3] 88 88) 0=false:=ic hx;have k3:=k2.2.1;cases qV f ng n z0 z1 with
       | false=>exact⟨k,by grind [mK],by omega⟩
       | true=>exact⟨-k,by grind [mK],by omega⟩
   grind [B9]
theorem QB{ng:Bool}{m d x y z:Int}(hz0:0<=z0/\z0<=255)(hz1:0<=z1/\z1<=255)(hmk:errMk x y z (dq (jZ f n z0 z1 m) (nY f n z0 z1 m d))=0):bW (qV f ng n z0 z1) (sY f) (gw f n z0 z1) (kQ f z1) (dr f n z0 z1) (jZ f n z0 z1 m) (nY f n z0 z1 m d) x y z=0:=by
 have hk:=@Po f ng n z0 z1 hz0 hz1;obtain⟨i,hi,ei⟩:∃i:Nat,i<40/\m%40=ξ i:=⟨(m%40).toNat,by omega,by grind⟩;obtain⟨j,hj,ej⟩:∃j:Nat,j<40/\d%40=ξ j:=⟨(d%40).toNat,by omega,by grind⟩;have cm:Kd i=true:=List.all_eq_true.1 Iw i (List.mem_range.2 hi);have cd:Mt i j=true:=List.all_eq_true.1 (List.all_eq_true.1 II i (List.mem_range.2 hi)) j (List.mem_range.2 hj);have n1:ae ([]:List UInt8) []=true:=rfl;have hmo:jZ f n z0 z1 m=[]\/(dr f n z0 z1=0/\jZ f n z0 z1 m=Av (ξ i)):=by
  unfold jZ;cases hg:aa (dr f n z0 z1) 0 with
  | false=>simp
  | true=>exact .inr ⟨ao.mp hg,by grind⟩
 have hda:nY f n z0 z1 m d=[]\/(ae (jZ f n z0 z1 m) []=false/\aR (jZ f n z0 z1 m)=0/\nY f n z0 z1 m d=Gt (ξ j) (jZ f n z0 z1 m)):=by
  unfold nY;cases h:(!(ae (jZ f n z0 z1 m) [])&&aa (aR (jZ f n z0 z1 m)) 0)<;>grind [ao]
 have hyr:oc (qV f ng n z0 z1) (sY f) (gw f n z0 z1) (kQ f z1) (dr f n z0 z1) (jZ f n z0 z1 m)=true:=by
  grind [oc,Tw]
 have hM:¬(ae (jZ f n z0 z1 m) []=false/\aR (jZ f n z0 z1 m)=0/\eW (jZ f n z0 z1 m) 12=false):=λ⟨h1,h2,h3⟩=>by
  rcases hmo with e|⟨_,e⟩
  . grind
  . rw[e]at h1 h2 h3;unfold Kd at cm;rw[h1,h3,h2]at cm;cases cm
 have hday:ae (nY f n z0 z1 m d) []=false->ae (jZ f n z0 z1 m) []=false/\aR (jZ f n z0 z1 m)=0/\eW (nY f n z0 z1 m d) 31/\((Co (jZ f n z0 z1 m) 12).any λm'=>(Co (nY f n z0 z1 m d) 31).any λd'=>decide (d'<=yz m'))=true:=λh=>by
  rcases hda with e|⟨e1,e2,e3⟩
  . grind
  . refine⟨e1,e2,?_⟩;rcases hmo with e|⟨_,e⟩
    . grind
    . rw[e]at e1 e2 e3 ⊢;rw[e3]at h ⊢;unfold Mt at cd;rw[e1,e2,h]at cd;have cd:(eW (Gt (ξ j) (Av (ξ i))) 31&&((Co (Av (ξ i)) 12).any λm=>(Co (Gt (ξ j) (Av (ξ i))) 31).any λd=>decide (d<=yz m)))=true:=cd;grind
 have hD:¬(ae (nY f n z0 z1 m d) []=false/\(ae (jZ f n z0 z1 m) []\/0<aR (jZ f n z0 z1 m)\/eW (nY f n z0 z1 m d) 31=false)):=λ⟨h1,h2⟩=>by
  grind
 have hE:nH (qV f ng n z0 z1) (sY f) (gw f n z0 z1) (kQ f z1) (dr f n z0 z1) (jZ f n z0 z1 m) (nY f n z0 z1 m d) x y z=0:=by
  grind [nH]
 unfold bW;rw[hE];cases hd:ae (nY f n z0 z1 m d) []with
 | true=>rfl
 | false=>
   obtain⟨_,_,_,g4⟩:=hday hd;have hF:qK (qV f ng n z0 z1) (gw f n z0 z1) (kQ f z1) (jZ f n z0 z1 m) (nY f n z0 z1 m d)=true:=by
    unfold qK;rw[zg hk (Mr hk) hd (by decide) _ _ (Nat.le_refl _)];obtain⟨k,k1,k2⟩:=@Fh f ng n z0 z1 hz0 hz1;obtain⟨a,ha,g⟩:=List.any_eq_true.1 g4;obtain⟨b,hb,g⟩:=List.any_eq_true.1 g;exact⟨k,k1,k2,a,ha,b,hb,Int.le_trans (of_decide_eq_true g) (ID k a)⟩
   rw[hF];rfl
def Fc:aav:=λ
 | [.b 14 0 n K,.b 15 0 n2 K2],[.a w false none,.a w2 false none]=>some (aH [eJ w,eJ w2,ς (g8 w).length n,ς (g8 w2).length n2,Γ n 1000,Γ n2 1000] (.a0 ((bI (mh (g8 w) (g8 w2))),[])))
 | [.b 14 0 n K,.d],[.a w false none]=>some (aH [Γ 1 n,eJ w,ς (g8 w).length n] (.a0 (.a .i64 0,[])))
 | [.d,.b 14 0 n K],[.a w false none]=>some (aH [Γ 1 n,eJ w,ς (g8 w).length n] (.a0 (.a .i64 0,[])))
 | [.d,.d],[]=>some (.a0 (.a .i64 1,[]))
 | _,_=>none
def Nd:aQ:=eQ gZ 38 (fl 14 [4,4] Fc)
theorem aeC:∀{cs vs:List AV},cs.length=vs.length->F8 cs vs=vs
 | [],[],_=>rfl
 | _::cs,v::vs,h=>by rw[F8,aeC (cs:=cs) (vs:=vs) (by grind)]
theorem WV:∀x∈([]:List cD),cR 14 x:=λx hx=>by grind
theorem ama{R:List Rn}(h:1<=R.length):bu Tryz.prog cfg 38 [.b 14 0 R.length K,.d] [.a (bh R) false none] (.a .i64 0) []:=by
 refine ns aW jz ai (.t .z) (R:=λQ=>not (aa (ξ R.length) 0)/\Q (.a .i64 0)) (λ_=>by rfl) λQ' hQ=>?_;have e1:aa (ξ R.length) 0=false:=aw.mpr (by grind);grind
theorem amv{R:List Rn}(h:1<=R.length):bu Tryz.prog cfg 38 [.d,.b 14 0 R.length K] [.a (bh R) false none] (.a .i64 0) []:=by
 refine ns aW jz ai (.t .z) (R:=λQ=>not (aa 0 (ξ R.length))/\Q (.a .i64 0)) (λ_=>by rfl) λQ' hQ=>?_;have e1:aa 0 (ξ R.length)=false:=aw.mpr (by grind);grind
theorem am8:bu Tryz.prog cfg 38 [.d,.d] [] (.a .i64 1) []:=P0 aW (L:=jE) (ws:=[]) WV ahG (by simp) ai (eD λQ' hQ=>cg (ao7.mpr (hQ _ rfl))) (by rfl)
theorem amQ(hS:ak Tryz.prog cfg S):ak Tryz.prog cfg (eQ S 38 (fl 14 [4,4] Fc)):=by
 refine bm hS (fW dI.lv Az λargs ws t r he hr=>?_);unfold Fc at he;split at he
 . rename_i n K n2 K2 w w2;cases he;replace hr:=aF hr;obtain⟨⟨h1,h2,h3,h4,h5,h6,-⟩,hr⟩:=hr;rw[aJ]at h3 h4;rw[al]at h5;subst h3 h4;cases hr;grind [anU,hZ]
 . rename_i n K w;cases he;replace hr:=aF hr;obtain⟨⟨h1,h2,h3,-⟩,hr⟩:=hr;rw[al]at h1;rw[aJ]at h3;subst h3;cases hr;grind [ama,hZ]
 . rename_i n K w;cases he;replace hr:=aF hr;obtain⟨⟨h1,h2,h3,-⟩,hr⟩:=hr;rw[al]at h1;rw[aJ]at h3;subst h3;cases hr;grind [amv,hZ]
 . cases he;cases hr;grind [am8]
 grind
theorem adf:ak Tryz.prog cfg Nd:=amQ aW
end Go.Ev
