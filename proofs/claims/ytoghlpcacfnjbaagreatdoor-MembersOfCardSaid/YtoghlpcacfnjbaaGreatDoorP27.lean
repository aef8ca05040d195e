import Derived.Test.YtoghlpcacfnjbaaGreatDoorP26
set_option linter.all false
set_option maxRecDepth 100000
set_option maxHeartbeats 4000000
namespace Go.Ev
open Go Go.Proofs
variable{d p:Int}{S:aR}
def XD:d9:=λvs o=>match vs,o with
 | [.int .i64 y,.int .i64 m,.int .i64 d,.int .i64 a,.int .i64 k],⟨0,[],[]⟩=>some (aH [eB y,ab 1 m,ab m 13,aa a (bf y),aa k 1] (.ret (.exit 0,[.int .i64 y,.int .i64 m,.int .i64 d,.int .i64 (aG y m),.int .i64 m],dO)))
 | _,_=>none
def L14:cz:=iz io 0 (eb 25 [0,1,2,7,8] XD)
def ZP:dJ:=λargs=>match args with
 | [.int .i64 y,.int .i64 m,.int .i64 d]=>some (aH [eB y,ab 1 m,ab m 13,ab 1 d,ab d 31] (.ret (.int .i64 (aG y m+d-1))))
 | _=>none
def WO:dJ:=λargs=>match args with
 | [.int .i64 d]=>some (aH [ae .i64 d] (.ret (.int .i64 (bI (bR d)))))
 | _=>none
def R3:aR:=aY (aY R2 75 ZP) 108 WO
def Sv:d9:=λvs o=>match vs,o with
 | [.int .i64 d,.int .i64 y],⟨0,[],[]⟩=>some (aH [bR d,eB y,ab (bf y) d] (.ret (.exit 0,[.int .i64 d,.int .i64 (aJ d)],dO)))
 | _,_=>none
def Y9:cz:=iz io 0 (eb 23 [0,4] Sv)
def Wa:dJ:=λargs=>match args with
 | [.int .i64 d]=>some (aH [bR d] (.ret (.int .i64 (aJ d))))
 | _=>none
def R4:aR:=aY R3 109 Wa
def RQ:d9:=λvs o=>match vs,o with
 | [.int .i64 d,.int .i64 y,.int .i64 m],⟨0,[],[]⟩=>some (aH [bR d,aa y (aJ d),aa m 1] (.ret (.exit 0,[.int .i64 d,.int .i64 y,.int .i64 (bu d)],dO)))
 | _,_=>none
def XX:cz:=iz io 0 (eb 20 [0,3,4] RQ)
def Vl:dJ:=λargs=>match args with
 | [.int .i64 d]=>some (aH [bR d] (.ret (.int .i64 (bu d))))
 | _=>none
def R5:aR:=aY R4 110 Vl
def YW(y m d a k:Int)(J:Nat->Value){Q:VQ->Prop}:fx Q (rT R2 io [] 75 0 25 [0,1,2,7,8] [.int .i64 y,.int .i64 m,.int .i64 d,.int .i64 a,.int .i64 k] J dO) (bA 11704)=((λ(E F G:AV)(A:Bool)(B C:Int)=>(A->ae .i64 y/\ae .i64 B/\ae .i64 C/\Q (.normal,[E,F,G,.int .i64 B,.int .i64 C],⟨0,[],[]⟩))/\(A=false->Q (.exit 0,[E,F,G,.int .i64 a,.int .i64 k],⟨0,[],[]⟩))) (.int .i64 y) (.int .i64 m) (.int .i64 d) (not (ab m k)) (Int.add a (dX y k)) (Int.add k 1)):=by kernel_rfl
def QD:bh tab 75=some (dC 75,aN 75):=by kernel_rfl
def NC:bh tab 109=some (dC 109,aN 109):=by kernel_rfl
def NL:bh tab 110=some (dC 110,aN 110):=by kernel_rfl
def N4:(bj (aN 75)).map (·.1)=[0]:=by kernel_rfl
def I1:(bj (aN 109)).map (·.1)=[0]:=by kernel_rfl
def Li:(bj (aN 110)).map (·.1)=[0]:=by kernel_rfl
theorem dQ:bR d=true↔-3652425000000000000<=d/\d<=3652425000000000365:=by unfold bR;rw[zAa,ao,ao]
theorem Y5:cx Tryz.prog (cH cfg R2) (Cw cfg []) (lb 75 0) 25 [0,1,2,7,8] XD:=by
 intro vs o t Q hv hq J;unfold XD at hv;split at hv
 . rename_i y m d a k;cases hv;replace hq:=cL hq;obtain⟨⟨h1,h2,h3,h4,h5,-⟩,hq⟩:=hq;rw[bV]at h1;rw[ao]at h2 h3;rw[al]at h4 h5;subst h4 h5;have hq:Q (.exit 0,[.int .i64 y,.int .i64 m,.int .i64 d,.int .i64 (aG y m),.int .i64 m],dO):=hq;refine im B1 rfl rfl ag (ι:={k:Int // 1<=k/\k<=m}) (λx=>[.int .i64 y,.int .i64 m,.int .i64 d,.int .i64 (aG y x.1),.int .i64 x.1]) (λ_=>dO) (λx=>(m-x.1).toNat) 0 (λ_=>Nat.le_refl _) (λx J=>?_) (Nat.le_refl _) (λJ=>Wk.refl ⟨⟨1,by omega,h2⟩,J,by rw[show aG y (⟨1,by omega,h2⟩:{k:Int // 1<=k/\k<=m}).1=bf y from Go.Proofs.YtoghlpcacfnjbaaGreatDoor.mst_1 y]⟩) J;obtain⟨k,hk⟩:=x;dsimp only;have hb : -3652425000000000001<=aG y k/\aG y k<=3652425000000000800:=Go.Proofs.YtoghlpcacfnjbaaGreatDoor.mst_bd y k h1 hk.1 (by omega);have hl:28<=dX y k/\dX y k<=31:=Go.Proofs.YtoghlpcacfnjbaaGreatDoor.mlen_bd y k;have hs:k<=12->aG y (k+1)=aG y k+dX y k:=λh=>Go.Proofs.YtoghlpcacfnjbaaGreatDoor.mst_succ y k hk.1 h;refine dD λQ' hQ=>bG ((YW y m d _ k J).mpr ?_);simp only[az,reduceCtorEq]
   (repeat' first|exact trivial|refine⟨?_,?_⟩|intro)<;>first|omega|refine hQ _ ?_
   . exact⟨⟨k+1,by omega⟩,by dsimp only;omega,VW.of_eq (by dsimp only;rw[hs (by omega)]) rfl⟩
   . obtain rfl:k=m:=by omega
     exact⟨_,_,VW.refl,hq⟩
 . cases hv
theorem tP:ak Tryz.prog cfg R3:=by
 refine au (au B1 λargs t v he hv=>?_) λargs t v he hv=>?_
 . unfold ZP at he;split at he
   . rename_i y m d;cases he;obtain⟨⟨h1,h2,h3,h4,h5,-⟩,hv⟩:=aF hv;rw[bV]at h1;rw[ao]at h2 h3 h4 h5;cases hv;have hb : -3652425000000000001<=aG y m/\aG y m<=3652425000000000800:=Go.Proofs.YtoghlpcacfnjbaaGreatDoor.mst_bd y m h1 h2 h3;refine kw B1 (L:=L14) QD (by simp) (dv N4 λi hi e he st Q hw=>?_) (jT (bA 12202270) (R:=λQ=>(λ(A:Bool)(B:Int)=>(λ(C:Int)=>and A (ab y 10000000000000001)/\and A (ab y 10000000000000000)/\ab 1 m/\ab m 13/\aa (bf y) (bf y)/\(∀J1:Nat->Value,ae .i64 B/\ae .i64 C/\Q (.int .i64 C))) (Int.sub B 1)) (ab (Neg.neg 10000000000000000) y) (Int.add (aG y m) d)) (λ_=>by kernel_rfl) λQ' hQ=>?_) (by simp[aD])
     . have hi:i=0:=by simp at hi;omega
       subst hi;cases he;exact b7 (cF.good B1) (by decide) rfl Y5 hw
     . have hy:=bV.2 h1;simp only[az,reduceCtorEq]
       (repeat' first|exact trivial|refine⟨?_,?_⟩|intro)<;>first|omega|assumption|exact hQ _ rfl
   . cases he
 . unfold WO at he;split at he
   . rename_i d;cases he;obtain⟨h1,hv⟩:=bK hv;rw[aB]at h1;simp only[dP,dR]at h1;cases hv;refine iI B1 ag (bA 102338114320200202002400) (R:=λQ=>(λ(C E:Bool)(F:Prop)=>(λ(A:Bool)=>(λ(B:Prop)=>(A->A/\A/\A/\A/\A/\C=false/\(E->F)/\(E=false->Q (.int .i64 1)))/\(B->B/\B/\B/\B/\B/\C/\F)) (A=false)) (not C)) (not (ab (bf (Neg.neg 10000000000000000)) d)) (not (ab d 3652425000000000365)) (Q (.int .i64 0))) (λ_=>by kernel_rfl) λQ' hQ=>?_;try dsimp only
     have e1:bf (-10000000000000000) = -3652425000000000000:=by decide
     have e2:bf 10000000000000000=3652425000000000000:=by decide
     have e3:ii 10000000000000000=1:=by decide
     have yes:(-3652425000000000000<=d/\d<=3652425000000000365)->Q' (.int .i64 1):=λh=>hQ _ (by rw[dQ.2 h];rfl);have no:¬(-3652425000000000000<=d/\d<=3652425000000000365)->Q' (.int .i64 0):=λh=>hQ _ (by
      have:bR d=false:=by rw[<-Bool.not_eq_true,dQ];exact h
      rw[this];rfl)
     simp only[az,reduceCtorEq];try simp only[e1,e2,e3]
     (repeat' first|exact trivial|refine⟨?_,?_⟩|intro)<;>first|omega|exact yes (by omega)|exact no (by omega)|skip
   . cases he
theorem UL:cx Tryz.prog (cH cfg R3) (Cw cfg []) (lb 109 0) 23 [0,4] Sv:=by
 intro vs o t Q hv hq J;unfold Sv at hv;split at hv
 . rename_i d y;cases hv;replace hq:=cL hq;obtain⟨⟨h1,h2,h3,-⟩,hq⟩:=hq;rw[dQ]at h1;rw[bV]at h2;rw[ao]at h3;have hq:Q (.exit 0,[.int .i64 d,.int .i64 (aJ d)],dO):=hq;refine im tP rfl rfl ag (ι:={y:Int // (-10000000000000000<=y/\y<=10000000000000000)/\bf y<=d}) (λx=>[.int .i64 d,.int .i64 x.1]) (λ_=>dO) (λx=>(10000000000000001-x.1).toNat) 0 (λ_=>Nat.le_refl _) (λx J=>?_) (Nat.le_refl _) (λJ=>Wk.refl ⟨⟨y,h2,h3⟩,J,rfl⟩) J;obtain⟨z,hz,hd⟩:=x;dsimp only;have top:bf (z+1)<=d->z+1<=10000000000000000:=λh=>by
    have h4:bf (z+1)<Go.Proofs.YtoghlpcacfnjbaaGreatDoor.yst 10000000000000001:=by rw[KR];omega
    have:=λh5:10000000000000001<=z+1=>Go.Proofs.YtoghlpcacfnjbaaGreatDoor.yst_le h5;unfold bf at h4;omega
   have fin:d<bf (z+1)->aJ d=z:=λh=>Go.Proofs.YtoghlpcacfnjbaaGreatDoor.yOf_unique hd h;refine jT (bA 1124202) (R:=λQ=>(λ(B:AV)(A:Int)=>(λ(C E:Bool)=>C/\and (ab (Neg.neg 10000000000000000) A) (ab A 10000000000000001)/\(E->C/\Q (.normal,[B,.int .i64 A],⟨0,[],[]⟩))/\(E=false->Q (.exit 0,[B,.int .i64 z],⟨0,[],[]⟩))) (ae .i64 A) (ab (bf A) d)) (.int .i64 d) (Int.add z 1)) (λ_=>by kernel_rfl) λQ' hQ=>?_;simp only[az,reduceCtorEq]
   (repeat' first|exact trivial|refine⟨?_,?_⟩|intro)<;>first|omega|refine hQ _ ?_
   . exact⟨⟨z+1,by have:=top (by assumption);omega,by assumption⟩,by dsimp only;omega,VW.of_eq rfl rfl⟩
   . rw[fin (by omega)]at hq;exact⟨_,_,VW.refl,hq⟩
 . cases hv
theorem FC:ak Tryz.prog cfg R4:=by
 refine au tP λargs t v he hv=>?_;unfold Wa at he;split at he
 . rename_i d;cases he;obtain⟨h1,hv⟩:=bK hv;have h1':=h1;rw[dQ]at h1;cases hv;have hf:cV d 146097*146097<=d/\d<=cV d 146097*146097+146096:=by unfold cV;omega
   refine kw tP (L:=Y9) NC (by simp) (dv I1 λi hi e he st Q hw=>?_) (jT (bA 122707020) (R:=λQ=>(λ(B:Int)=>(λ(C E:Int)=>(λ(F:Int)=>(λ(G:Int)=>(λ(A:Int)=>ae .i64 d/\ae .i64 C/\ae .i64 E/\ae .i64 F/\ae .i64 G/\ae .i64 A/\and (ab (Neg.neg 3652425000000000000) d) (ab d 3652425000000000365)/\and (ab (Neg.neg 10000000000000000) A) (ab A 10000000000000000)/\ab (bf A) d/\(∀J1:Nat->Value,Q (.int .i64 (aJ d)))) (Int.add C G)) (Int.tdiv F 366)) (Int.sub d E)) (Int.mul B 400) (Int.mul B 146097)) (cV d 146097)) (λ_=>by kernel_rfl) λQ' hQ=>?_) (by simp[aD])
   . have hi:i=0:=by simp at hi;omega
     subst hi;cases he;exact b7 (cF.good tP) (by decide) rfl UL hw
   . try dsimp only
     have t1:(d-cV d 146097*146097).tdiv 366=(d-cV d 146097*146097)/366:=Int.tdiv_eq_ediv_of_nonneg (by omega);have key:bf (cV d 146097*400+(d-cV d 146097*146097)/366)<=d:=by
      unfold bf;rw[show cV d 146097*400=400*cV d 146097 by omega,Go.Proofs.YtoghlpcacfnjbaaGreatDoor.yst_cycle];unfold Go.Proofs.YtoghlpcacfnjbaaGreatDoor.yst Go.Proofs.YtoghlpcacfnjbaaGreatDoor.before;generalize cV d 146097=q at *;have hr:0<=d-q*146097:=by omega
      have hc:(d-q*146097)/366*366<=d-q*146097:=by omega
      generalize (d-q*146097)/366=c at *;have:c<=0\/1<=c:=by omega
      rcases this with h|h<;>omega
     have bnd : -10000000000000000<=cV d 146097*400+(d-cV d 146097*146097)/366/\cV d 146097*400+(d-cV d 146097*146097)/366<=10000000000000000:=by
      generalize cV d 146097=q at *;omega
     have bnd':=bV.2 bnd;simp only[az,reduceCtorEq];simp only[t1]
     (repeat' first|exact trivial|refine⟨?_,?_⟩|intro)<;>first|omega|assumption|exact hQ _ rfl
 . cases he
theorem TP:cx Tryz.prog (cH cfg R4) (Cw cfg []) (lb 110 0) 20 [0,3,4] RQ:=by
 intro vs o t Q hv hq J;unfold RQ at hv;split at hv
 . rename_i d y m;cases hv;replace hq:=cL hq;obtain⟨⟨h1,h2,h3,-⟩,hq⟩:=hq;rw[al]at h2 h3;subst h2 h3;have hy:Go.Proofs.YtoghlpcacfnjbaaGreatDoor.okY (aJ d):=pq.2 h1;obtain⟨s1,s2⟩:=Go.Proofs.YtoghlpcacfnjbaaGreatDoor.yOf_spec d;have hq:Q (.exit 0,[.int .i64 d,.int .i64 (aJ d),.int .i64 (bu d)],dO):=hq;refine im FC rfl rfl ag (ι:={m:Int // (1<=m/\m<=12)/\aG (aJ d) m<=d}) (λx=>[.int .i64 d,.int .i64 (aJ d),.int .i64 x.1]) (λ_=>dO) (λx=>(13-x.1).toNat) 0 (λ_=>Nat.le_refl _) (λx J=>?_) (Nat.le_refl _) (λJ=>Wk.refl ⟨⟨1,by omega,by show Go.Proofs.YtoghlpcacfnjbaaGreatDoor.mst _ 1<=d;rw[Go.Proofs.YtoghlpcacfnjbaaGreatDoor.mst_1];exact s1⟩,J,rfl⟩) J;obtain⟨m,hm,hd⟩:=x;dsimp only;have fin:m=12\/d<aG (aJ d) (m+1)->bu d=m:=λh=>by
    refine Go.Proofs.YtoghlpcacfnjbaaGreatDoor.mOf_unique hm.1 hd ?_;rcases h with rfl|h
    . show d<Go.Proofs.YtoghlpcacfnjbaaGreatDoor.mst _ 13;rw[Go.Proofs.YtoghlpcacfnjbaaGreatDoor.mst_next,Go.Proofs.YtoghlpcacfnjbaaGreatDoor.mst_1];exact s2
    . exact h
   refine jT (bA 1088112470070274) (R:=λQ=>(λ(E F:AV)(A:Bool)(C:Int)=>(λ(G H:Bool)(B I:Prop)=>(A->A/\A/\G/\A/\and (ab (Neg.neg 10000000000000000) (aJ d)) (ab (aJ d) 10000000000000000)/\ab 1 C/\ab C 13/\A/\A/\A/\(H->G/\Q (.normal,[E,F,.int .i64 C],⟨0,[],[]⟩))/\(H=false->I))/\(B->B/\B/\B/\B/\B/\B/\I)) (ae .i64 C) (ab (HSub.hSub (HAdd.hAdd (aG (aJ d) C) 1) 1) d) (A=false) (Q (.exit 0,[E,F,.int .i64 m],⟨0,[],[]⟩))) (.int .i64 d) (.int .i64 (aJ d)) (not (ab 12 m)) (Int.add m 1)) (λ_=>by kernel_rfl) λQ' hQ=>?_;try dsimp only
   have hyb:=bV.2 hy;have hy2 : -10000000000000000<=aJ d/\aJ d<=10000000000000000:=hy;simp only[az,reduceCtorEq]
   (repeat' first|exact trivial|refine⟨?_,?_⟩|intro)<;>first|omega|assumption|refine hQ _ ?_
   . exact⟨⟨m+1,by omega,by omega⟩,by dsimp only;omega,VW.of_eq rfl rfl⟩
   all_goals
    rw[fin (by omega)]at hq;exact⟨_,_,VW.refl,hq⟩
 . cases hv
theorem Fo:ak Tryz.prog cfg R5:=by
 refine au FC λargs t v he hv=>?_;unfold Vl at he;split at he
 . rename_i d;cases he;obtain⟨h1,hv⟩:=bK hv;have h1':=h1;rw[dQ]at h1;cases hv;refine kw FC (L:=XX) NL (by simp) (dv Li λi hi e he st Q hw=>?_) (jT (bA 1070) (R:=λQ=>(λ(A:Bool)=>A/\A/\aa (aJ d) (aJ d)/\(∀J1:Nat->Value,Q (.int .i64 (bu d)))) (and (ab (Neg.neg 3652425000000000000) d) (ab d 3652425000000000365))) (λ_=>by kernel_rfl) λQ' hQ=>?_) (by simp[aD])
   . have hi:i=0:=by simp at hi;omega
     subst hi;cases he;exact b7 (cF.good FC) (by decide) rfl TP hw
   . have hy : -10000000000000000<=aJ d/\aJ d<=10000000000000000:=pq.2 h1';simp only[az,reduceCtorEq]
     (repeat' first|exact trivial|refine⟨?_,?_⟩|intro)<;>first|omega|assumption|exact hQ _ rfl
 . cases he
def R6:aR:=aY (aY (aY (aY (aY (aY R5 164 Qf) 154 PE) 191 PT) 208 Pp) 155 QF) 210 PS
def jZ(i:Int):Int:=i%12
def Uv:dJ:=λargs=>match args with
 | [.int .i64 i]=>some (aH [ae .i64 i,eB (cV i 12)] (.ret (.tuple [.int .i64 (aG (cV i 12) (jZ i+1)),.int .i64 (aG (cV i 12) (jZ i+2)-1),.int .i64 0])))
 | _=>none
def R7:aR:=aY R6 167 Uv
def jS(d p:Int):Bool:=aa p 3 || bR d
def vI(d p:Int):Int:=bif aa p 3 then d else bif aa p 1 then bf (aJ d)else aG (aJ d) (bu d)
def AF(d p:Int):Int:=bif aa p 3 then d else bif aa p 1 then bf (aJ d)+364+ii (aJ d)else aG (aJ d) (bu d)+dX (aJ d) (bu d)-1
def kJ(d p:Int):Tr AV:=.test (ab 1 p&&ab p 3) λb=>bif b then(.test (jS d p) λc=>bif c then .ret (.tuple [kD 0 (vI d p) 0 (AF d p),.int .i64 0])else .ret (.tuple [kD 0 0 0 0,.int .i64 6]))else .ret (.tuple [kD 0 0 0 0,.int .i64 18])
def ZZ:dJ:=λargs=>match args with
 | [.int .i64 d,.int .i64 p]=>some (aH [ae .i64 d] (kJ d p))
 | _=>none
def Ln:dJ:=λargs=>match args with
 | [.int .i64 d,.int .u8 p]=>some (aH [ae .i64 d] (kJ d p))
 | _=>none
theorem FK:ak Tryz.prog cfg R6:=bm (bm (bm (bm (RW (bm Fo (wg 164 _ rfl))) (A6 191 _ rfl)) (A6 208 _ rfl)) (Dz 155 _ rfl)) (AM 210 _ rfl)
theorem P7{i:Int}:(i.tmod 12<0->i.tmod 12+12=jZ i)/\(0<=i.tmod 12->i.tmod 12=jZ i):=by
 obtain⟨k1,k2⟩:=@Cv i 12 (by decide);have h1:=Int.mul_tdiv_add_tmod i 12;unfold jZ;unfold cV at k1 k2;refine⟨λh=>?_,λh=>?_⟩
 . have:=k1 h;omega
 . have:=k2 h;omega
theorem vA:ak Tryz.prog cfg R7:=by
 refine au FK λargs t v he hv=>?_;unfold Uv at he;split at he
 . rename_i i;cases he;obtain⟨⟨h1,h2,-⟩,hv⟩:=aF hv;rw[aB]at h1;simp only[dP,dR]at h1;cases hv;refine iI FK ag (bA 111002202440211100220244074020) (R:=λQ=>(λ(O:AV)(A F:Int)=>(λ(G P:Bool)(B C T:Int)=>(λ(H I U:Bool)(E:Int)=>(λ(N V:Bool)=>ae .i64 A/\(P->ae .i64 B/\ae .i64 T/\V/\(H->(N->V/\H/\N/\Q (.tuple [.int .i64 (aG B E),.int .i64 (HSub.hSub (aG B (HAdd.hAdd E 1)) 1),O]))/\(N=false->False))/\(H=false->False))/\(P=false->U/\(G->(I->U/\G/\I/\Q (.tuple [.int .i64 (aG A C),.int .i64 (HSub.hSub (aG A (HAdd.hAdd C 1)) 1),O]))/\(I=false->False))/\(G=false->False))) (qD E) (ae .i64 E)) (eB B) (qD C) (ae .i64 C) (Int.add T 1)) (eB A) (not (ab 0 F)) (Int.sub A 1) (Int.add F 1) (Int.add F 12)) (.int .i64 0) (Int.tdiv i 12) (Int.tmod i 12)) (λ_=>by kernel_rfl) λQ' hQ=>?_;try dsimp only
   obtain⟨k1,k2⟩:=@Cv i 12 (by decide);obtain⟨m1,m2⟩:=@P7 i;have tb:=Go.Proofs.YtoghlpcacfnjbaaGreatDoor.tdiv_bd i 12 (by decide) h1.1 h1.2;have mb:0<=jZ i/\jZ i<=11:=by unfold jZ;omega
   have e2:jZ i+1+1=jZ i+2:=by omega
   have om:qD (jZ i+1)=true:=gz.2 (by omega);by_cases hn:i.tmod 12<0
   . have k1:=k1 hn;have m1:=m1 hn;clear k2 m2;simp only[show Int.sub (i.tdiv 12) 1=i.tdiv 12-1 from rfl,show Int.add (i.tmod 12) 12=i.tmod 12+12 from rfl,k1,m1,show Int.add (jZ i) 1=jZ i+1 from rfl,e2];simp only[az,reduceCtorEq]
     (repeat' first|exact trivial|refine⟨?_,?_⟩|intro)<;>first|contradiction|omega|assumption|exact hQ _ rfl|(exfalso;simp_all;done)
   . have k2:=k2 (by omega);have m2:=m2 (by omega);clear k1 m1;rw[k2]at tb;simp only[k2,m2,show Int.add (jZ i) 1=jZ i+1 from rfl,e2];simp only[az,reduceCtorEq]
     (repeat' first|exact trivial|refine⟨?_,?_⟩|intro)<;>first|contradiction|omega|assumption|exact hQ _ rfl|(exfalso;simp_all;done)
 . cases he
theorem Fk(h:¬(1<=p/\p<=3)):(kJ d p).run=some (.tuple [kD 0 0 0 0,.int .i64 18]):=by
 have e:(ab 1 p&&ab p 3)=false:=by rw[<-Bool.not_eq_true,zAa,ao,ao];exact h
 simp only[kJ,Tr.run,e,cond_false]
theorem Mi:(kJ d 3).run=some (.tuple [kD 0 d 0 d,.int .i64 0]):=rfl
theorem MG(h:bR d):jS d p=true:=by unfold jS;rw[h,Bool.or_true]
theorem Pf(h:bR d):(kJ d 1).run=some (.tuple [kD 0 (bf (aJ d)) 0 (bf (aJ d)+364+ii (aJ d)),.int .i64 0]):=by
 have e0:(ab 1 1&&ab 1 3)=true:=rfl;simp only[kJ,Tr.run,e0,MG h,cond_true];rfl
theorem PQ(h:bR d):(kJ d 2).run=some (.tuple [kD 0 (aG (aJ d) (bu d)) 0 (aG (aJ d) (bu d)+dX (aJ d) (bu d)-1),.int .i64 0]):=by
 have e0:(ab 1 2&&ab 2 3)=true:=rfl;simp only[kJ,Tr.run,e0,MG h,cond_true];rfl
theorem Kr(h:bR d=false)(hp:p=1\/p=2):(kJ d p).run=some (.tuple [kD 0 0 0 0,.int .i64 6]):=by
 have e0:(ab 1 p&&ab p 3)=true:=by rw[zAa,ao,ao];omega
 have e1:jS d p=false:=by unfold jS;rw[h,Bool.or_false,ay];omega
 simp only[kJ,Tr.run,e0,e1,zAj]
theorem AC{v:AV}(h:(kJ d p).run=some v):aD v=[]:=by
 have hc:bR d\/bR d=false:=by cases bR d<;>simp
 have hp:¬(1<=p/\p<=3)\/p=1\/p=2\/p=3:=by omega
 have key:∀u,(kJ d p).run=some u->aD u=[]->aD v=[]:=λu hu hi=>by
  rw[hu]at h;cases h;exact hi
 rcases hp with hp|rfl|rfl|rfl
 . exact key _ (Fk hp) (by simp[aD,bz])
 . rcases hc with hc|hc
   . exact key _ (Pf hc) (by simp[aD,bz])
   . exact key _ (Kr hc (.inl rfl)) (by simp[aD,bz])
 . rcases hc with hc|hc
   . exact key _ (PQ hc) (by simp[aD,bz])
   . exact key _ (Kr hc (.inr rfl)) (by simp[aD,bz])
 . exact key _ Mi (by simp[aD,bz])
theorem g8(h:bR d):(-10000000000000000<=aJ d/\aJ d<=10000000000000000)/\(1<=bu d/\bu d<=12)/\(-3652425000000000001<=bf (aJ d)/\bf (aJ d)<=3652425000000000400)/\(-3652425000000000001<=aG (aJ d) (bu d)/\aG (aJ d) (bu d)<=3652425000000000800)/\(28<=dX (aJ d) (bu d)/\dX (aJ d) (bu d)<=31)/\(0<=ii (aJ d)/\ii (aJ d)<=1):=by
 have hy : -10000000000000000<=aJ d/\aJ d<=10000000000000000:=pq.2 h;have hm:1<=bu d/\bu d<=12:=⟨(Go.Proofs.YtoghlpcacfnjbaaGreatDoor.mOf_spec d).1,(Go.Proofs.YtoghlpcacfnjbaaGreatDoor.mOf_spec d).2.1⟩;exact⟨hy,hm,Go.Proofs.YtoghlpcacfnjbaaGreatDoor.yst_bd _ hy.1 (by omega),Go.Proofs.YtoghlpcacfnjbaaGreatDoor.mst_bd _ _ hy hm.1 (by omega),Go.Proofs.YtoghlpcacfnjbaaGreatDoor.mlen_bd _ _,Go.Proofs.YtoghlpcacfnjbaaGreatDoor.lp_01 _⟩
theorem Z3{v:AV}(hd : -9223372036854775808<=d/\d<=9223372036854775807)(hv:(kJ d p).run=some v):bt Tryz.prog cfg 62 [.int .i64 d,.int .i64 p] [] v []:=by
 cases hc:bR d with
 | true=>
   obtain⟨hY,hM,c1,c2,c3,c4⟩:=g8 hc;refine iI Fo ag (bA 100231100070007000224003320201000220220200204104201004104324) (R:=λQ=>(λ(A E O:AV)(F G N:Bool)(B C:Int)=>(λ(P:AV)(H I T U W Y:Bool)(V Z:Int)=>(λ(u1 u2:Int)(u0 u3:Prop)=>(λ(u4:Int)=>(H->H/\G=false/\(N->u0)/\(N=false->(aa p 3->Q (.tuple [.agg [A,O,A,O],E]))/\(aa p 3=false->ae .i64 d/\(T->Q (.tuple [P,.int .i64 6]))/\(T=false->(aa p 1->F/\U/\U/\ae .i64 V/\W/\ae .i64 u1/\Q (.tuple [.agg [A,.int .i64 (bf B),A,.int .i64 u1],E]))/\(aa p 1=false->F/\F/\aa C 0=false/\not (ab C 12)=false/\(I->ab 1 C/\Y/\I/\ab 1 C/\Y/\W/\ae .i64 u2/\ae .i64 u4/\Q (.tuple [.agg [A,.int .i64 Z,A,.int .i64 u4],E]))/\(I=false->False))))))/\(u3->u3/\G/\u0)) (Int.sub u2 1)) (Int.add V (ii B)) (Int.add Z (dX B C)) (Q (.tuple [P,.int .i64 18])) (H=false)) (.agg [A,E,A,E]) (not G) (eB B) (aa (cond F 1 0) 0) (and (ab (Neg.neg 10000000000000000) B) (ab B 10000000000000001)) (ae .i64 B) (ab C 13) (Int.add (bf B) 364) (HSub.hSub (HAdd.hAdd (aG B C) 1) 1)) (.int .i8 0) (.int .i64 0) (.int .i64 d) (bR d) (not (ab 1 p)) (not (ab p 3)) (aJ d) (bu d)) (λ_=>by kernel_rfl) (hi:=(AC hv)) λQ' hQ=>?_;try dsimp only
   have fin:∀u,(kJ d p).run=some u->Q' u:=λu hu=>hQ _ (Option.some.inj (hu.symm.trans hv));have hyb:=bV.2 hY;clear hQ hv;simp only[hc,cond_true];have hp:¬(1<=p/\p<=3)\/p=1\/p=2\/p=3:=by omega
   have e1:aG (aJ d) (bu d)+1-1=aG (aJ d) (bu d):=by omega
   rcases hp with hp|rfl|rfl|rfl
   . have k:=fin _ (Fk hp);simp only[az,reduceCtorEq]
     (repeat' first|exact trivial|refine⟨?_,?_⟩|intro)<;>first|contradiction|omega|assumption|(exfalso;simp_all;done)
   . have k:=fin _ (Pf hc);simp only[az,reduceCtorEq]
     (repeat' first|exact trivial|refine⟨?_,?_⟩|intro)<;>first|contradiction|omega|assumption|(exfalso;simp_all;done)
   . have k:=fin _ (PQ hc);simp only[e1];simp only[az,reduceCtorEq]
     (repeat' first|exact trivial|refine⟨?_,?_⟩|intro)<;>first|contradiction|omega|assumption|(exfalso;simp_all;done)
   . have k:=fin _ Mi;simp only[az,reduceCtorEq]
     (repeat' first|exact trivial|refine⟨?_,?_⟩|intro)<;>first|contradiction|omega|assumption|(exfalso;simp_all;done)
 | false=>
   refine iI Fo ag (bA 100231301304104201004104324) (R:=λQ=>(λ(A C G:AV)(B F H:Bool)(I:Prop)=>(λ(N:AV)(E:Bool)=>(λ(O P:Prop)=>(E->E/\B=false/\(F->O)/\(F=false->(aa p 3->Q (.tuple [.agg [A,G,A,G],C]))/\(aa p 3=false->ae .i64 d/\(H->Q (.tuple [N,.int .i64 6]))/\(H=false->(aa p 1->I)/\(aa p 1=false->I)))))/\(P->P/\B/\O)) (Q (.tuple [N,.int .i64 18])) (E=false)) (.agg [A,C,A,C]) (not B)) (.int .i8 0) (.int .i64 0) (.int .i64 d) (not (ab 1 p)) (not (ab p 3)) (aa (cond (bR d) 1 0) 0) (bR d=false/\False)) (λ_=>by kernel_rfl) (hi:=(AC hv)) λQ' hQ=>?_;try dsimp only
   have fin:∀u,(kJ d p).run=some u->Q' u:=λu hu=>hQ _ (Option.some.inj (hu.symm.trans hv));clear hQ hv;simp only[hc,cond_false];have hp:¬(1<=p/\p<=3)\/(p=1\/p=2)\/p=3:=by omega
   rcases hp with hp|hp|rfl
   . have k:=fin _ (Fk hp);simp only[az,reduceCtorEq]
     (repeat' first|exact trivial|refine⟨?_,?_⟩|intro)<;>first|contradiction|omega|assumption|(exfalso;simp_all;done)
   . have k:=fin _ (Kr hc hp);simp only[az,reduceCtorEq]
     (repeat' first|exact trivial|refine⟨?_,?_⟩|intro)<;>first|contradiction|omega|assumption|(exfalso;simp_all;done)
   . have k:=fin _ Mi;simp only[az,reduceCtorEq]
     (repeat' first|exact trivial|refine⟨?_,?_⟩|intro)<;>first|contradiction|omega|assumption|(exfalso;simp_all;done)
theorem Wv{v:AV}(hd : -9223372036854775808<=d/\d<=9223372036854775807)(hv:(kJ d p).run=some v):bt Tryz.prog cfg 65 [.int .i64 d,.int .u8 p] [] v []:=by
 have ids:=AC hv;have hp:¬(1<=p/\p<=3)\/p=1\/p=2\/p=3:=by omega
 rcases hp with hp|rfl|rfl|rfl
 . refine iI vA ag (bA 100331074) (R:=λQ=>(λ(C E:AV)(A:Bool)=>(λ(B F:Prop)=>(A->A/\A/\not (ab p 3)/\F)/\(B->B/\B/\F)) (A=false) (Q (.tuple [.agg [C,E,C,E],.int .i64 18]))) (.int .i8 0) (.int .i64 0) (ab 1 p)) (λ_=>by kernel_rfl) (hi:=ids) λQ' hQ=>?_;try dsimp only
   have fin:∀u,(kJ d p).run=some u->Q' u:=λu hu=>hQ _ (Option.some.inj (hu.symm.trans hv));simp only[az,reduceCtorEq]
   (repeat' first|exact trivial|refine⟨?_,?_⟩|intro)<;>first|contradiction|omega|assumption|exact fin _ (Fk hp)
 . cases hc:bR d with
   | true=>
     obtain⟨hY,hM,c1,c2,c3,c4⟩:=g8 hc;refine iI vA ag (bA 1105204000220006) (R:=λQ=>(λ(C:AV)(A:Int)=>(λ(B:Bool)=>ae .i64 d/\bR d/\(B->B/\Q (.tuple [.agg [C,.int .i64 (bf A),C,.int .i64 (HSub.hSub (bf (HAdd.hAdd A 1)) 1)],.int .i64 0]))/\(B=false->False)) (eB A)) (.int .i8 0) (aJ d)) (λ_=>by kernel_rfl) (hi:=ids) λQ' hQ=>?_;try dsimp only
     have fin:∀u,(kJ d 1).run=some u->Q' u:=λu hu=>hQ _ (Option.some.inj (hu.symm.trans hv));have hyb:=bV.2 hY;have e:bf (aJ d+1)-1=bf (aJ d)+364+ii (aJ d):=by
      have:bf (aJ d+1)=bf (aJ d)+365+ii (aJ d):=Go.Proofs.YtoghlpcacfnjbaaGreatDoor.yst_succ _;omega
     rw[e];simp only[az,reduceCtorEq]
     (repeat' first|exact trivial|refine⟨?_,?_⟩|intro)<;>first|contradiction|omega|assumption|exact fin _ (Pf hc)|(exfalso;simp_all;done)
   | false=>
     refine iI vA ag (bA 100320006) (R:=λQ=>ae .i64 d/\bR d=false/\Q (.tuple [.agg [.int .i8 0,.int .i64 0,.int .i8 0,.int .i64 0],.int .i64 6])) (λ_=>by kernel_rfl) (hi:=ids) λQ' hQ=>?_;have fin:∀u,(kJ d 1).run=some u->Q' u:=λu hu=>hQ _ (Option.some.inj (hu.symm.trans hv));simp only[az,reduceCtorEq]
     (repeat' first|exact trivial|refine⟨?_,?_⟩|intro)<;>first|contradiction|omega|assumption|exact fin _ (Kr hc (.inl rfl))
 . cases hc:bR d with
   | true=>
     obtain⟨hY,hM,c1,c2,c3,c4⟩:=g8 hc;refine iI vA ag (bA 11000420002270006) (R:=λQ=>(λ(E:AV)(C:Int)=>(λ(F:Int)=>(λ(A:Int)=>(λ(G:Bool)(B:Int)=>ae .i64 d/\bR d/\ae .i64 C/\ae .i64 F/\G/\G/\(eB B->Q (.tuple [.agg [E,.int .i64 (aG B (HAdd.hAdd (jZ A) 1)),E,.int .i64 (HSub.hSub (aG B (HAdd.hAdd (jZ A) 2)) 1)],.int .i64 0]))/\(eB B=false->False)) (ae .i64 A) (cV A 12)) (Int.sub F 1)) (Int.add C (bu d))) (.int .i8 0) (Int.mul 12 (aJ d))) (λ_=>by kernel_rfl) (hi:=ids) λQ' hQ=>?_;try dsimp only
     have fin:∀u,(kJ d 2).run=some u->Q' u:=λu hu=>hQ _ (Option.some.inj (hu.symm.trans hv));have hyb:=bV.2 hY;have e1:cV (Int.sub (Int.add (Int.mul 12 (aJ d)) (bu d)) 1) 12=aJ d:=by
      show(12*aJ d+bu d-1)/12=aJ d;omega
     have e2:jZ (Int.sub (Int.add (Int.mul 12 (aJ d)) (bu d)) 1)=bu d-1:=by
      show(12*aJ d+bu d-1)%12=bu d-1;omega
     have e3:aG (aJ d) (bu d+1)-1=aG (aJ d) (bu d)+dX (aJ d) (bu d)-1:=by
      have:aG (aJ d) (bu d+1)=aG (aJ d) (bu d)+dX (aJ d) (bu d):=Go.Proofs.YtoghlpcacfnjbaaGreatDoor.mst_succ _ _ hM.1 hM.2;omega
     rw[e1,e2,show bu d-1+1=bu d by omega,show bu d-1+2=bu d+1 by omega,e3];simp only[az,reduceCtorEq]
     (repeat' first|exact trivial|refine⟨?_,?_⟩|intro)<;>first|contradiction|omega|assumption|exact fin _ (PQ hc)|(exfalso;simp_all;done)
   | false=>
     refine iI vA ag (bA 105320006) (R:=λQ=>ae .i64 d/\bR d=false/\Q (.tuple [.agg [.int .i8 0,.int .i64 0,.int .i8 0,.int .i64 0],.int .i64 6])) (λ_=>by kernel_rfl) (hi:=ids) λQ' hQ=>?_;have fin:∀u,(kJ d 2).run=some u->Q' u:=λu hu=>hQ _ (Option.some.inj (hu.symm.trans hv));simp only[az,reduceCtorEq]
     (repeat' first|exact trivial|refine⟨?_,?_⟩|intro)<;>first|contradiction|omega|assumption|exact fin _ (Kr hc (.inr rfl))
 . refine iI vA ag (bA 100056) (R:=λQ=>Q (.tuple [.agg [.int .i8 0,.int .i64 d,.int .i8 0,.int .i64 d],.int .i64 0])) (λ_=>by kernel_rfl) (hi:=ids) λQ' hQ=>?_;exact hQ _ (Option.some.inj (Mi.symm.trans hv))
theorem VY(hS:ak Tryz.prog cfg S):ak Tryz.prog cfg (aY S 62 ZZ):=au hS λargs t v he hv=>by
 unfold ZZ at he;split at he
 . cases he;obtain⟨h1,hv⟩:=bK hv;rw[aB]at h1;simp only[dP,dR]at h1;exact Z3 h1 hv
 . cases he
theorem EG(hS:ak Tryz.prog cfg S):ak Tryz.prog cfg (aY S 65 Ln):=au hS λargs t v he hv=>by
 unfold Ln at he;split at he
 . cases he;obtain⟨h1,hv⟩:=bK hv;rw[aB]at h1;simp only[dP,dR]at h1;exact Wv h1 hv
 . cases he
end Go.Ev
