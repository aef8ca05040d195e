import Derived.Test.YtoghlpcacfnjbaaGreatDoorP26
set_option linter.all false
set_option maxRecDepth 100000
set_option maxHeartbeats 4000000
namespace Go.Ev
open Go Go.Proofs
variable{d p:Int}{S:aQ}
def Yd:dW:=λvs o=>match vs,o with
 | [.a .i64 y,.a .i64 m,.a .i64 d,.a .i64 a,.a .i64 k],⟨0,[],[]⟩=>some (aH [eO y,ab 1 m,ab m 13,aa a (bf y),aa k 1] (.a0 (.b 0,[.a .i64 y,.a .i64 m,.a .i64 d,.a .i64 (aG y m),.a .i64 m],dO)))
 | _,_=>none
def L14:cx:=iz jE 0 (d9 25 [0,1,2,7,8] Yd)
def s14:dP:=λargs=>match args with
 | [.a .i64 y,.a .i64 m,.a .i64 d]=>some (aH [eO y,ab 1 m,ab m 13,ab 1 d,ab d 31] (.a0 (.a .i64 (aG y m+d-1))))
 | _=>none
def Wl:dP:=λargs=>match args with
 | [.a .i64 d]=>some (aH [af .i64 d] (.a0 (.a .i64 (bI (cE d)))))
 | _=>none
def R3:aQ:=bb (bb R2 75 s14) 108 Wl
def SC:dW:=λvs o=>match vs,o with
 | [.a .i64 d,.a .i64 y],⟨0,[],[]⟩=>some (aH [cE d,eO y,ab (bf y) d] (.a0 (.b 0,[.a .i64 d,.a .i64 (aN d)],dO)))
 | _,_=>none
def XX:cx:=iz jE 0 (d9 23 [0,4] SC)
def V_:dP:=λargs=>match args with
 | [.a .i64 d]=>some (aH [cE d] (.a0 (.a .i64 (aN d))))
 | _=>none
def R4:aQ:=bb R3 109 V_
def RF:dW:=λvs o=>match vs,o with
 | [.a .i64 d,.a .i64 y,.a .i64 m],⟨0,[],[]⟩=>some (aH [cE d,aa y (aN d),aa m 1] (.a0 (.b 0,[.a .i64 d,.a .i64 y,.a .i64 (bZ d)],dO)))
 | _,_=>none
def ZA:cx:=iz jE 0 (d9 20 [0,3,4] RF)
def Xv:dP:=λargs=>match args with
 | [.a .i64 d]=>some (aH [cE d] (.a0 (.a .i64 (bZ d))))
 | _=>none
def R5:aQ:=bb R4 110 Xv
def Za(y m d a k:Int)(J:Nat->Value){Q:VQ->Prop}:gG Q (rT R2 jE [] 75 0 25 [0,1,2,7,8] [.a .i64 y,.a .i64 m,.a .i64 d,.a .i64 a,.a .i64 k] J dO) (bE 11704)=((λ(E F G:AV)(A:Bool)(B C:Int)=>(A->af .i64 y/\af .i64 B/\af .i64 C/\Q (.a,[E,F,G,.a .i64 B,.a .i64 C],⟨0,[],[]⟩))/\(A=false->Q (.b 0,[E,F,G,.a .i64 a,.a .i64 k],⟨0,[],[]⟩))) (.a .i64 y) (.a .i64 m) (.a .i64 d) (not (ab m k)) (Int.add a (d6 y k)) (Int.add k 1)):=by kernel_rfl
def TA:bj tab 75=some (dH 75,aL 75):=by kernel_rfl
def Ok:bj tab 109=some (dH 109,aL 109):=by kernel_rfl
def Nu:bj tab 110=some (dH 110,aL 110):=by kernel_rfl
def NG:(bz (aL 75)).map (·.1)=[0]:=by kernel_rfl
def Km:(bz (aL 109)).map (·.1)=[0]:=by kernel_rfl
def JD:(bz (aL 110)).map (·.1)=[0]:=by kernel_rfl
theorem dR:cE d=true↔-3652425000000000000<=d/\d<=3652425000000000365:=by unfold cE;rw[zAa,aq,aq]
theorem Zh:cu Tryz.prog (cH cfg R2) (Cw cfg []) (lb 75 0) 25 [0,1,2,7,8] Yd:=by
 intro vs o t Q hv hq J;unfold Yd at hv;split at hv
 . rename_i y m d a k;cases hv;replace hq:=cO hq;obtain⟨⟨h1,h2,h3,h4,h5,-⟩,hq⟩:=hq;rw[bX]at h1;rw[aq]at h2 h3;rw[ao]at h4 h5;subst h4 h5;have hq:Q (.b 0,[.a .i64 y,.a .i64 m,.a .i64 d,.a .i64 (aG y m),.a .i64 m],dO):=hq;refine ia DC rfl rfl ai (ι:={k:Int // 1<=k/\k<=m}) (λx=>[.a .i64 y,.a .i64 m,.a .i64 d,.a .i64 (aG y x.1),.a .i64 x.1]) (λ_=>dO) (λx=>(m-x.1).toNat) 0 (λ_=>Nat.le_refl _) (λx J=>?_) (Nat.le_refl _) (λJ=>Wk.a0 ⟨⟨1,by omega,h2⟩,J,by rw[show aG y (⟨1,by omega,h2⟩:{k:Int // 1<=k/\k<=m}).1=bf y from Go.Proofs.YtoghlpcacfnjbaaGreatDoor.mst_1 y]⟩) J;obtain⟨k,hk⟩:=x;dsimp only;have hb : -3652425000000000001<=aG y k/\aG y k<=3652425000000000800:=Go.Proofs.YtoghlpcacfnjbaaGreatDoor.mst_bd y k h1 hk.1 (by omega);have hl:28<=d6 y k/\d6 y k<=31:=Go.Proofs.YtoghlpcacfnjbaaGreatDoor.mlen_bd y k;have hs:k<=12->aG y (k+1)=aG y k+d6 y k:=λh=>Go.Proofs.YtoghlpcacfnjbaaGreatDoor.mst_succ y k hk.1 h;refine e8 λQ' hQ=>cg ((Za y m d _ k J).mpr ?_);simp only[az,reduceCtorEq]
   (repeat' first|exact trivial|refine⟨?_,?_⟩|intro)<;>first|omega|refine hQ _ ?_
   . exact⟨⟨k+1,by omega⟩,by dsimp only;omega,VW.a0 (by dsimp only;rw[hs (by omega)]) rfl⟩
   . obtain rfl:k=m:=by omega
     exact⟨_,_,VW.b0,hq⟩
 . cases hv
theorem vW:ak Tryz.prog cfg R3:=by
 refine au (au DC λargs t v he hv=>?_) λargs t v he hv=>?_
 . unfold s14 at he;split at he
   . rename_i y m d;cases he;obtain⟨⟨h1,h2,h3,h4,h5,-⟩,hv⟩:=aF hv;rw[bX]at h1;rw[aq]at h2 h3 h4 h5;cases hv;have hb : -3652425000000000001<=aG y m/\aG y m<=3652425000000000800:=Go.Proofs.YtoghlpcacfnjbaaGreatDoor.mst_bd y m h1 h2 h3;refine kV DC (L:=L14) TA (by simp) (dv NG λi hi e he st Q hw=>?_) (jJ (bE 12202270) (R:=λQ=>(λ(A:Bool)(B:Int)=>(λ(C:Int)=>and A (ab y 10000000000000001)/\and A (ab y 10000000000000000)/\ab 1 m/\ab m 13/\aa (bf y) (bf y)/\(∀J1:Nat->Value,af .i64 B/\af .i64 C/\Q (.a .i64 C))) (Int.sub B 1)) (ab (Neg.neg 10000000000000000) y) (Int.add (aG y m) d)) (λ_=>by kernel_rfl) λQ' hQ=>?_) (by simp[aC])
     . have hi:i=0:=by simp at hi;omega
       subst hi;cases he;exact bR (cC.a0 DC) (by decide) rfl Zh hw
     . have hy:=bX.2 h1;simp only[az,reduceCtorEq]
       (repeat' first|exact trivial|refine⟨?_,?_⟩|intro)<;>first|omega|assumption|exact hQ _ rfl
   . cases he
 . unfold Wl at he;split at he
   . rename_i d;cases he;obtain⟨h1,hv⟩:=bO hv;rw[aE]at h1;simp only[eH,eE]at h1;cases hv;refine jD DC ai (bE 102338114320200202002400) (R:=λQ=>(λ(C E:Bool)(F:Prop)=>(λ(A:Bool)=>(λ(B:Prop)=>(A->A/\A/\A/\A/\A/\C=false/\(E->F)/\(E=false->Q (.a .i64 1)))/\(B->B/\B/\B/\B/\B/\C/\F)) (A=false)) (not C)) (not (ab (bf (Neg.neg 10000000000000000)) d)) (not (ab d 3652425000000000365)) (Q (.a .i64 0))) (λ_=>by kernel_rfl) λQ' hQ=>?_;try dsimp only
     have e1:bf (-10000000000000000) = -3652425000000000000:=by decide
     have e2:bf 10000000000000000=3652425000000000000:=by decide
     have e3:iE 10000000000000000=1:=by decide
     have yes:(-3652425000000000000<=d/\d<=3652425000000000365)->Q' (.a .i64 1):=λh=>hQ _ (by rw[dR.2 h];rfl);have no:¬(-3652425000000000000<=d/\d<=3652425000000000365)->Q' (.a .i64 0):=λh=>hQ _ (by
      have:cE d=false:=by rw[<-Bool.not_eq_true,dR];exact h
      rw[this];rfl)
     simp only[az,reduceCtorEq];try simp only[e1,e2,e3]
     (repeat' first|exact trivial|refine⟨?_,?_⟩|intro)<;>first|omega|exact yes (by omega)|exact no (by omega)|skip
   . cases he
theorem Xe:cu Tryz.prog (cH cfg R3) (Cw cfg []) (lb 109 0) 23 [0,4] SC:=by
 intro vs o t Q hv hq J;unfold SC at hv;split at hv
 . rename_i d y;cases hv;replace hq:=cO hq;obtain⟨⟨h1,h2,h3,-⟩,hq⟩:=hq;rw[dR]at h1;rw[bX]at h2;rw[aq]at h3;have hq:Q (.b 0,[.a .i64 d,.a .i64 (aN d)],dO):=hq;refine ia vW rfl rfl ai (ι:={y:Int // (-10000000000000000<=y/\y<=10000000000000000)/\bf y<=d}) (λx=>[.a .i64 d,.a .i64 x.1]) (λ_=>dO) (λx=>(10000000000000001-x.1).toNat) 0 (λ_=>Nat.le_refl _) (λx J=>?_) (Nat.le_refl _) (λJ=>Wk.a0 ⟨⟨y,h2,h3⟩,J,rfl⟩) J;obtain⟨z,hz,hd⟩:=x;dsimp only;have top:bf (z+1)<=d->z+1<=10000000000000000:=λh=>by
    have h4:bf (z+1)<Go.Proofs.YtoghlpcacfnjbaaGreatDoor.yst 10000000000000001:=by rw[Lu];omega
    have:=λh5:10000000000000001<=z+1=>Go.Proofs.YtoghlpcacfnjbaaGreatDoor.yst_le h5;unfold bf at h4;omega
   have fin:d<bf (z+1)->aN d=z:=λh=>Go.Proofs.YtoghlpcacfnjbaaGreatDoor.yOf_unique hd h;refine jJ (bE 1124202) (R:=λQ=>(λ(B:AV)(A:Int)=>(λ(C E:Bool)=>C/\and (ab (Neg.neg 10000000000000000) A) (ab A 10000000000000001)/\(E->C/\Q (.a,[B,.a .i64 A],⟨0,[],[]⟩))/\(E=false->Q (.b 0,[B,.a .i64 z],⟨0,[],[]⟩))) (af .i64 A) (ab (bf A) d)) (.a .i64 d) (Int.add z 1)) (λ_=>by kernel_rfl) λQ' hQ=>?_;simp only[az,reduceCtorEq]
   (repeat' first|exact trivial|refine⟨?_,?_⟩|intro)<;>first|omega|refine hQ _ ?_
   . exact⟨⟨z+1,by have:=top (by assumption);omega,by assumption⟩,by dsimp only;omega,VW.a0 rfl rfl⟩
   . rw[fin (by omega)]at hq;exact⟨_,_,VW.b0,hq⟩
 . cases hv
theorem GS:ak Tryz.prog cfg R4:=by
 refine au vW λargs t v he hv=>?_;unfold V_ at he;split at he
 . rename_i d;cases he;obtain⟨h1,hv⟩:=bO hv;have h1':=h1;rw[dR]at h1;cases hv;have hf:dc d 146097*146097<=d/\d<=dc d 146097*146097+146096:=by unfold dc;omega
   refine kV vW (L:=XX) Ok (by simp) (dv Km λi hi e he st Q hw=>?_) (jJ (bE 122707020) (R:=λQ=>(λ(B:Int)=>(λ(C E:Int)=>(λ(F:Int)=>(λ(G:Int)=>(λ(A:Int)=>af .i64 d/\af .i64 C/\af .i64 E/\af .i64 F/\af .i64 G/\af .i64 A/\and (ab (Neg.neg 3652425000000000000) d) (ab d 3652425000000000365)/\and (ab (Neg.neg 10000000000000000) A) (ab A 10000000000000000)/\ab (bf A) d/\(∀J1:Nat->Value,Q (.a .i64 (aN d)))) (Int.add C G)) (Int.tdiv F 366)) (Int.sub d E)) (Int.mul B 400) (Int.mul B 146097)) (dc d 146097)) (λ_=>by kernel_rfl) λQ' hQ=>?_) (by simp[aC])
   . have hi:i=0:=by simp at hi;omega
     subst hi;cases he;exact bR (cC.a0 vW) (by decide) rfl Xe hw
   . try dsimp only
     have t1:(d-dc d 146097*146097).tdiv 366=(d-dc d 146097*146097)/366:=Int.tdiv_eq_ediv_of_nonneg (by omega);have key:bf (dc d 146097*400+(d-dc d 146097*146097)/366)<=d:=by
      unfold bf;rw[show dc d 146097*400=400*dc d 146097 by omega,Go.Proofs.YtoghlpcacfnjbaaGreatDoor.yst_cycle];unfold Go.Proofs.YtoghlpcacfnjbaaGreatDoor.yst Go.Proofs.YtoghlpcacfnjbaaGreatDoor.before;generalize dc d 146097=q at *;have hr:0<=d-q*146097:=by omega
      have hc:(d-q*146097)/366*366<=d-q*146097:=by omega
      generalize (d-q*146097)/366=c at *;have:c<=0\/1<=c:=by omega
      rcases this with h|h<;>omega
     have bnd : -10000000000000000<=dc d 146097*400+(d-dc d 146097*146097)/366/\dc d 146097*400+(d-dc d 146097*146097)/366<=10000000000000000:=by
      generalize dc d 146097=q at *;omega
     have bnd':=bX.2 bnd;simp only[az,reduceCtorEq];simp only[t1]
     (repeat' first|exact trivial|refine⟨?_,?_⟩|intro)<;>first|omega|assumption|exact hQ _ rfl
 . cases he
theorem US:cu Tryz.prog (cH cfg R4) (Cw cfg []) (lb 110 0) 20 [0,3,4] RF:=by
 intro vs o t Q hv hq J;unfold RF at hv;split at hv
 . rename_i d y m;cases hv;replace hq:=cO hq;obtain⟨⟨h1,h2,h3,-⟩,hq⟩:=hq;rw[ao]at h2 h3;subst h2 h3;have hy:Go.Proofs.YtoghlpcacfnjbaaGreatDoor.okY (aN d):=pO.2 h1;obtain⟨s1,s2⟩:=Go.Proofs.YtoghlpcacfnjbaaGreatDoor.yOf_spec d;have hq:Q (.b 0,[.a .i64 d,.a .i64 (aN d),.a .i64 (bZ d)],dO):=hq;refine ia GS rfl rfl ai (ι:={m:Int // (1<=m/\m<=12)/\aG (aN d) m<=d}) (λx=>[.a .i64 d,.a .i64 (aN d),.a .i64 x.1]) (λ_=>dO) (λx=>(13-x.1).toNat) 0 (λ_=>Nat.le_refl _) (λx J=>?_) (Nat.le_refl _) (λJ=>Wk.a0 ⟨⟨1,by omega,by show Go.Proofs.YtoghlpcacfnjbaaGreatDoor.mst _ 1<=d;rw[Go.Proofs.YtoghlpcacfnjbaaGreatDoor.mst_1];exact s1⟩,J,rfl⟩) J;obtain⟨m,hm,hd⟩:=x;dsimp only;have fin:m=12\/d<aG (aN d) (m+1)->bZ d=m:=λh=>by
    refine Go.Proofs.YtoghlpcacfnjbaaGreatDoor.mOf_unique hm.1 hd ?_;rcases h with rfl|h
    . show d<Go.Proofs.YtoghlpcacfnjbaaGreatDoor.mst _ 13;rw[Go.Proofs.YtoghlpcacfnjbaaGreatDoor.mst_next,Go.Proofs.YtoghlpcacfnjbaaGreatDoor.mst_1];exact s2
    . exact h
   refine jJ (bE 1088112470070274) (R:=λQ=>(λ(E F:AV)(A:Bool)(C:Int)=>(λ(G H:Bool)(B I:Prop)=>(A->A/\A/\G/\A/\and (ab (Neg.neg 10000000000000000) (aN d)) (ab (aN d) 10000000000000000)/\ab 1 C/\ab C 13/\A/\A/\A/\(H->G/\Q (.a,[E,F,.a .i64 C],⟨0,[],[]⟩))/\(H=false->I))/\(B->B/\B/\B/\B/\B/\B/\I)) (af .i64 C) (ab (HSub.hSub (HAdd.hAdd (aG (aN d) C) 1) 1) d) (A=false) (Q (.b 0,[E,F,.a .i64 m],⟨0,[],[]⟩))) (.a .i64 d) (.a .i64 (aN d)) (not (ab 12 m)) (Int.add m 1)) (λ_=>by kernel_rfl) λQ' hQ=>?_;try dsimp only
   have hyb:=bX.2 hy;have hy2 : -10000000000000000<=aN d/\aN d<=10000000000000000:=hy;simp only[az,reduceCtorEq]
   (repeat' first|exact trivial|refine⟨?_,?_⟩|intro)<;>first|omega|assumption|refine hQ _ ?_
   . exact⟨⟨m+1,by omega,by omega⟩,by dsimp only;omega,VW.a0 rfl rfl⟩
   all_goals
    rw[fin (by omega)]at hq;exact⟨_,_,VW.b0,hq⟩
 . cases hv
theorem Hq:ak Tryz.prog cfg R5:=by
 refine au GS λargs t v he hv=>?_;unfold Xv at he;split at he
 . rename_i d;cases he;obtain⟨h1,hv⟩:=bO hv;have h1':=h1;rw[dR]at h1;cases hv;refine kV GS (L:=ZA) Nu (by simp) (dv JD λi hi e he st Q hw=>?_) (jJ (bE 1070) (R:=λQ=>(λ(A:Bool)=>A/\A/\aa (aN d) (aN d)/\(∀J1:Nat->Value,Q (.a .i64 (bZ d)))) (and (ab (Neg.neg 3652425000000000000) d) (ab d 3652425000000000365))) (λ_=>by kernel_rfl) λQ' hQ=>?_) (by simp[aC])
   . have hi:i=0:=by simp at hi;omega
     subst hi;cases he;exact bR (cC.a0 GS) (by decide) rfl US hw
   . have hy : -10000000000000000<=aN d/\aN d<=10000000000000000:=pO.2 h1';simp only[az,reduceCtorEq]
     (repeat' first|exact trivial|refine⟨?_,?_⟩|intro)<;>first|omega|assumption|exact hQ _ rfl
 . cases he
def R6:aQ:=bb (bb (bb (bb (bb (bb R5 164 Sx) 154 Sm) 191 Sd) 208 QV) 155 Q4) 210 Qw
def j8(i:Int):Int:=i%12
def UN:dP:=λargs=>match args with
 | [.a .i64 i]=>some (aH [af .i64 i,eO (dc i 12)] (.a0 (.e [.a .i64 (aG (dc i 12) (j8 i+1)),.a .i64 (aG (dc i 12) (j8 i+2)-1),.a .i64 0])))
 | _=>none
def R7:aQ:=bb R6 167 UN
def lT(d p:Int):Bool:=aa p 3 || cE d
def CK(d p:Int):Int:=bif aa p 3 then d else bif aa p 1 then bf (aN d)else aG (aN d) (bZ d)
def PU(d p:Int):Int:=bif aa p 3 then d else bif aa p 1 then bf (aN d)+364+iE (aN d)else aG (aN d) (bZ d)+d6 (aN d) (bZ d)-1
def kU(d p:Int):Tr AV:=.d0 (ab 1 p&&ab p 3) λb=>bif b then(.d0 (lT d p) λc=>bif c then .a0 (.e [kw 0 (CK d p) 0 (PU d p),.a .i64 0])else .a0 (.e [kw 0 0 0 0,.a .i64 6]))else .a0 (.e [kw 0 0 0 0,.a .i64 18])
def s65:dP:=λargs=>match args with
 | [.a .i64 d,.a .i64 p]=>some (aH [af .i64 d] (kU d p))
 | _=>none
def Sf:dP:=λargs=>match args with
 | [.a .i64 d,.a .u8 p]=>some (aH [af .i64 d] (kU d p))
 | _=>none
theorem Pu:ak Tryz.prog cfg R6:=bm (bm (bm (bm (Si (bm Hq (wW 164 _ rfl))) (Bg 191 _ rfl)) (Bg 208 _ rfl)) (EG 155 _ rfl)) (A_ 210 _ rfl)
theorem Qj{i:Int}:(i.tmod 12<0->i.tmod 12+12=j8 i)/\(0<=i.tmod 12->i.tmod 12=j8 i):=by
 obtain⟨k1,k2⟩:=@C4 i 12 (by decide);have h1:=Int.mul_tdiv_add_tmod i 12;unfold j8;unfold dc at k1 k2;refine⟨λh=>?_,λh=>?_⟩
 . have:=k1 h;omega
 . have:=k2 h;omega
theorem yF:ak Tryz.prog cfg R7:=by
 refine au Pu λargs t v he hv=>?_;unfold UN at he;split at he
 . rename_i i;cases he;obtain⟨⟨h1,h2,-⟩,hv⟩:=aF hv;rw[aE]at h1;simp only[eH,eE]at h1;cases hv;refine jD Pu ai (bE 111002202440211100220244074020) (R:=λQ=>(λ(O:AV)(A F:Int)=>(λ(G P:Bool)(B C T:Int)=>(λ(H I U:Bool)(E:Int)=>(λ(N V:Bool)=>af .i64 A/\(P->af .i64 B/\af .i64 T/\V/\(H->(N->V/\H/\N/\Q (.e [.a .i64 (aG B E),.a .i64 (HSub.hSub (aG B (HAdd.hAdd E 1)) 1),O]))/\(N=false->False))/\(H=false->False))/\(P=false->U/\(G->(I->U/\G/\I/\Q (.e [.a .i64 (aG A C),.a .i64 (HSub.hSub (aG A (HAdd.hAdd C 1)) 1),O]))/\(I=false->False))/\(G=false->False))) (tL E) (af .i64 E)) (eO B) (tL C) (af .i64 C) (Int.add T 1)) (eO A) (not (ab 0 F)) (Int.sub A 1) (Int.add F 1) (Int.add F 12)) (.a .i64 0) (Int.tdiv i 12) (Int.tmod i 12)) (λ_=>by kernel_rfl) λQ' hQ=>?_;try dsimp only
   obtain⟨k1,k2⟩:=@C4 i 12 (by decide);obtain⟨m1,m2⟩:=@Qj i;have tb:=Go.Proofs.YtoghlpcacfnjbaaGreatDoor.tdiv_bd i 12 (by decide) h1.1 h1.2;have mb:0<=j8 i/\j8 i<=11:=by unfold j8;omega
   have e2:j8 i+1+1=j8 i+2:=by omega
   have om:tL (j8 i+1)=true:=gX.2 (by omega);by_cases hn:i.tmod 12<0
   . have k1:=k1 hn;have m1:=m1 hn;clear k2 m2;simp only[show Int.sub (i.tdiv 12) 1=i.tdiv 12-1 from rfl,show Int.add (i.tmod 12) 12=i.tmod 12+12 from rfl,k1,m1,show Int.add (j8 i) 1=j8 i+1 from rfl,e2];simp only[az,reduceCtorEq]
     (repeat' first|exact trivial|refine⟨?_,?_⟩|intro)<;>first|contradiction|omega|assumption|exact hQ _ rfl|(exfalso;simp_all;done)
   . have k2:=k2 (by omega);have m2:=m2 (by omega);clear k1 m1;rw[k2]at tb;simp only[k2,m2,show Int.add (j8 i) 1=j8 i+1 from rfl,e2];simp only[az,reduceCtorEq]
     (repeat' first|exact trivial|refine⟨?_,?_⟩|intro)<;>first|contradiction|omega|assumption|exact hQ _ rfl|(exfalso;simp_all;done)
 . cases he
theorem Hz(h:¬(1<=p/\p<=3)):(kU d p).b0=some (.e [kw 0 0 0 0,.a .i64 18]):=by
 have e:(ab 1 p&&ab p 3)=false:=by rw[<-Bool.not_eq_true,zAa,aq,aq];exact h
 simp only[kU,Tr.b0,e,cond_false]
theorem NY:(kU d 3).b0=some (.e [kw 0 d 0 d,.a .i64 0]):=rfl
theorem Pa(h:cE d):lT d p=true:=by unfold lT;rw[h,Bool.or_true]
theorem RV(h:cE d):(kU d 1).b0=some (.e [kw 0 (bf (aN d)) 0 (bf (aN d)+364+iE (aN d)),.a .i64 0]):=by
 have e0:(ab 1 1&&ab 1 3)=true:=rfl;simp only[kU,Tr.b0,e0,Pa h,cond_true];rfl
theorem Rm(h:cE d):(kU d 2).b0=some (.e [kw 0 (aG (aN d) (bZ d)) 0 (aG (aN d) (bZ d)+d6 (aN d) (bZ d)-1),.a .i64 0]):=by
 have e0:(ab 1 2&&ab 2 3)=true:=rfl;simp only[kU,Tr.b0,e0,Pa h,cond_true];rfl
theorem Kb(h:cE d=false)(hp:p=1\/p=2):(kU d p).b0=some (.e [kw 0 0 0 0,.a .i64 6]):=by
 have e0:(ab 1 p&&ab p 3)=true:=by rw[zAa,aq,aq];omega
 have e1:lT d p=false:=by unfold lT;rw[h,Bool.or_false,aw];omega
 simp only[kU,Tr.b0,e0,e1,zAj]
theorem BU{v:AV}(h:(kU d p).b0=some v):aC v=[]:=by
 have hc:cE d\/cE d=false:=by cases cE d<;>simp
 have hp:¬(1<=p/\p<=3)\/p=1\/p=2\/p=3:=by omega
 have key:∀u,(kU d p).b0=some u->aC u=[]->aC v=[]:=λu hu hi=>by
  rw[hu]at h;cases h;exact hi
 rcases hp with hp|rfl|rfl|rfl
 . exact key _ (Hz hp) (by simp[aC,bw])
 . rcases hc with hc|hc
   . exact key _ (RV hc) (by simp[aC,bw])
   . exact key _ (Kb hc (.inl rfl)) (by simp[aC,bw])
 . rcases hc with hc|hc
   . exact key _ (Rm hc) (by simp[aC,bw])
   . exact key _ (Kb hc (.inr rfl)) (by simp[aC,bw])
 . exact key _ NY (by simp[aC,bw])
theorem lO(h:cE d):(-10000000000000000<=aN d/\aN d<=10000000000000000)/\(1<=bZ d/\bZ d<=12)/\(-3652425000000000001<=bf (aN d)/\bf (aN d)<=3652425000000000400)/\(-3652425000000000001<=aG (aN d) (bZ d)/\aG (aN d) (bZ d)<=3652425000000000800)/\(28<=d6 (aN d) (bZ d)/\d6 (aN d) (bZ d)<=31)/\(0<=iE (aN d)/\iE (aN d)<=1):=by
 have hy : -10000000000000000<=aN d/\aN d<=10000000000000000:=pO.2 h;have hm:1<=bZ d/\bZ d<=12:=⟨(Go.Proofs.YtoghlpcacfnjbaaGreatDoor.mOf_spec d).1,(Go.Proofs.YtoghlpcacfnjbaaGreatDoor.mOf_spec d).2.1⟩;exact⟨hy,hm,Go.Proofs.YtoghlpcacfnjbaaGreatDoor.yst_bd _ hy.1 (by omega),Go.Proofs.YtoghlpcacfnjbaaGreatDoor.mst_bd _ _ hy hm.1 (by omega),Go.Proofs.YtoghlpcacfnjbaaGreatDoor.mlen_bd _ _,Go.Proofs.YtoghlpcacfnjbaaGreatDoor.lp_01 _⟩
theorem f65{v:AV}(hd : -9223372036854775808<=d/\d<=9223372036854775807)(hv:(kU d p).b0=some v):bu Tryz.prog cfg 62 [.a .i64 d,.a .i64 p] [] v []:=by
 cases hc:cE d with
 | true=>
   obtain⟨hY,hM,c1,c2,c3,c4⟩:=lO hc;refine jD Hq ai (bE 100231100070007000224003320201000220220200204104201004104324) (R:=λQ=>(λ(A E O:AV)(F G N:Bool)(B C:Int)=>(λ(P:AV)(H I T U W Y:Bool)(V Z:Int)=>(λ(u1 u2:Int)(u0 u3:Prop)=>(λ(u4:Int)=>(H->H/\G=false/\(N->u0)/\(N=false->(aa p 3->Q (.e [.h [A,O,A,O],E]))/\(aa p 3=false->af .i64 d/\(T->Q (.e [P,.a .i64 6]))/\(T=false->(aa p 1->F/\U/\U/\af .i64 V/\W/\af .i64 u1/\Q (.e [.h [A,.a .i64 (bf B),A,.a .i64 u1],E]))/\(aa p 1=false->F/\F/\aa C 0=false/\not (ab C 12)=false/\(I->ab 1 C/\Y/\I/\ab 1 C/\Y/\W/\af .i64 u2/\af .i64 u4/\Q (.e [.h [A,.a .i64 Z,A,.a .i64 u4],E]))/\(I=false->False))))))/\(u3->u3/\G/\u0)) (Int.sub u2 1)) (Int.add V (iE B)) (Int.add Z (d6 B C)) (Q (.e [P,.a .i64 18])) (H=false)) (.h [A,E,A,E]) (not G) (eO B) (aa (cond F 1 0) 0) (and (ab (Neg.neg 10000000000000000) B) (ab B 10000000000000001)) (af .i64 B) (ab C 13) (Int.add (bf B) 364) (HSub.hSub (HAdd.hAdd (aG B C) 1) 1)) (.a .i8 0) (.a .i64 0) (.a .i64 d) (cE d) (not (ab 1 p)) (not (ab p 3)) (aN d) (bZ d)) (λ_=>by kernel_rfl) (hi:=(BU hv)) λQ' hQ=>?_;try dsimp only
   have fin:∀u,(kU d p).b0=some u->Q' u:=λu hu=>hQ _ (Option.some.inj (hu.symm.trans hv));have hyb:=bX.2 hY;clear hQ hv;simp only[hc,cond_true];have hp:¬(1<=p/\p<=3)\/p=1\/p=2\/p=3:=by omega
   have e1:aG (aN d) (bZ d)+1-1=aG (aN d) (bZ d):=by omega
   rcases hp with hp|rfl|rfl|rfl
   . have k:=fin _ (Hz hp);simp only[az,reduceCtorEq]
     (repeat' first|exact trivial|refine⟨?_,?_⟩|intro)<;>first|contradiction|omega|assumption|(exfalso;simp_all;done)
   . have k:=fin _ (RV hc);simp only[az,reduceCtorEq]
     (repeat' first|exact trivial|refine⟨?_,?_⟩|intro)<;>first|contradiction|omega|assumption|(exfalso;simp_all;done)
   . have k:=fin _ (Rm hc);simp only[e1];simp only[az,reduceCtorEq]
     (repeat' first|exact trivial|refine⟨?_,?_⟩|intro)<;>first|contradiction|omega|assumption|(exfalso;simp_all;done)
   . have k:=fin _ NY;simp only[az,reduceCtorEq]
     (repeat' first|exact trivial|refine⟨?_,?_⟩|intro)<;>first|contradiction|omega|assumption|(exfalso;simp_all;done)
 | false=>
   refine jD Hq ai (bE 100231301304104201004104324) (R:=λQ=>(λ(A C G:AV)(B F H:Bool)(I:Prop)=>(λ(N:AV)(E:Bool)=>(λ(O P:Prop)=>(E->E/\B=false/\(F->O)/\(F=false->(aa p 3->Q (.e [.h [A,G,A,G],C]))/\(aa p 3=false->af .i64 d/\(H->Q (.e [N,.a .i64 6]))/\(H=false->(aa p 1->I)/\(aa p 1=false->I)))))/\(P->P/\B/\O)) (Q (.e [N,.a .i64 18])) (E=false)) (.h [A,C,A,C]) (not B)) (.a .i8 0) (.a .i64 0) (.a .i64 d) (not (ab 1 p)) (not (ab p 3)) (aa (cond (cE d) 1 0) 0) (cE d=false/\False)) (λ_=>by kernel_rfl) (hi:=(BU hv)) λQ' hQ=>?_;try dsimp only
   have fin:∀u,(kU d p).b0=some u->Q' u:=λu hu=>hQ _ (Option.some.inj (hu.symm.trans hv));clear hQ hv;simp only[hc,cond_false];have hp:¬(1<=p/\p<=3)\/(p=1\/p=2)\/p=3:=by omega
   rcases hp with hp|hp|rfl
   . have k:=fin _ (Hz hp);simp only[az,reduceCtorEq]
     (repeat' first|exact trivial|refine⟨?_,?_⟩|intro)<;>first|contradiction|omega|assumption|(exfalso;simp_all;done)
   . have k:=fin _ (Kb hc hp);simp only[az,reduceCtorEq]
     (repeat' first|exact trivial|refine⟨?_,?_⟩|intro)<;>first|contradiction|omega|assumption|(exfalso;simp_all;done)
   . have k:=fin _ NY;simp only[az,reduceCtorEq]
     (repeat' first|exact trivial|refine⟨?_,?_⟩|intro)<;>first|contradiction|omega|assumption|(exfalso;simp_all;done)
theorem WZ{v:AV}(hd : -9223372036854775808<=d/\d<=9223372036854775807)(hv:(kU d p).b0=some v):bu Tryz.prog cfg 65 [.a .i64 d,.a .u8 p] [] v []:=by
 have ids:=BU hv;have hp:¬(1<=p/\p<=3)\/p=1\/p=2\/p=3:=by omega
 rcases hp with hp|rfl|rfl|rfl
 . refine jD yF ai (bE 100331074) (R:=λQ=>(λ(C E:AV)(A:Bool)=>(λ(B F:Prop)=>(A->A/\A/\not (ab p 3)/\F)/\(B->B/\B/\F)) (A=false) (Q (.e [.h [C,E,C,E],.a .i64 18]))) (.a .i8 0) (.a .i64 0) (ab 1 p)) (λ_=>by kernel_rfl) (hi:=ids) λQ' hQ=>?_;try dsimp only
   have fin:∀u,(kU d p).b0=some u->Q' u:=λu hu=>hQ _ (Option.some.inj (hu.symm.trans hv));simp only[az,reduceCtorEq]
   (repeat' first|exact trivial|refine⟨?_,?_⟩|intro)<;>first|contradiction|omega|assumption|exact fin _ (Hz hp)
 . cases hc:cE d with
   | true=>
     obtain⟨hY,hM,c1,c2,c3,c4⟩:=lO hc;refine jD yF ai (bE 1105204000220006) (R:=λQ=>(λ(C:AV)(A:Int)=>(λ(B:Bool)=>af .i64 d/\cE d/\(B->B/\Q (.e [.h [C,.a .i64 (bf A),C,.a .i64 (HSub.hSub (bf (HAdd.hAdd A 1)) 1)],.a .i64 0]))/\(B=false->False)) (eO A)) (.a .i8 0) (aN d)) (λ_=>by kernel_rfl) (hi:=ids) λQ' hQ=>?_;try dsimp only
     have fin:∀u,(kU d 1).b0=some u->Q' u:=λu hu=>hQ _ (Option.some.inj (hu.symm.trans hv));have hyb:=bX.2 hY;have e:bf (aN d+1)-1=bf (aN d)+364+iE (aN d):=by
      have:bf (aN d+1)=bf (aN d)+365+iE (aN d):=Go.Proofs.YtoghlpcacfnjbaaGreatDoor.yst_succ _;omega
     rw[e];simp only[az,reduceCtorEq]
     (repeat' first|exact trivial|refine⟨?_,?_⟩|intro)<;>first|contradiction|omega|assumption|exact fin _ (RV hc)|(exfalso;simp_all;done)
   | false=>
     refine jD yF ai (bE 100320006) (R:=λQ=>af .i64 d/\cE d=false/\Q (.e [.h [.a .i8 0,.a .i64 0,.a .i8 0,.a .i64 0],.a .i64 6])) (λ_=>by kernel_rfl) (hi:=ids) λQ' hQ=>?_;have fin:∀u,(kU d 1).b0=some u->Q' u:=λu hu=>hQ _ (Option.some.inj (hu.symm.trans hv));simp only[az,reduceCtorEq]
     (repeat' first|exact trivial|refine⟨?_,?_⟩|intro)<;>first|contradiction|omega|assumption|exact fin _ (Kb hc (.inl rfl))
 . cases hc:cE d with
   | true=>
     obtain⟨hY,hM,c1,c2,c3,c4⟩:=lO hc;refine jD yF ai (bE 11000420002270006) (R:=λQ=>(λ(E:AV)(C:Int)=>(λ(F:Int)=>(λ(A:Int)=>(λ(G:Bool)(B:Int)=>af .i64 d/\cE d/\af .i64 C/\af .i64 F/\G/\G/\(eO B->Q (.e [.h [E,.a .i64 (aG B (HAdd.hAdd (j8 A) 1)),E,.a .i64 (HSub.hSub (aG B (HAdd.hAdd (j8 A) 2)) 1)],.a .i64 0]))/\(eO B=false->False)) (af .i64 A) (dc A 12)) (Int.sub F 1)) (Int.add C (bZ d))) (.a .i8 0) (Int.mul 12 (aN d))) (λ_=>by kernel_rfl) (hi:=ids) λQ' hQ=>?_;try dsimp only
     have fin:∀u,(kU d 2).b0=some u->Q' u:=λu hu=>hQ _ (Option.some.inj (hu.symm.trans hv));have hyb:=bX.2 hY;have e1:dc (Int.sub (Int.add (Int.mul 12 (aN d)) (bZ d)) 1) 12=aN d:=by
      show(12*aN d+bZ d-1)/12=aN d;omega
     have e2:j8 (Int.sub (Int.add (Int.mul 12 (aN d)) (bZ d)) 1)=bZ d-1:=by
      show(12*aN d+bZ d-1)%12=bZ d-1;omega
     have e3:aG (aN d) (bZ d+1)-1=aG (aN d) (bZ d)+d6 (aN d) (bZ d)-1:=by
      have:aG (aN d) (bZ d+1)=aG (aN d) (bZ d)+d6 (aN d) (bZ d):=Go.Proofs.YtoghlpcacfnjbaaGreatDoor.mst_succ _ _ hM.1 hM.2;omega
     rw[e1,e2,show bZ d-1+1=bZ d by omega,show bZ d-1+2=bZ d+1 by omega,e3];simp only[az,reduceCtorEq]
     (repeat' first|exact trivial|refine⟨?_,?_⟩|intro)<;>first|contradiction|omega|assumption|exact fin _ (Rm hc)|(exfalso;simp_all;done)
   | false=>
     refine jD yF ai (bE 105320006) (R:=λQ=>af .i64 d/\cE d=false/\Q (.e [.h [.a .i8 0,.a .i64 0,.a .i8 0,.a .i64 0],.a .i64 6])) (λ_=>by kernel_rfl) (hi:=ids) λQ' hQ=>?_;have fin:∀u,(kU d 2).b0=some u->Q' u:=λu hu=>hQ _ (Option.some.inj (hu.symm.trans hv));simp only[az,reduceCtorEq]
     (repeat' first|exact trivial|refine⟨?_,?_⟩|intro)<;>first|contradiction|omega|assumption|exact fin _ (Kb hc (.inr rfl))
 . refine jD yF ai (bE 100056) (R:=λQ=>Q (.e [.h [.a .i8 0,.a .i64 d,.a .i8 0,.a .i64 d],.a .i64 0])) (λ_=>by kernel_rfl) (hi:=ids) λQ' hQ=>?_;exact hQ _ (Option.some.inj (NY.symm.trans hv))
theorem W5(hS:ak Tryz.prog cfg S):ak Tryz.prog cfg (bb S 62 s65):=au hS λargs t v he hv=>by
 unfold s65 at he;split at he
 . cases he;obtain⟨h1,hv⟩:=bO hv;rw[aE]at h1;simp only[eH,eE]at h1;exact f65 h1 hv
 . cases he
theorem RG(hS:ak Tryz.prog cfg S):ak Tryz.prog cfg (bb S 65 Sf):=au hS λargs t v he hv=>by
 unfold Sf at he;split at he
 . cases he;obtain⟨h1,hv⟩:=bO hv;rw[aE]at h1;simp only[eH,eE]at h1;exact WZ h1 hv
 . cases he
end Go.Ev
