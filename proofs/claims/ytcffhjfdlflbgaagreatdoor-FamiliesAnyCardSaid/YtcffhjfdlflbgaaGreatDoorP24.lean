import Derived.Test.YtcffhjfdlflbgaaGreatDoorP23
set_option linter.all false
open Int renaming add->ν,tdiv_eq_ediv_of_nonneg->ο,sub->π,tdiv->τ,tmod->υ,mul->ω
open Option.some renaming inj->ξ
open Nat renaming le_refl->ς
open HAdd renaming hAdd->σ
open HSub renaming hSub->χ
set_option linter.all false
set_option maxRecDepth 100000
set_option maxHeartbeats 4000000
namespace Go.Ev
open Go Go.Proofs
variable{v:AV}{S:aQ}
def ZP:dP:=λ
 | [.a .i64 a,.a .i64 b]=>some (aH [af .i64 a,aa b 400 || (aa b 146097 || aa b 12)] (.a0 (.a .i64 (dc a b))))
 | _=>none
def Z9:dP:=λ
 | [.a .i64 y]=>some (aH [af .i64 y] (.a0 (.a .i64 (iE y))))
 | _=>none
def R1:aQ:=d5 (d5 gZ 186 ZP) 158 Z9
def Z6:dP:=λ
 | [.a .i64 y,.a .i64 m]=>some (aH [af .i64 y] (.a0 (.a .i64 (d6 y m))))
 | _=>none
def J_(y:Int):Bool:=ab (-10000000000000000) y&&ab y 10000000000000001
def KW:dP:=λ
 | [.a .i64 y]=>some (aH [J_ y] (.a0 (.a .i64 (bf y))))
 | _=>none
def R2:aQ:=d5 (d5 R1 161 Z6) 157 KW
theorem C4{a b:Int}(hb:0<b):(a.tmod b<0->a.tdiv b-1=dc a b)/\(0<=a.tmod b->a.tdiv b=dc a b):=by
 grind [Int.emod_add_mul_ediv,dc,Int.ediv_emod_unique]
theorem FZ:ak Tryz.prog cfg R1:=by
 refine au (au aW λargs t v he hv=>?_) λargs t v he hv=>?_
 . unfold ZP at he;split at he
   . rename_i a b;cases he;obtain⟨⟨h1,h2,-⟩,hv⟩:=aF hv;rw[aE]at h1;simp only[eH,eE]at h1;rw[Bool.or_eq_true,Bool.or_eq_true,ao,ao,ao]at h2;cases hv;rcases h2 with rfl|rfl|rfl
     . refine jD aW ai (bE 120122040) (R:=λQ=>(λ(B:Bool)(A:Int)=>(λ(C:Bool)(E:Int)=>(B->C/\af .i64 E/\Q (.a .i64 E))/\(B=false->C/\Q (.a .i64 A))) (af .i64 A) (π A 1)) (not (ab 0 (υ a 400))) (τ a 400)) (λ_=>by rfl) λQ' hQ=>?_;try dsimp only
       obtain⟨k1,k2⟩:=@C4 a 400 (by decide);have tb:=Go.Proofs.YtcffhjfdlflbgaaGreatDoor.tdiv_bd a 400 (by decide) h1.1 h1.2;simp_all [az];omega
     . refine jD aW ai (bE 120122040) (R:=λQ=>(λ(B:Bool)(A:Int)=>(λ(C:Bool)(E:Int)=>(B->C/\af .i64 E/\Q (.a .i64 E))/\(B=false->C/\Q (.a .i64 A))) (af .i64 A) (π A 1)) (not (ab 0 (υ a 146097))) (τ a 146097)) (λ_=>by rfl) λQ' hQ=>?_;try dsimp only
       obtain⟨k1,k2⟩:=@C4 a 146097 (by decide);have tb:=Go.Proofs.YtcffhjfdlflbgaaGreatDoor.tdiv_bd a 146097 (by decide) h1.1 h1.2;simp_all [az];omega
     . refine jD aW ai (bE 120122040) (R:=λQ=>(λ(B:Bool)(A:Int)=>(λ(C:Bool)(E:Int)=>(B->C/\af .i64 E/\Q (.a .i64 E))/\(B=false->C/\Q (.a .i64 A))) (af .i64 A) (π A 1)) (not (ab 0 (υ a 12))) (τ a 12)) (λ_=>by rfl) λQ' hQ=>?_;try dsimp only
       obtain⟨k1,k2⟩:=@C4 a 12 (by decide);have tb:=Go.Proofs.YtcffhjfdlflbgaaGreatDoor.tdiv_bd a 12 (by decide) h1.1 h1.2;simp_all [az];omega
   grind
 . unfold Z9 at he;split at he
   . rename_i y;cases he;obtain⟨h1,hv⟩:=eL hv;rw[aE]at h1;simp only[eH,eE]at h1;cases hv;refine jD aW ai (bE 10330008107331142322024220240) (R:=λQ=>(λ(A E G:Bool)(H I:Prop)=>(λ(C:Bool)(B:Prop)=>(λ(F:Prop)=>(A->A/\A/\A/\(C->C/\C/\A/\E=false/\A/\(G->H)/\(G=false->I))/\(F->F/\F/\A/\E/\A/\H))/\(B->B/\B/\B/\B/\B/\I)) (C=false)) (not E) (A=false)) (aa (υ y 4) 0) (not (aa (υ y 100) 0)) (aa (υ y 400) 0) (Q (.a .i64 1)) (Q (.a .i64 0))) (λ_=>by rfl) λQ' hQ=>?_;try dsimp only
     have z:∀k:Int,y.tmod k=0↔y%k=0:=λk=>by grind [Int.dvd_iff_tmod_eq_zero,Int.dvd_iff_emod_eq_zero]
     have yes:(y%4=0/\(y%100≠0\/y%400=0))->Q' (.a .i64 1):=λh=>hQ _ (by grind [iE,Go.Proofs.YtcffhjfdlflbgaaGreatDoor.lp]);have no:¬(y%4=0/\(y%100≠0\/y%400=0))->Q' (.a .i64 0):=λh=>hQ _ (by grind [iE,Go.Proofs.YtcffhjfdlflbgaaGreatDoor.lp]);simp_all [az]
   grind
theorem DC:ak Tryz.prog cfg R2:=by
 refine au (au FZ λargs t v he hv=>?_) λargs t v he hv=>?_
 . unfold Z6 at he;split at he
   . rename_i y m;cases he;obtain⟨h1,hv⟩:=eL hv;rw[aE]at h1;simp only[eH,eE]at h1;cases hv;have hl:0<=iE y/\iE y<=1:=Go.Proofs.YtcffhjfdlflbgaaGreatDoor.lp_01 y;refine jD FZ ai (bE 10005231523102311432432432412204) (R:=λQ=>(λ(B C E:Bool)(I:Int)(A:Prop)=>(λ(F G H:Bool)=>(λ(N O P:Prop)=>(aa m 2->af .i64 y/\af .i64 I/\Q (.a .i64 I))/\(aa m 2=false->(F->F/\B=false/\(G->G/\C=false/\(H->H/\E=false/\(aa m 11->A)/\(aa m 11=false->Q (.a .i64 31)))/\(N->N/\E/\A))/\(O->O/\C/\A))/\(P->P/\B/\A))) (H=false) (G=false) (F=false)) (not B) (not C) (not E)) (aa m 4) (aa m 6) (aa m 9) (ν 28 (iE y)) (Q (.a .i64 30))) (λ_=>by rfl) λQ' hQ=>?_;try dsimp only
     have fin:∀n:Int,n=d6 y m->Q' (.a .i64 n):=λn h=>hQ _ (by rw[h]);simp only[az,reduceCtorEq]
     (repeat' first|exact trivial|refine⟨?_,?_⟩|intro)<;>first|omega|(refine fin _ ?_;unfold d6 Go.Proofs.YtcffhjfdlflbgaaGreatDoor.mlen;(repeat' split)<;>first|omega|rfl)
   grind
 . unfold KW at he;split at he
   . rename_i y;cases he;obtain⟨h1,hv⟩:=eL hv;unfold J_ at h1;rw[zAa,aq,aq]at h1;cases hv;have hf:dc y 400*400<=y/\y<=dc y 400*400+399:=by unfold dc;omega
     refine jD FZ ai (bE 1220707077020) (R:=λQ=>(λ(B C:Int)=>(λ(A:Int)=>(λ(E F G H:Int)=>(λ(I N O P:Int)=>(λ(T:Int)=>(λ(U:Int)=>(λ(V:Int)=>af .i64 y/\af .i64 B/\af .i64 A/\af .i64 C/\af .i64 E/\af .i64 I/\af .i64 F/\af .i64 N/\af .i64 T/\af .i64 G/\af .i64 O/\af .i64 U/\af .i64 H/\af .i64 P/\af .i64 V/\Q (.a .i64 V)) (ν U P)) (π T O)) (ν I N)) (ν C E) (τ F 4) (τ G 100) (τ H 400)) (ω 365 A) (ν A 3) (ν A 99) (ν A 399)) (π y B)) (ω (dc y 400) 400) (ω (dc y 400) 146097)) (λ_=>by rfl) λQ' hQ=>?_;try dsimp only
     have fin:∀n:Int,n=bf y->Q' (.a .i64 n):=λn h=>hQ _ (by rw[h]);simp only[az,reduceCtorEq];have t1:(y-dc y 400*400+3).tdiv 4=(y-dc y 400*400+3)/4:=ο (by omega);have t2:(y-dc y 400*400+99).tdiv 100=(y-dc y 400*400+99)/100:=ο (by omega);have t3:(y-dc y 400*400+399).tdiv 400=(y-dc y 400*400+399)/400:=ο (by omega);simp_all [bf,Go.Proofs.YtcffhjfdlflbgaaGreatDoor.yst_cycles,dc];omega
   grind
def Yd:dW:=λ
 | [.a .i64 y,.a .i64 m,.a .i64 d,.a .i64 a,.a .i64 k],⟨0,[],[]⟩=>some (aH [eO y,ab 1 m,ab m 13,aa a (bf y),aa k 1] (.a0 (.b 0,[.a .i64 y,.a .i64 m,.a .i64 d,.a .i64 (aG y m),.a .i64 m],dO)))
 | _,_=>none
def LE:cx:=iz jE 0 (d9 25 [0,1,2,7,8] Yd)
def KH:dP:=λ
 | [.a .i64 y,.a .i64 m,.a .i64 d]=>some (aH [eO y,ab 1 m,ab m 13,ab 1 d,ab d 31] (.a0 (.a .i64 (aG y m+d-1))))
 | _=>none
def Wl:dP:=λ
 | [.a .i64 d]=>some (aH [af .i64 d] (.a0 (.a .i64 (bI (cE d)))))
 | _=>none
def R3:aQ:=d5 (d5 R2 160 KH) 105 Wl
def SC:dW:=λ
 | [.a .i64 d,.a .i64 y],⟨0,[],[]⟩=>some (aH [cE d,eO y,ab (bf y) d] (.a0 (.b 0,[.a .i64 d,.a .i64 (aN d)],dO)))
 | _,_=>none
def XX:cx:=iz jE 0 (d9 23 [0,4] SC)
def V_:dP:=λ
 | [.a .i64 d]=>some (aH [cE d] (.a0 (.a .i64 (aN d))))
 | _=>none
def R4:aQ:=d5 R3 106 V_
def RF:dW:=λ
 | [.a .i64 d,.a .i64 y,.a .i64 m],⟨0,[],[]⟩=>some (aH [cE d,aa y (aN d),aa m 1] (.a0 (.b 0,[.a .i64 d,.a .i64 y,.a .i64 (bZ d)],dO)))
 | _,_=>none
def ZA:cx:=iz jE 0 (d9 20 [0,3,4] RF)
def Xv:dP:=λ
 | [.a .i64 d]=>some (aH [cE d] (.a0 (.a .i64 (bZ d))))
 | _=>none
def R5:aQ:=d5 R4 107 Xv
theorem Za(y m d a k:Int)(J:Nat->Value){Q:VQ->Prop}:gG Q (rT R2 jE [] 160 0 25 [0,1,2,7,8] [.a .i64 y,.a .i64 m,.a .i64 d,.a .i64 a,.a .i64 k] J dO) (bE 11704)=((λ(E F G:AV)(A:Bool)(B C:Int)=>(A->af .i64 y/\af .i64 B/\af .i64 C/\Q (.a,[E,F,G,.a .i64 B,.a .i64 C],⟨0,[],[]⟩))/\(A=false->Q (.b 0,[E,F,G,.a .i64 a,.a .i64 k],⟨0,[],[]⟩))) (.a .i64 y) (.a .i64 m) (.a .i64 d) (not (ab m k)) (ν a (d6 y k)) (ν k 1)):=by rfl
theorem akV:ec tab 160=some (dH 160,aL 160):=by rfl
theorem Ok:ec tab 106=some (dH 106,aL 106):=by rfl
theorem Nu:ec tab 107=some (dH 107,aL 107):=by rfl
theorem NG:(bz (aL 160)).map (·.1)=[0]:=by rfl
theorem Km:(bz (aL 106)).map (·.1)=[0]:=by rfl
theorem JD:(bz (aL 107)).map (·.1)=[0]:=by rfl
theorem dR{d:Int}:cE d=true↔-3652425000000000000<=d/\d<=3652425000000000365:=by grind [cE,aq]
theorem Zh:cu Tryz.prog (cH cfg R2) (Cw cfg []) (lb 160 0) 25 [0,1,2,7,8] Yd:=by
 intro vs o t Q hv hq J;unfold Yd at hv;split at hv
 . rename_i y m d a k;cases hv;replace hq:=cO hq;obtain⟨⟨h1,h2,h3,h4,h5,-⟩,hq⟩:=hq;rw[bX]at h1;rw[aq]at h2 h3;rw[ao]at h4 h5;subst h4 h5;have hq:Q (.b 0,[.a .i64 y,.a .i64 m,.a .i64 d,.a .i64 (aG y m),.a .i64 m],dO):=hq;refine ia DC rfl rfl ai (ι:={k:Int // 1<=k/\k<=m}) (λx=>[.a .i64 y,.a .i64 m,.a .i64 d,.a .i64 (aG y x.1),.a .i64 x.1]) (λ_=>dO) (λx=>(m-x.1).toNat) 0 (λ_=>ς _) (λx J=>?_) (ς _) (λJ=>Wk.a0 ⟨⟨1,by omega,h2⟩,J,by grind [aG,bf,Go.Proofs.YtcffhjfdlflbgaaGreatDoor.mst_1]⟩) J;obtain⟨k,hk⟩:=x;dsimp only;have hb : -3652425000000000001<=aG y k/\aG y k<=3652425000000000800:=Go.Proofs.YtcffhjfdlflbgaaGreatDoor.mst_bd y k h1 hk.1 (by omega);have hl:28<=d6 y k/\d6 y k<=31:=Go.Proofs.YtcffhjfdlflbgaaGreatDoor.mlen_bd y k;have hs:k<=12->aG y (k+1)=aG y k+d6 y k:=λh=>Go.Proofs.YtcffhjfdlflbgaaGreatDoor.mst_succ y k hk.1 h;refine eD λQ' hQ=>cg ((Za y m d _ k J).mpr ?_);simp only[az,reduceCtorEq]
   (repeat' first|exact trivial|refine⟨?_,?_⟩|intro)<;>first|omega|refine hQ _ ?_
   . exact⟨⟨k+1,by omega⟩,by grind,VW.b0 (by grind) rfl⟩
   grind [VW.a0]
 grind
theorem vW:ak Tryz.prog cfg R3:=by
 refine au (au DC λargs t v he hv=>?_) λargs t v he hv=>?_
 . unfold KH at he;split at he
   . rename_i y m d;cases he;obtain⟨⟨h1,h2,h3,h4,h5,-⟩,hv⟩:=aF hv;rw[bX]at h1;rw[aq]at h2 h3 h4 h5;cases hv;have hb : -3652425000000000001<=aG y m/\aG y m<=3652425000000000800:=Go.Proofs.YtcffhjfdlflbgaaGreatDoor.mst_bd y m h1 h2 h3;refine kA DC (L:=LE) akV (by simp) (dv NG λi hi e he st Q hw=>?_) (jJ (bE 12202270) (R:=λQ=>(λ(A:Bool)(B:Int)=>(λ(C:Int)=>and A (ab y 10000000000000001)/\and A (ab y 10000000000000000)/\ab 1 m/\ab m 13/\aa (bf y) (bf y)/\(∀J1:Nat->Value,af .i64 B/\af .i64 C/\Q (.a .i64 C))) (π B 1)) (ab (Neg.neg 10000000000000000) y) (ν (aG y m) d)) (λ_=>by rfl) λQ' hQ=>?_) (by rfl)
     . have hi:i=0:=by grind
       subst hi;cases he;exact bR (cC.a0 DC) (by decide) rfl Zh hw
     simp_all [az];omega
   grind
 . unfold Wl at he;split at he
   . rename_i d;cases he;obtain⟨h1,hv⟩:=eL hv;rw[aE]at h1;simp only[eH,eE]at h1;cases hv;refine jD DC ai (bE 102338114320200202002400) (R:=λQ=>(λ(C E:Bool)(F:Prop)=>(λ(A:Bool)=>(λ(B:Prop)=>(A->A/\A/\A/\A/\A/\C=false/\(E->F)/\(E=false->Q (.a .i64 1)))/\(B->B/\B/\B/\B/\B/\C/\F)) (A=false)) (not C)) (not (ab (bf (Neg.neg 10000000000000000)) d)) (not (ab d 3652425000000000365)) (Q (.a .i64 0))) (λ_=>by rfl) λQ' hQ=>?_;try dsimp only
     have e1:bf (-10000000000000000) = -3652425000000000000:=by decide
     have e2:bf 10000000000000000=3652425000000000000:=by decide
     have e3:iE 10000000000000000=1:=by decide
     have yes:(-3652425000000000000<=d/\d<=3652425000000000365)->Q' (.a .i64 1):=λh=>hQ _ (by rw[dR.2 h];rfl);have no:¬(-3652425000000000000<=d/\d<=3652425000000000365)->Q' (.a .i64 0):=λh=>hQ _ (by
      have:cE d=false:=by grind [dR]
      rw[this];rfl)
     simp only[az,reduceCtorEq];grind
   grind
theorem Xe:cu Tryz.prog (cH cfg R3) (Cw cfg []) (lb 106 0) 23 [0,4] SC:=by
 intro vs o t Q hv hq J;unfold SC at hv;split at hv
 . rename_i d y;cases hv;replace hq:=cO hq;obtain⟨⟨h1,h2,h3,-⟩,hq⟩:=hq;rw[dR]at h1;rw[bX]at h2;rw[aq]at h3;have hq:Q (.b 0,[.a .i64 d,.a .i64 (aN d)],dO):=hq;refine ia vW rfl rfl ai (ι:={y:Int // (-10000000000000000<=y/\y<=10000000000000000)/\bf y<=d}) (λx=>[.a .i64 d,.a .i64 x.1]) (λ_=>dO) (λx=>(10000000000000001-x.1).toNat) 0 (λ_=>ς _) (λx J=>?_) (ς _) (λJ=>Wk.a0 ⟨⟨y,h2,h3⟩,J,rfl⟩) J;obtain⟨z,hz,hd⟩:=x;dsimp only;have top:bf (z+1)<=d->z+1<=10000000000000000:=λh=>by
    grind [bf,Lu]
   have fin:d<bf (z+1)->aN d=z:=λh=>Go.Proofs.YtcffhjfdlflbgaaGreatDoor.yOf_unique hd h;refine jJ (bE 1124202) (R:=λQ=>(λ(B:AV)(A:Int)=>(λ(C E:Bool)=>C/\and (ab (Neg.neg 10000000000000000) A) (ab A 10000000000000001)/\(E->C/\Q (.a,[B,.a .i64 A],⟨0,[],[]⟩))/\(E=false->Q (.b 0,[B,.a .i64 z],⟨0,[],[]⟩))) (af .i64 A) (ab (bf A) d)) (.a .i64 d) (ν z 1)) (λ_=>by rfl) λQ' hQ=>?_;simp only[az,reduceCtorEq]
   (repeat' first|exact trivial|refine⟨?_,?_⟩|intro)<;>first|omega|refine hQ _ ?_
   . exact⟨⟨z+1,by omega,by omega⟩,by grind,VW.b0 rfl rfl⟩
   grind [VW.a0]
 grind
theorem GS:ak Tryz.prog cfg R4:=by
 refine au vW λargs t v he hv=>?_;unfold V_ at he;split at he
 . rename_i d;cases he;obtain⟨h1,hv⟩:=eL hv;have h1':=h1;rw[dR]at h1;cases hv;have hf:dc d 146097*146097<=d/\d<=dc d 146097*146097+146096:=by unfold dc;omega
   refine kA vW (L:=XX) Ok (by simp) (dv Km λi hi e he st Q hw=>?_) (jJ (bE 122707020) (R:=λQ=>(λ(B:Int)=>(λ(C E:Int)=>(λ(F:Int)=>(λ(G:Int)=>(λ(A:Int)=>af .i64 d/\af .i64 C/\af .i64 E/\af .i64 F/\af .i64 G/\af .i64 A/\and (ab (Neg.neg 3652425000000000000) d) (ab d 3652425000000000365)/\and (ab (Neg.neg 10000000000000000) A) (ab A 10000000000000000)/\ab (bf A) d/\(∀J1:Nat->Value,Q (.a .i64 (aN d)))) (ν C G)) (τ F 366)) (π d E)) (ω B 400) (ω B 146097)) (dc d 146097)) (λ_=>by rfl) λQ' hQ=>?_) (by rfl)
   . have hi:i=0:=by grind
     subst hi;cases he;exact bR (cC.a0 vW) (by decide) rfl Xe hw
   . try dsimp only
     have t1:(d-dc d 146097*146097).tdiv 366=(d-dc d 146097*146097)/366:=ο (by omega);have key:bf (dc d 146097*400+(d-dc d 146097*146097)/366)<=d:=by
      grind [bf,Go.Proofs.YtcffhjfdlflbgaaGreatDoor.yst,Go.Proofs.YtcffhjfdlflbgaaGreatDoor.before]
     simp_all [az];omega
 grind
theorem US:cu Tryz.prog (cH cfg R4) (Cw cfg []) (lb 107 0) 20 [0,3,4] RF:=by
 intro vs o t Q hv hq J;unfold RF at hv;split at hv
 . rename_i d y m;cases hv;replace hq:=cO hq;obtain⟨⟨h1,h2,h3,-⟩,hq⟩:=hq;rw[ao]at h2 h3;subst h2 h3;have hy:Go.Proofs.YtcffhjfdlflbgaaGreatDoor.okY (aN d):=pO.2 h1;obtain⟨s1,s2⟩:=Go.Proofs.YtcffhjfdlflbgaaGreatDoor.yOf_spec d;have hq:Q (.b 0,[.a .i64 d,.a .i64 (aN d),.a .i64 (bZ d)],dO):=hq;refine ia GS rfl rfl ai (ι:={m:Int // (1<=m/\m<=12)/\aG (aN d) m<=d}) (λx=>[.a .i64 d,.a .i64 (aN d),.a .i64 x.1]) (λ_=>dO) (λx=>(13-x.1).toNat) 0 (λ_=>ς _) (λx J=>?_) (ς _) (λJ=>Wk.a0 ⟨⟨1,by omega,by show Go.Proofs.YtcffhjfdlflbgaaGreatDoor.mst _ 1<=d;rw[Go.Proofs.YtcffhjfdlflbgaaGreatDoor.mst_1];exact s1⟩,J,rfl⟩) J;obtain⟨m,hm,hd⟩:=x;dsimp only;have fin:m=12\/d<aG (aN d) (m+1)->bZ d=m:=λh=>by
    refine Go.Proofs.YtcffhjfdlflbgaaGreatDoor.mOf_unique hm.1 hd ?_;rcases h with rfl|h
    . show d<Go.Proofs.YtcffhjfdlflbgaaGreatDoor.mst _ 13;rw[Go.Proofs.YtcffhjfdlflbgaaGreatDoor.mst_next,Go.Proofs.YtcffhjfdlflbgaaGreatDoor.mst_1];exact s2
    . exact h
   refine jJ (bE 1088112470070274) (R:=λQ=>(λ(E F:AV)(A:Bool)(C:Int)=>(λ(G H:Bool)(B I:Prop)=>(A->A/\A/\G/\A/\and (ab (Neg.neg 10000000000000000) (aN d)) (ab (aN d) 10000000000000000)/\ab 1 C/\ab C 13/\A/\A/\A/\(H->G/\Q (.a,[E,F,.a .i64 C],⟨0,[],[]⟩))/\(H=false->I))/\(B->B/\B/\B/\B/\B/\B/\I)) (af .i64 C) (ab (χ (σ (aG (aN d) C) 1) 1) d) (A=false) (Q (.b 0,[E,F,.a .i64 m],⟨0,[],[]⟩))) (.a .i64 d) (.a .i64 (aN d)) (not (ab 12 m)) (ν m 1)) (λ_=>by kernel_rfl) λQ' hQ=>?_;try dsimp only
   have hyb:=bX.2 hy;have hy2 : -10000000000000000<=aN d/\aN d<=10000000000000000:=hy;simp only[az,reduceCtorEq]
   (repeat' first|exact trivial|refine⟨?_,?_⟩|intro)<;>first|omega|assumption|refine hQ _ ?_
   . exact⟨⟨m+1,by omega,by omega⟩,by dsimp only;omega,VW.b0 rfl rfl⟩
   all_goals
    rw[fin (by omega)]at hq;exact⟨_,_,VW.a0,hq⟩
 . cases hv
theorem Hq:ak Tryz.prog cfg R5:=by
 refine au GS λargs t v he hv=>?_;unfold Xv at he;split at he
 . rename_i d;cases he;obtain⟨h1,hv⟩:=eL hv;have h1':=h1;rw[dR]at h1;cases hv;refine kA GS (L:=ZA) Nu (by simp) (dv JD λi hi e he st Q hw=>?_) (jJ (bE 1070) (R:=λQ=>(λ(A:Bool)=>A/\A/\aa (aN d) (aN d)/\(∀J1:Nat->Value,Q (.a .i64 (bZ d)))) (and (ab (Neg.neg 3652425000000000000) d) (ab d 3652425000000000365))) (λ_=>by rfl) λQ' hQ=>?_) (by rfl)
   . have hi:i=0:=by grind
     subst hi;cases he;exact bR (cC.a0 GS) (by decide) rfl US hw
   simp_all [az]
 grind
def R6:aQ:=d5 (d5 (d5 (d5 (d5 (d5 R5 222 Sx) 225 Sm) 289 Sd) 290 QV) 293 Q4) 294 Qw
def j8(i:Int):Int:=i%12
def UN:dP:=λ
 | [.a .i64 i]=>some (aH [af .i64 i,eO (dc i 12)] (.a0 (.d [.a .i64 (aG (dc i 12) (j8 i+1)),.a .i64 (aG (dc i 12) (j8 i+2)-1),.a .i64 0])))
 | _=>none
def R7:aQ:=d5 R6 226 UN
def lT(d p:Int):Bool:=aa p 3 || cE d
def CK(d p:Int):Int:=bif aa p 3 then d else bif aa p 1 then bf (aN d)else aG (aN d) (bZ d)
def PU(d p:Int):Int:=bif aa p 3 then d else bif aa p 1 then bf (aN d)+364+iE (aN d)else aG (aN d) (bZ d)+d6 (aN d) (bZ d)-1
def kU(d p:Int):Tr AV:=.d0 (ab 1 p&&ab p 3) λb=>bif b then(.d0 (lT d p) λc=>bif c then .a0 (.d [kw 0 (CK d p) 0 (PU d p),.a .i64 0])else .a0 (.d [kw 0 0 0 0,.a .i64 6]))else .a0 (.d [kw 0 0 0 0,.a .i64 18])
def BG:dP:=λ
 | [.a .i64 d,.a .i64 p]=>some (aH [af .i64 d] (kU d p))
 | _=>none
def Sf:dP:=λ
 | [.a .i64 d,.a .u8 p]=>some (aH [af .i64 d] (kU d p))
 | _=>none
theorem Pu:ak Tryz.prog cfg R6:=bm (bm (bm (bm (Si (bm Hq (wW 222 _ rfl))) (Bg 289 _ rfl)) (Bg 290 _ rfl)) (EG 293 _ rfl)) (A_ 294 _ rfl)
theorem Qj{i:Int}:(i.tmod 12<0->i.tmod 12+12=j8 i)/\(0<=i.tmod 12->i.tmod 12=j8 i):=by
 grind [j8]
theorem yF:ak Tryz.prog cfg R7:=by
 refine au Pu λargs t v he hv=>?_;unfold UN at he;split at he
 . rename_i i;cases he;obtain⟨⟨h1,h2,-⟩,hv⟩:=aF hv;rw[aE]at h1;simp only[eH,eE]at h1;cases hv;refine jD Pu ai (bE 111002202440211100220244074020) (R:=λQ=>(λ(O:AV)(A F:Int)=>(λ(G P:Bool)(B C T:Int)=>(λ(H I U:Bool)(E:Int)=>(λ(N V:Bool)=>af .i64 A/\(P->af .i64 B/\af .i64 T/\V/\(H->(N->V/\H/\N/\Q (.d [.a .i64 (aG B E),.a .i64 (χ (aG B (σ E 1)) 1),O]))/\(N=false->False))/\(H=false->False))/\(P=false->U/\(G->(I->U/\G/\I/\Q (.d [.a .i64 (aG A C),.a .i64 (χ (aG A (σ C 1)) 1),O]))/\(I=false->False))/\(G=false->False))) (tL E) (af .i64 E)) (eO B) (tL C) (af .i64 C) (ν T 1)) (eO A) (not (ab 0 F)) (π A 1) (ν F 1) (ν F 12)) (.a .i64 0) (τ i 12) (υ i 12)) (λ_=>by rfl) λQ' hQ=>?_;try dsimp only
   obtain⟨k1,k2⟩:=@C4 i 12 (by decide);obtain⟨m1,m2⟩:=@Qj i;have tb:=Go.Proofs.YtcffhjfdlflbgaaGreatDoor.tdiv_bd i 12 (by decide) h1.1 h1.2;have mb:0<=j8 i/\j8 i<=11:=by grind
   have e2:j8 i+1+1=j8 i+2:=by omega
   have om:tL (j8 i+1)=true:=gX.2 (by omega);by_cases hn:i.tmod 12<0
   . have k1:=k1 hn;have m1:=m1 hn;clear k2 m2;simp only[show π (i.tdiv 12) 1=i.tdiv 12-1 from rfl,show ν (i.tmod 12) 12=i.tmod 12+12 from rfl,k1,m1,show ν (j8 i) 1=j8 i+1 from rfl,e2];simp_all [az];omega
   . have k2:=k2 (by omega);have m2:=m2 (by omega);clear k1 m1;rw[k2]at tb;simp only[k2,m2,show ν (j8 i) 1=j8 i+1 from rfl,e2];simp_all [az];omega
 grind
theorem Hz{d p:Int}(h:¬(1<=p/\p<=3)):(kU d p).b0=some (.d [kw 0 0 0 0,.a .i64 18]):=by
 grind [aq,kU,Tr.b0]
theorem NY{d:Int}:(kU d 3).b0=some (.d [kw 0 d 0 d,.a .i64 0]):=rfl
theorem Pa{d p:Int}(h:cE d):lT d p=true:=by grind [lT]
theorem RV{d:Int}(h:cE d):(kU d 1).b0=some (.d [kw 0 (bf (aN d)) 0 (bf (aN d)+364+iE (aN d)),.a .i64 0]):=by
 have e0:(ab 1 1&&ab 1 3)=true:=rfl;simp only[kU,Tr.b0,e0,Pa h,cond_true];rfl
theorem Rm{d:Int}(h:cE d):(kU d 2).b0=some (.d [kw 0 (aG (aN d) (bZ d)) 0 (aG (aN d) (bZ d)+d6 (aN d) (bZ d)-1),.a .i64 0]):=by
 have e0:(ab 1 2&&ab 2 3)=true:=rfl;simp only[kU,Tr.b0,e0,Pa h,cond_true];rfl
theorem Kb{d p:Int}(h:cE d=false)(hp:p=1\/p=2):(kU d p).b0=some (.d [kw 0 0 0 0,.a .i64 6]):=by
 grind [aq,lT,aw,kU,Tr.b0]
theorem BU{d p:Int}(h:(kU d p).b0=some v):aC v=[]:=by
 have hc:cE d\/cE d=false:=by simp
 have hp:¬(1<=p/\p<=3)\/p=1\/p=2\/p=3:=by omega
 have key:∀u,(kU d p).b0=some u->aC u=[]->aC v=[]:=λu hu hi=>by
  grind
 rcases hp with hp|rfl|rfl|rfl
 . grind [Hz,aC,bw]
 . rcases hc with hc|hc
   . exact key _ (RV hc) (by rfl)
   . exact key _ (Kb hc (.inl rfl)) (by rfl)
 . rcases hc with hc|hc
   . exact key _ (Rm hc) (by rfl)
   . exact key _ (Kb hc (.inr rfl)) (by rfl)
 grind [NY,aC,bw]
theorem lO{d:Int}(h:cE d):(-10000000000000000<=aN d/\aN d<=10000000000000000)/\(1<=bZ d/\bZ d<=12)/\(-3652425000000000001<=bf (aN d)/\bf (aN d)<=3652425000000000400)/\(-3652425000000000001<=aG (aN d) (bZ d)/\aG (aN d) (bZ d)<=3652425000000000800)/\(28<=d6 (aN d) (bZ d)/\d6 (aN d) (bZ d)<=31)/\(0<=iE (aN d)/\iE (aN d)<=1):=by
 have hy : -10000000000000000<=aN d/\aN d<=10000000000000000:=pO.2 h;have hm:1<=bZ d/\bZ d<=12:=⟨(Go.Proofs.YtcffhjfdlflbgaaGreatDoor.mOf_spec d).1,(Go.Proofs.YtcffhjfdlflbgaaGreatDoor.mOf_spec d).2.1⟩;exact⟨hy,hm,Go.Proofs.YtcffhjfdlflbgaaGreatDoor.yst_bd _ hy.1 (by omega),Go.Proofs.YtcffhjfdlflbgaaGreatDoor.mst_bd _ _ hy hm.1 (by omega),Go.Proofs.YtcffhjfdlflbgaaGreatDoor.mlen_bd _ _,Go.Proofs.YtcffhjfdlflbgaaGreatDoor.lp_01 _⟩
theorem Jq{d p:Int}(hd : -9223372036854775808<=d/\d<=9223372036854775807)(hv:(kU d p).b0=some v):bu Tryz.prog cfg 49 [.a .i64 d,.a .i64 p] [] v []:=by
 cases hc:cE d with
 | true=>
   obtain⟨hY,hM,c1,c2,c3,c4⟩:=lO hc;refine jD Hq ai (bE 100231100070007000224003320201000220220200204104201004104324) (R:=λQ=>(λ(A E O:AV)(F G N:Bool)(B C:Int)=>(λ(P:AV)(H I T U W Y:Bool)(V Z:Int)=>(λ(u1 u2:Int)(u0 u3:Prop)=>(λ(u4:Int)=>(H->H/\G=false/\(N->u0)/\(N=false->(aa p 3->Q (.d [.h [A,O,A,O],E]))/\(aa p 3=false->af .i64 d/\(T->Q (.d [P,.a .i64 6]))/\(T=false->(aa p 1->F/\U/\U/\af .i64 V/\W/\af .i64 u1/\Q (.d [.h [A,.a .i64 (bf B),A,.a .i64 u1],E]))/\(aa p 1=false->F/\F/\aa C 0=false/\not (ab C 12)=false/\(I->ab 1 C/\Y/\I/\ab 1 C/\Y/\W/\af .i64 u2/\af .i64 u4/\Q (.d [.h [A,.a .i64 Z,A,.a .i64 u4],E]))/\(I=false->False))))))/\(u3->u3/\G/\u0)) (π u2 1)) (ν V (iE B)) (ν Z (d6 B C)) (Q (.d [P,.a .i64 18])) (H=false)) (.h [A,E,A,E]) (not G) (eO B) (aa (cond F 1 0) 0) (and (ab (Neg.neg 10000000000000000) B) (ab B 10000000000000001)) (af .i64 B) (ab C 13) (ν (bf B) 364) (χ (σ (aG B C) 1) 1)) (.a .i8 0) (.a .i64 0) (.a .i64 d) (cE d) (not (ab 1 p)) (not (ab p 3)) (aN d) (bZ d)) (λ_=>by rfl) (hi:=(BU hv)) λQ' hQ=>?_;try dsimp only
   have fin:∀u,(kU d p).b0=some u->Q' u:=λu hu=>hQ _ (ξ (hu.symm.trans hv));have hyb:=bX.2 hY;clear hQ hv;simp only[hc,cond_true];have hp:¬(1<=p/\p<=3)\/p=1\/p=2\/p=3:=by omega
   have e1:aG (aN d) (bZ d)+1-1=aG (aN d) (bZ d):=by omega
   rcases hp with hp|rfl|rfl|rfl
   . have k:=fin _ (Hz hp);simp only[az,reduceCtorEq]
     (repeat' first|exact trivial|refine⟨?_,?_⟩|intro)<;>first|contradiction|omega|assumption|(exfalso;simp_all;done)
   . have k:=fin _ (RV hc);simp only[az,reduceCtorEq]
     (repeat' first|exact trivial|refine⟨?_,?_⟩|intro)<;>first|contradiction|omega|assumption|(exfalso;simp_all;done)
   . have k:=fin _ (Rm hc);simp only[e1];simp only[az,reduceCtorEq]
     (repeat' first|exact trivial|refine⟨?_,?_⟩|intro)<;>first|contradiction|omega|assumption|(exfalso;simp_all;done)
   . have k:=fin _ NY;simp only[az,reduceCtorEq]
     (repeat' first|exact trivial|refine⟨?_,?_⟩|intro)<;>first|contradiction|omega|assumption|(exfalso;simp_all;done)
 | false=>
   refine jD Hq ai (bE 100231301304104201004104324) (R:=λQ=>(λ(A C G:AV)(B F H:Bool)(I:Prop)=>(λ(N:AV)(E:Bool)=>(λ(O P:Prop)=>(E->E/\B=false/\(F->O)/\(F=false->(aa p 3->Q (.d [.h [A,G,A,G],C]))/\(aa p 3=false->af .i64 d/\(H->Q (.d [N,.a .i64 6]))/\(H=false->(aa p 1->I)/\(aa p 1=false->I)))))/\(P->P/\B/\O)) (Q (.d [N,.a .i64 18])) (E=false)) (.h [A,C,A,C]) (not B)) (.a .i8 0) (.a .i64 0) (.a .i64 d) (not (ab 1 p)) (not (ab p 3)) (aa (cond (cE d) 1 0) 0) (cE d=false/\False)) (λ_=>by kernel_rfl) (hi:=(BU hv)) λQ' hQ=>?_;try dsimp only
   have fin:∀u,(kU d p).b0=some u->Q' u:=λu hu=>hQ _ (ξ (hu.symm.trans hv));clear hQ hv;simp only[hc,cond_false];have hp:¬(1<=p/\p<=3)\/(p=1\/p=2)\/p=3:=by omega
   rcases hp with hp|hp|rfl
   . have k:=fin _ (Hz hp);simp only[az,reduceCtorEq]
     (repeat' first|exact trivial|refine⟨?_,?_⟩|intro)<;>first|contradiction|omega|assumption|(exfalso;simp_all;done)
   . have k:=fin _ (Kb hc hp);simp only[az,reduceCtorEq]
     (repeat' first|exact trivial|refine⟨?_,?_⟩|intro)<;>first|contradiction|omega|assumption|(exfalso;simp_all;done)
   . have k:=fin _ NY;simp only[az,reduceCtorEq]
     (repeat' first|exact trivial|refine⟨?_,?_⟩|intro)<;>first|contradiction|omega|assumption|(exfalso;simp_all;done)
theorem WZ{d p:Int}(hd : -9223372036854775808<=d/\d<=9223372036854775807)(hv:(kU d p).b0=some v):bu Tryz.prog cfg 97 [.a .i64 d,.a .u8 p] [] v []:=by
 have ids:=BU hv;have hp:¬(1<=p/\p<=3)\/p=1\/p=2\/p=3:=by omega
 rcases hp with hp|rfl|rfl|rfl
 . refine jD yF ai (bE 100331074) (R:=λQ=>(λ(C E:AV)(A:Bool)=>(λ(B F:Prop)=>(A->A/\A/\not (ab p 3)/\F)/\(B->B/\B/\F)) (A=false) (Q (.d [.h [C,E,C,E],.a .i64 18]))) (.a .i8 0) (.a .i64 0) (ab 1 p)) (λ_=>by rfl) (hi:=ids) λQ' hQ=>?_;try dsimp only
   have fin:∀u,(kU d p).b0=some u->Q' u:=λu hu=>hQ _ (ξ (hu.symm.trans hv));simp_all [az,Hz]
 . cases hc:cE d with
   | true=>
     obtain⟨hY,hM,c1,c2,c3,c4⟩:=lO hc;refine jD yF ai (bE 1105204000220006) (R:=λQ=>(λ(C:AV)(A:Int)=>(λ(B:Bool)=>af .i64 d/\cE d/\(B->B/\Q (.d [.h [C,.a .i64 (bf A),C,.a .i64 (χ (bf (σ A 1)) 1)],.a .i64 0]))/\(B=false->False)) (eO A)) (.a .i8 0) (aN d)) (λ_=>by rfl) (hi:=ids) λQ' hQ=>?_;try dsimp only
     have fin:∀u,(kU d 1).b0=some u->Q' u:=λu hu=>hQ _ (ξ (hu.symm.trans hv));have hyb:=bX.2 hY;have e:bf (aN d+1)-1=bf (aN d)+364+iE (aN d):=by
      have:bf (aN d+1)=bf (aN d)+365+iE (aN d):=Go.Proofs.YtcffhjfdlflbgaaGreatDoor.yst_succ _;omega
     rw[e];simp only[az,reduceCtorEq]
     (repeat' first|exact trivial|refine⟨?_,?_⟩|intro)<;>first|contradiction|omega|assumption|exact fin _ (RV hc)|(exfalso;simp_all;done)
   | false=>
     refine jD yF ai (bE 100320006) (R:=λQ=>af .i64 d/\cE d=false/\Q (.d [.h [.a .i8 0,.a .i64 0,.a .i8 0,.a .i64 0],.a .i64 6])) (λ_=>by kernel_rfl) (hi:=ids) λQ' hQ=>?_;have fin:∀u,(kU d 1).b0=some u->Q' u:=λu hu=>hQ _ (ξ (hu.symm.trans hv));simp only[az,reduceCtorEq]
     (repeat' first|exact trivial|refine⟨?_,?_⟩|intro)<;>first|contradiction|omega|assumption|exact fin _ (Kb hc (.inl rfl))
 . cases hc:cE d with
   | true=>
     obtain⟨hY,hM,c1,c2,c3,c4⟩:=lO hc;refine jD yF ai (bE 11000420002270006) (R:=λQ=>(λ(E:AV)(C:Int)=>(λ(F:Int)=>(λ(A:Int)=>(λ(G:Bool)(B:Int)=>af .i64 d/\cE d/\af .i64 C/\af .i64 F/\G/\G/\(eO B->Q (.d [.h [E,.a .i64 (aG B (σ (j8 A) 1)),E,.a .i64 (χ (aG B (σ (j8 A) 2)) 1)],.a .i64 0]))/\(eO B=false->False)) (af .i64 A) (dc A 12)) (π F 1)) (ν C (bZ d))) (.a .i8 0) (ω 12 (aN d))) (λ_=>by kernel_rfl) (hi:=ids) λQ' hQ=>?_;try dsimp only
     have fin:∀u,(kU d 2).b0=some u->Q' u:=λu hu=>hQ _ (ξ (hu.symm.trans hv));have hyb:=bX.2 hY;have e1:dc (π (ν (ω 12 (aN d)) (bZ d)) 1) 12=aN d:=by
      show(12*aN d+bZ d-1)/12=aN d;omega
     have e2:j8 (π (ν (ω 12 (aN d)) (bZ d)) 1)=bZ d-1:=by
      show(12*aN d+bZ d-1)%12=bZ d-1;omega
     have e3:aG (aN d) (bZ d+1)-1=aG (aN d) (bZ d)+d6 (aN d) (bZ d)-1:=by
      have:aG (aN d) (bZ d+1)=aG (aN d) (bZ d)+d6 (aN d) (bZ d):=Go.Proofs.YtcffhjfdlflbgaaGreatDoor.mst_succ _ _ hM.1 hM.2;omega
     rw[e1,e2,show bZ d-1+1=bZ d by omega,show bZ d-1+2=bZ d+1 by omega,e3];simp only[az,reduceCtorEq]
     (repeat' first|exact trivial|refine⟨?_,?_⟩|intro)<;>first|contradiction|omega|assumption|exact fin _ (Rm hc)|(exfalso;simp_all;done)
   | false=>
     refine jD yF ai (bE 105320006) (R:=λQ=>af .i64 d/\cE d=false/\Q (.d [.h [.a .i8 0,.a .i64 0,.a .i8 0,.a .i64 0],.a .i64 6])) (λ_=>by kernel_rfl) (hi:=ids) λQ' hQ=>?_;have fin:∀u,(kU d 2).b0=some u->Q' u:=λu hu=>hQ _ (ξ (hu.symm.trans hv));simp only[az,reduceCtorEq]
     (repeat' first|exact trivial|refine⟨?_,?_⟩|intro)<;>first|contradiction|omega|assumption|exact fin _ (Kb hc (.inr rfl))
 . refine jD yF ai (bE 100056) (R:=λQ=>Q (.d [.h [.a .i8 0,.a .i64 d,.a .i8 0,.a .i64 d],.a .i64 0])) (λ_=>by kernel_rfl) (hi:=ids) λQ' hQ=>?_;exact hQ _ (ξ (NY.symm.trans hv))
theorem W5(hS:ak Tryz.prog cfg S):ak Tryz.prog cfg (d5 S 49 BG):=au hS λargs t v he hv=>by
 unfold BG at he;split at he
 . cases he;obtain⟨h1,hv⟩:=eL hv;rw[aE]at h1;simp only[eH,eE]at h1;exact Jq h1 hv
 grind
theorem RG(hS:ak Tryz.prog cfg S):ak Tryz.prog cfg (d5 S 97 Sf):=au hS λargs t v he hv=>by
 unfold Sf at he;split at he
 . cases he;obtain⟨h1,hv⟩:=eL hv;rw[aE]at h1;simp only[eH,eE]at h1;exact WZ h1 hv
 grind
end Go.Ev
