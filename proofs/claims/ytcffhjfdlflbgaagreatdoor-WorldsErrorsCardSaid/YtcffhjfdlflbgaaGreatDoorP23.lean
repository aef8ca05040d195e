import Derived.Test.YtcffhjfdlflbgaaGreatDoorP22
set_option linter.all false
open HAdd renaming hAdd->ν
open Int renaming ofNat->ξ,add->ο,tdiv_eq_ediv_of_nonneg->τ,sub->υ,tdiv->ω,tmod->Γ,mul->Θ
open List renaming getD->π
open Nat renaming le_refl->ς,not_lt_zero->χ,zero_le->ψ,add_assoc->Α,reduceAdd->Β,beq->Ε,zero_add->Ζ,add_zero->Η
open Option.some renaming inj->σ
open HSub renaming hSub->Δ
set_option linter.all false
set_option maxRecDepth 100000
set_option maxHeartbeats 4000000
section
namespace Go.Ev
open Go Go.Proofs
variable{k:fg}{S:aQ}
def S8:aQ:=pX S7 99 aiv
theorem I4:ak Tryz.prog cfg S8:=eG vQ af3
structure Rn where
 a:Int
 b:Int
 c:Int
 d:Int
def x9:Rn:=⟨0,0,0,0⟩
def bh:List Rn->List AV
 | []=>[]
 | r::rs=>.a .i8 r.a::.a .i64 r.b::.a .i8 r.c::.a .i64 r.d::bh rs
def tC(f:Nat->Int):Nat->Nat->Int
 | _,0=>0
 | i,n+1=>if f i=0 then tC f (i+1) n else f i
def LO(q r:Rn)(i:Nat):Int:=if bA r.a r.b r.c r.d=0 then(if 0<i/\(0<In q.a q.b q.c q.d r.a r.b r.c r.d\/vz q.a q.b q.c q.d r.a r.b r.c r.d=true)then 12 else 0)else bA r.a r.b r.c r.d
def ahv(q r:Rn)(i:Nat):Int:=if bA r.a r.b r.c r.d=0 then(if 0<i/\(0<=gc q.c q.d r.a r.b\/ada q.a q.b q.c q.d r.a r.b r.c r.d=true)then 12 else 0)else bA r.a r.b r.c r.d
def qn(R:List Rn)(i:Nat):Int:=LO (R.getD (i-1) x9) (R.getD i x9) i
def abz(R:List Rn)(i:Nat):Int:=ahv (R.getD (i-1) x9) (R.getD i x9) i
def jo(R:List Rn):Int:=tC (qn R) 0 R.length
def abH(R:List Rn):Int:=tC (abz R) 0 R.length
def Yq(R:List Rn):dW:=λ
 | [.c 14 0 n k,.a .i64 z,.c 14 0 n' k',.a .i64 n'',.a .i64 i],⟨0,[],[]⟩=>some (aH [Nat.ble n 1000,Ε R.length n,Ε n' n,aa n'' (ξ n),aa i 0,aa z 0] (.d0 (aa (jo R) 0) λb=>bif b then .a0 (.b 0,[.c 14 0 n k,.a .i64 0,.c 14 0 n' k',.a .i64 n'',.a .i64 n''],dO)else .e0 λJ=>.a0 (.c,[.c 14 0 n k,.a .i64 (jo R),.c 14 0 n' k',.a .i64 n'',.j (J 0)],dO)))
 | _,_=>none
def CW(R:List Rn):dW:=λ
 | [.c 14 0 n k,.a .i64 z,.a .i64 i],⟨0,[],[]⟩=>some (aH [Nat.ble n 1000,Ε R.length n,aa i 0,aa z 0] (.d0 (aa (abH R) 0) λb=>bif b then .a0 (.b 0,[.c 14 0 n k,.a .i64 0,.a .i64 (ξ n)],dO)else .e0 λJ=>.a0 (.c,[.c 14 0 n k,.a .i64 (abH R),.j (J 0)],dO)))
 | _,_=>none
def L_(R:List Rn):cx:=iz jE 0 (d9 43 [0,2,9,10,11] (Yq R))
def Mf(R:List Rn):cx:=iz jE 0 (d9 51 [0,2,3] (CW R))
theorem VW.e0{C:bg}{kb tn:Nat}{rel:List Nat}{vs vs' vs'':List AV}{o o' o'':aB}(h1:VW cfg C kb tn rel vs o vs' o')(h2:VW cfg C kb tn rel vs' o' vs'' o''):VW cfg C kb tn rel vs o vs'' o'':=λJ=>(h1 J).c0 λs ⟨J',e⟩=>by rw[e];exact h2 J'
theorem GN{ws:List cD}{tn:Nat}{rel:List Nat}{vs vs':List AV}{o:aB}(hw:∀x∈ws,cR 14 x)(hle:o.le=[])(hvs:yw (kG (14+ws.length+0) [] 20) vs=some vs'):VW cfg (Cw cfg ws) 0 tn rel vs o vs' dO:=
 VW.d0 gR.lv (C:=Cw cfg ws) (kb:=0) (sel:=[]) (B6 hw) (ψ _) (λs hs=>by grind) List.nodup_nil (λp hp=>by grind) hle.symm rfl rfl (λi hi=>absurd hi (χ i)) (λt ht=>absurd ht (χ t)) hvs
theorem As{f:Nat->Int}:∀{n i k:Nat},(∀j,i<=j->j<k->f j=0)->i<=k->k<i+n->f k≠0->tC f i n=f k
 | 0,i,k,_,h1,h2,_=>by omega
 | n+1,i,k,h,h1,h2,h3=>by
   rw[tC];by_cases e:i=k
   . grind
   . rw[if_pos (h i (ς _) δ)];exact As (λj hj hk=>h j δ hk) δ δ h3
theorem xm{f:Nat->Int}:∀{n i:Nat},(∀j,i<=j->j<i+n->f j=0)->tC f i n=0
 | 0,_,_=>rfl
 | n+1,i,h=>by
   rw[tC,if_pos (h i (ς _) δ)];exact xm λj hj hk=>h j δ δ
theorem adG{f g:Nat->Int}:∀{n i:Nat},(∀j,i<=j->j<i+n->(∀k,i<=k->k<j->f k=0)->f j=g j)->tC f i n=tC g i n
 | 0,_,_=>rfl
 | n+1,i,h=>by
   have h0:=h i (ς _) δ (λk hk hj=>by omega);rw[tC,tC,<-h0];by_cases e:f i=0
   . rw[if_pos e,if_pos e];exact adG λj hj hk hz=>h j δ δ λk h1 h2=>by
      grind
   omega
theorem agA{r:Rn}{rs:List Rn}{n:Nat}{v:AV}:(bh (r::rs)).getD (n+4) v=(bh rs).getD n v:=rfl
theorem wH{R:List Rn}{i:Nat}(h:i<R.length):(bh R).getD (i*4) (.d [])=.a .i8 (R.getD i x9).a/\(bh R).getD (i*4+1) (.d [])=.a .i64 (R.getD i x9).b/\(bh R).getD (i*4+2) (.d [])=.a .i8 (R.getD i x9).c/\(bh R).getD (i*4+3) (.d [])=.a .i64 (R.getD i x9).d:=by
 induction R generalizing i with
 | nil=>grind
 | cons r rs ih=>
   cases i with
   | zero=>exact⟨rfl,rfl,rfl,rfl⟩
   | succ i=>
     grind [agA]
theorem Q1{j:Nat}:Int.toNat (υ (ξ (j+1)) 1)=j:=by
 grind
theorem sR:∀{R:List Rn},bw (bh R)=[]
 | []=>rfl
 | r::rs=>by simp only[bh,bw,aC,List.nil_append];exact sR
theorem jz{R:List Rn}:∀x∈[cD.a (bh R) false none],cR 14 x:=λx hx=>by
 simp only[List.mem_singleton]at hx;subst hx;refine⟨rfl,λi hi=>?_⟩;grind [HL,sR]
theorem ZM{R:List Rn}(hR:∀i,i<R.length->IJ (R.getD i x9).d):cu Tryz.prog (cH cfg S8) (Cw cfg [.a (bh R) false none]) (lb 41 0) 43 [0,2,9,10,11] (Yq R):=by
 have hw:=@jz R;intro vs o t Q hv hq J;unfold Yq at hv;split at hv
 . rename_i n k z n' k' n'' i;cases hv;replace hq:=cO hq;obtain⟨⟨h1,h2,h3,h4,h5,h6,-⟩,hq⟩:=hq;rw[al]at h1;rw[aJ]at h2 h3;rw[ao]at h4 h5 h6;subst h2 h3 h4 h5 h6;simp only[aH,Tr.wp]at hq;refine ia I4 rfl rfl ai (ι:={i:Nat // i<=R.length/\∀j,j<i->qn R j=0}) (λx=>[.c 14 0 R.length k,.a .i64 0,.c 14 0 R.length k',.a .i64 (ξ R.length),.a .i64 (ξ x.1)]) (λ_=>dO) (λx=>R.length-x.1) 0 (λ_=>ς _) (λx J=>?_) (ς _) (λJ=>Wk.a0 ⟨⟨0,ψ _,λj hj=>absurd hj (χ j)⟩,J,rfl⟩) J;obtain⟨i,hi,hz⟩:=x;dsimp only;refine jJ (bE 1120330005338810788121423275777747577774140522704) (R:=λQ=>(λ(C I N u2:AV)(G u0:Int)(u1:Nat)=>(λ(O V u4:AV)(A u3:Bool)(W u6:Int)(u5:Nat)=>(λ(u7:AV)(u9:Bool)(P:Int)(u8 ua:Nat)(B:Prop)=>(λ(ub uc:AV)(T:Int)(ud:Nat)=>(λ(ue:AV)(H U:Int)(uf:Nat)=>(λ(ui:AV)(uh:Bool)(ug:Int)(uj:Nat)(uk ul:Prop)=>(λ(uo up:AV)(um un:Bool)=>(λ(uq ur:Bool)(Y:Int)=>(λ(Z us:Bool)=>(λ(E:Bool)=>(λ(F:Prop)=>(λ(ut:Prop->Prop)=>(u3->aS i R.length/\eB .i8 u4/\eB .i64 u7/\eB .i8 ub/\eB .i64 uc/\(um->Q (.c,[I,.a .i64 ug,N,O,V],⟨1,[.a [.a .i8 P,.a .i64 T,.a .i8 U,.a .i64 H] true none],[]⟩))/\(um=false->(A->A/\A/\u9/\A/\ut (A/\uh/\un/\uq/\ur/\A/\A/\A/\A/\(E->E/\E/\u9/\E/\ut (E/\uh/\un/\uq/\ur/\E/\E/\af .i64 Y/\af .i64 H/\A/\Z=false/\A/\(us->uk)/\(us=false->ul)))/\(F->F/\F/\F/\F/\F/\F/\A/\Z/\A/\uk)))/\(B->B/\B/\B/\B/\B/\B/\B/\B/\B/\B/\ul)))/\(u3=false->Q (.b 0,[I,u2,N,O,V],⟨0,[],[]⟩))) (λuu=>ab 0 W/\aS ua R.length/\uu)) (E=false)) (not Z)) (not (ab (In (dx ue) (dx ui) (dx uo) Y P T U H) 0)) (vz (dx ue) (dx ui) (dx uo) Y P T U H)) (eB .i8 uo) (eB .i64 up) (dx up)) (π (bh R) uj C) (π (bh R) (ν uj 1) C) (not (aa ug 0)) (eB .i64 ui)) (π (bh R) uf C) (eB .i8 ue) (bA P T U H) (ν uf 1) (Q (.c,[I,.a .i64 12,N,O,V],⟨1,[.a [.a .i8 P,.a .i64 T,.a .i8 U,.a .i64 H] true none],[]⟩)) (af .i64 u6/\Q (.a,[I,u2,N,O,.a .i64 u6],⟨1,[.a [.a .i8 P,.a .i64 T,.a .i8 U,.a .i64 H] true none],[]⟩))) (π (bh R) ud C) (dx uc) (dx ub) (ν ud 1)) (π (bh R) u8 C) (π (bh R) (ν u8 1) C) (dx u7) (ν 0 (HMul.hMul ua 4))) (π (bh R) u5 C) (af .i64 W) (dx u4) (ν u5 1) W.toNat (A=false)) (.a .i64 u0) (.a .i64 G) (π (bh R) u1 C) (not (ab G 0)) (not (ab u0 G)) (υ G 1) (ο G 1) (ν u1 1)) (.d []) (.c 14 0 R.length k) (.c 14 0 R.length k') (.a .i64 0) (ξ i) (ξ R.length) (ν 0 (HMul.hMul i 4))) (λ_=>by rfl) λQ' hQ=>?_;try dsimp only
   have yes:i<R.length->∀e,qn R i=e->e≠0->∀J:Nat->Value,Q (.c,[.c 14 0 R.length k,.a .i64 e,.c 14 0 R.length k',.a .i64 (ξ R.length),.j (J 0)],dO):=λhlt e he hne J2=>by
    have hc:jo R=e:=he▸As (λj _ hj=>hz j hj) (ψ _) δ (he.symm▸hne);rw[hc,aw.mpr hne]at hq;exact hq J2
   have no:i=R.length->Q (.b 0,[.c 14 0 R.length k,.a .i64 0,.c 14 0 R.length k',.a .i64 (ξ R.length),.a .i64 (ξ R.length)],dO):=λhe=>by
    subst he;have hc:jo R=0:=xm λj _ hj=>hz j δ;rw[hc]at hq;exact hq
   have next:qn R i=0->∀j,j<i+1->qn R j=0:=λh j hj=>by
    grind
   clear hq;by_cases hlt:i<R.length
   . obtain⟨f1,f2,f3,f4⟩:=wH hlt;have b1:=hR i hlt;have ret:∀(e:Int) (o:aB),o.le=[]->qn R i=e->e≠0->∃vs2 o2,VW cfg (Cw cfg [.a (bh R) false none]) 0 43 [0,2,9,10,11] [.c 14 0 R.length k,.a .i64 e,.c 14 0 R.length k',.a .i64 (ξ R.length),.a .i64 (ξ i)] o vs2 o2/\Q (.c,vs2,o2):=λe o ho he hne=>
      ⟨_,_,(GN hw ho rfl).e0 (VW.c0 (.a0 (.a0 (.a0 (.a0 (.b0 .c0))))) rfl),yes hlt e he hne (jv [_])⟩
     have go:∀(o:aB),o.le=[]->qn R i=0->∃y:{i:Nat // i<=R.length/\∀j,j<i->qn R j=0},R.length-y.1<R.length-i/\VW cfg (Cw cfg [.a (bh R) false none]) 0 43 [0,2,9,10,11] [.c 14 0 R.length k,.a .i64 0,.c 14 0 R.length k',.a .i64 (ξ R.length),.a .i64 (ο (ξ i) 1)] o [.c 14 0 R.length k,.a .i64 0,.c 14 0 R.length k',.a .i64 (ξ R.length),.a .i64 (ξ y.1)] dO:=λo ho h0=>
      ⟨⟨i+1,by omega,next h0⟩,by dsimp only;omega,GN hw ho rfl⟩
     have hE:qn R i=LO (R.getD (i-1) x9) (R.getD i x9) i:=rfl;rw[hE]at ret go;clear yes no next hz hE;cases i with
     | zero=>
       clear hR;simp only[Α,Β,Ζ,Η,f1,f2,f3,f4,eB,dx,zb,abw]at *;generalize R.getD 0 x9=r at *;unfold LO at ret go;simp only[az,reduceCtorEq]
       (repeat' first|exact trivial|refine⟨?_,?_⟩|intro)<;>first|contradiction|omega|assumption|refine hQ _ ?_
       . exact ret _ _ rfl (by rw[if_neg (by assumption)]) (by assumption)
       . exact go _ rfl (by rw[if_pos (by assumption),if_neg δ])
     | succ j=>
       obtain⟨g1,g2,g3,g4⟩:=wH (R:=R) (i:=j) δ;have b2:=hR j δ;clear hR;rw[show j+1-1=j by omega]at ret go;simp only[Q1,Α,Β,Ζ,Η,f1,f2,f3,f4,g1,g2,g3,g4,eB,dx,zb,abw]at *;generalize R.getD (j+1) x9=r at *;generalize R.getD j x9=q at *;unfold LO at ret go;unfold IJ at b1 b2;simp only[az,reduceCtorEq]
       (repeat' first|exact trivial|refine⟨?_,?_⟩|intro)<;>first|contradiction|omega|assumption|refine hQ _ ?_
       all_goals first
        | exact ret _ _ rfl (by rw[if_neg (by assumption)]) (by assumption)
        | exact ret 12 _ rfl (by rw[if_pos (by assumption),if_pos ⟨by omega,.inl (by assumption)⟩]) ζ
        | exact ret 12 _ rfl (by rw[if_pos (by assumption),if_pos ⟨by omega,.inr (by assumption)⟩]) ζ
        | exact go _ rfl (by rw[if_pos (by assumption),if_neg (by rintro⟨_,h|h⟩<;>simp_all<;>omega)])
   . obtain rfl:i=R.length:=δ
     have no:=no rfl;simp only[az,reduceCtorEq]
     (repeat' first|exact trivial|refine⟨?_,?_⟩|intro)<;>first|contradiction|omega|assumption|(refine hQ _ ?_;exact⟨_,_,VW.a0,no⟩)
 . cases hv
theorem aoz{R:List Rn}(hR:∀i,i<R.length->IJ (R.getD i x9).d):cu Tryz.prog (cH cfg S8) (Cw cfg [.a (bh R) false none]) (lb 45 0) 51 [0,2,3] (CW R):=by
 have hw:=@jz R;intro vs o t Q hv hq J;unfold CW at hv;split at hv
 . rename_i n k z i;cases hv;replace hq:=cO hq;obtain⟨⟨h1,h2,h3,h4,-⟩,hq⟩:=hq;rw[al]at h1;rw[aJ]at h2;rw[ao]at h3 h4;subst h2 h3 h4;simp only[aH,Tr.wp]at hq;refine ia I4 rfl rfl ai (ι:={i:Nat // i<=R.length/\∀j,j<i->abz R j=0}) (λx=>[.c 14 0 R.length k,.a .i64 0,.a .i64 (ξ x.1)]) (λ_=>dO) (λx=>R.length-x.1) 0 (λ_=>ς _) (λx J=>?_) (ς _) (λJ=>Wk.a0 ⟨⟨0,ψ _,λj hj=>absurd hj (χ j)⟩,J,rfl⟩) J;obtain⟨i,hi,hz⟩:=x;dsimp only;refine jJ (bE 1120330638888107888121423277702277774227702777741422704) (R:=λQ=>(λ(C H W:AV)(I:Bool)(G:Int)(N:Nat)=>(λ(O Z:AV)(A Y:Bool)(P u2:Int)(u0 u1:Nat)=>(λ(u4 u8 u9:AV)(u3 u6:Bool)(u5 u7:Nat)(B ua ub:Prop)=>(λ(ud ue:AV)(uc:Bool)(T:Nat)=>(λ(ui:AV)(uf ug:Bool)(U:Int)(uh uj:Nat)=>(λ(ul um un:AV)(uk:Int)(uo:Nat)=>(λ(uq ur:AV)(V up:Bool)=>(λ(E us:Bool)=>(λ(F:Prop)=>(λ(ut:Prop->Prop)=>(Y->I/\u3/\uc/\uf/\ug/\(up->Q (.c,[H,.a .i64 uk,O],⟨0,[],[]⟩))/\(up=false->(A->A/\A/\u6/\A/\ut (A/\A/\eB .i8 ul/\eB .i64 um/\A/\A/\A/\I/\A/\A/\eB .i8 u8/\eB .i64 u9/\A/\A/\A/\(E->E/\E/\u6/\E/\ut (E/\eB .i8 ui/\eB .i64 un/\eB .i8 uq/\eB .i64 ur/\E/\E/\E/\I/\E/\u3/\uc/\uf/\ug/\E/\af .i64 (dx ur)/\af .i64 U/\A/\V=false/\A/\(us->ua)/\(us=false->ub)))/\(F->F/\F/\F/\F/\F/\F/\F/\F/\F/\A/\V/\A/\ua)))/\(B->B/\B/\B/\B/\B/\B/\B/\B/\B/\B/\B/\B/\B/\B/\B/\ub)))/\(Y=false->Q (.b 0,[H,W,O],⟨0,[],[]⟩))) (λuu=>ab 0 P/\aS u7 R.length/\uu)) (E=false)) (not V) (ada (dx ui) (dx un) (dx uq) (dx ur) (dx Z) (dx u4) (dx ud) U)) (π (bh R) uo C) (π (bh R) (ν uo 1) C) (ab 0 (gc (dx ul) (dx um) (dx u8) (dx u9))) (not (aa uk 0))) (π (bh R) uh C) (π (bh R) (ν uh 1) C) (π (bh R) uj C) (bA (dx Z) (dx u4) (dx ud) U) (ν uj 1)) (π (bh R) T C) (eB .i8 ud) (eB .i64 ue) (dx ue) (ν T 2) (ν T 1)) (π (bh R) u5 C) (π (bh R) (ν u5 1) C) (eB .i64 u4) (ν 0 (HMul.hMul u7 4))) (π (bh R) u0 C) (π (bh R) u1 C) (π (bh R) (ν u1 1) C) (eB .i8 Z) (af .i64 P) (ν u0 1) P.toNat (A=false) (Q (.c,[H,.a .i64 12,O],⟨0,[],[]⟩)) (af .i64 u2/\Q (.a,[H,W,.a .i64 u2],⟨0,[],[]⟩))) (.a .i64 G) (π (bh R) N C) (not (ab G 0)) (not (ab (ξ R.length) G)) (υ G 1) (ο G 1) (ν N 1) (ν N 0)) (.d []) (.c 14 0 R.length k) (.a .i64 0) (aS i R.length) (ξ i) (ν 0 (HMul.hMul i 4))) (λ_=>by rfl) λQ' hQ=>?_;try dsimp only
   have yes:i<R.length->∀e,abz R i=e->e≠0->∀J:Nat->Value,Q (.c,[.c 14 0 R.length k,.a .i64 e,.j (J 0)],dO):=λhlt e he hne J2=>by
    have hc:abH R=e:=he▸As (λj _ hj=>hz j hj) (ψ _) δ (he.symm▸hne);rw[hc,aw.mpr hne]at hq;exact hq J2
   have no:i=R.length->Q (.b 0,[.c 14 0 R.length k,.a .i64 0,.a .i64 (ξ R.length)],dO):=λhe=>by
    subst he;have hc:abH R=0:=xm λj _ hj=>hz j δ;rw[hc]at hq;exact hq
   have next:abz R i=0->∀j,j<i+1->abz R j=0:=λh j hj=>by
    grind
   clear hq;by_cases hlt:i<R.length
   . obtain⟨f1,f2,f3,f4⟩:=wH hlt;have b1:=hR i hlt;have ret:∀(e:Int) (o:aB),o.le=[]->abz R i=e->e≠0->∃vs2 o2,VW cfg (Cw cfg [.a (bh R) false none]) 0 51 [0,2,3] [.c 14 0 R.length k,.a .i64 e,.a .i64 (ξ i)] o vs2 o2/\Q (.c,vs2,o2):=λe o ho he hne=>
      ⟨_,_,(GN hw ho rfl).e0 (VW.c0 (.a0 (.a0 (.b0 .c0))) rfl),yes hlt e he hne (jv [_])⟩
     have go:∀(o:aB),o.le=[]->abz R i=0->∃y:{i:Nat // i<=R.length/\∀j,j<i->abz R j=0},R.length-y.1<R.length-i/\VW cfg (Cw cfg [.a (bh R) false none]) 0 51 [0,2,3] [.c 14 0 R.length k,.a .i64 0,.a .i64 (ο (ξ i) 1)] o [.c 14 0 R.length k,.a .i64 0,.a .i64 (ξ y.1)] dO:=λo ho h0=>
      ⟨⟨i+1,by omega,next h0⟩,by dsimp only;omega,GN hw ho rfl⟩
     have hE:abz R i=ahv (R.getD (i-1) x9) (R.getD i x9) i:=rfl;rw[hE]at ret go;clear yes no next hz hE;cases i with
     | zero=>
       clear hR;simp only[Α,Β,Ζ,Η,f1,f2,f3,f4,eB,dx,zb,abw]at *;generalize R.getD 0 x9=r at *;unfold ahv at ret go;simp only[az,reduceCtorEq]
       (repeat' first|exact trivial|refine⟨?_,?_⟩|intro)<;>first|contradiction|omega|assumption|refine hQ _ ?_
       . exact ret _ _ rfl (by rw[if_neg (by assumption)]) (by assumption)
       . exact go _ rfl (by rw[if_pos (by assumption),if_neg δ])
     | succ j=>
       obtain⟨g1,g2,g3,g4⟩:=wH (R:=R) (i:=j) δ;have b2:=hR j δ;clear hR;rw[show j+1-1=j by omega]at ret go;simp only[Q1,Α,Β,Ζ,Η,f1,f2,f3,f4,g1,g2,g3,g4,eB,dx,zb,abw]at *;generalize R.getD (j+1) x9=r at *;generalize R.getD j x9=q at *;unfold ahv at ret go;unfold IJ at b1 b2;simp only[az,reduceCtorEq]
       (repeat' first|exact trivial|refine⟨?_,?_⟩|intro)<;>first|contradiction|omega|assumption|refine hQ _ ?_
       all_goals first
        | exact ret _ _ rfl (by rw[if_neg (by assumption)]) (by assumption)
        | exact ret 12 _ rfl (by rw[if_pos (by assumption),if_pos ⟨by omega,.inl (by assumption)⟩]) ζ
        | exact ret 12 _ rfl (by rw[if_pos (by assumption),if_pos ⟨by omega,.inr (by assumption)⟩]) ζ
        | exact go _ rfl (by rw[if_pos (by assumption),if_neg (by rintro⟨_,h|h⟩<;>simp_all<;>omega)])
   . obtain rfl:i=R.length:=δ
     have no:=no rfl;simp only[az,reduceCtorEq]
     (repeat' first|exact trivial|refine⟨?_,?_⟩|intro)<;>first|contradiction|omega|assumption|(refine hQ _ ?_;exact⟨_,_,VW.a0,no⟩)
 . cases hv
def Xw:List AV->List Rn
 | .a .i8 a::.a .i64 b::.a .i8 c::.a .i64 d::r=>⟨a,b,c,d⟩::Xw r
 | _=>[]
def eJ:List AV->Bool
 | []=>true
 | .a .i8 _::.a .i64 b::.a .i8 _::.a .i64 d::r=>af .i64 b&&(af .i64 d&&eJ r)
 | _=>false
theorem hZ:∀{w:List AV},eJ w->bh (Xw w)=w
 | [],_=>rfl
 | .a .i8 a::.a .i64 b::.a .i8 c::.a .i64 d::r,h=>by
   simp only[eJ,zAa]at h;simp only[Xw,bh,hZ h.2.2]
theorem Hk:∀{w:List AV},eJ w->∀i,i<(Xw w).length->IJ ((Xw w).getD i x9).d
 | [],_,i,hi=>absurd hi (χ _)
 | .a .i8 a::.a .i64 b::.a .i8 c::.a .i64 d::r,h,i,hi=>by
   simp only[eJ,zAa,aE,eH,eE]at h;cases i with
   | zero=>exact h.2.1
   | succ i=>exact Hk h.2.2 i (by grind [Xw])
theorem ai3{R:List Rn}(hR:∀i,i<R.length->IJ (R.getD i x9).d):jo R=abH R:=by
 unfold jo abH;refine adG λj _ hj hz=>?_;unfold qn abz LO ahv;by_cases h:bA (R.getD j x9).a (R.getD j x9).b (R.getD j x9).c (R.getD j x9).d=0
 . rw[if_pos h,if_pos h];cases j with
   | zero=>rw[if_neg δ,if_neg δ]
   | succ j=>
     have hp:=hz j (ψ _) δ;have hq:bA (R.getD j x9).a (R.getD j x9).b (R.getD j x9).c (R.getD j x9).d=0:=by
      unfold qn LO at hp;by_cases e:bA (R.getD j x9).a (R.getD j x9).b (R.getD j x9).c (R.getD j x9).d=0
      . exact e
      . rw[if_neg e]at hp;exact absurd hp e
     have:=aik hq h (hR j δ).2 (hR (j+1) δ).2;simp only[show j+1-1=j by omega,this]
 . rw[if_neg h,if_neg h]
theorem ap5:aY tab 41=some (dH 41,aL 41):=κ
theorem OH:(bz (aL 41)).map (·.1)=[0]:=κ
theorem IW{R:List Rn}(hR:∀i,i<R.length->IJ (R.getD i x9).d)(hn:R.length<=1000):bu Tryz.prog cfg 41 [.c 14 0 R.length k] [.a (bh R) false none] (.a .i64 (jo R)) []:=by
 refine P0 I4 (L:=L_ R) jz ap5 θ (dv OH λi hi e he st Q hw=>?_) (jJ (bE 11400273) (R:=λQ=>(λ(B:Bool)(A:Int)=>not (ab A 4096)=false/\Nat.ble R.length 1000/\Ε R.length R.length/\Ε R.length R.length/\aa A A/\(B->(∀J1:Nat->Value,Q (.a .i64 0)))/\(B=false->(∀J1 J2:Nat->Value,Q (.a .i64 (jo R))))) (aa (jo R) 0) (ξ R.length)) (λ_=>by rfl) λQ' hQ=>?_) κ
 . have hi:i=0:=η
   subst hi;cases he;exact bR (cC.a0 I4) ζ rfl (ZM hR) hw
 . have h0:jo R=0->Q' (.a .i64 0):=λh=>hQ _ (by rw[h]);simp_all [az];omega
def YK:aav:=λ
 | [.c 14 0 n k],[.a w false none]=>some (aH [eJ w,Ε (Xw w).length n,Nat.ble n 1000] (.a0 (.a .i64 (jo (Xw w)),[])))
 | _,_=>none
theorem UQ(hS:ak Tryz.prog cfg S):ak Tryz.prog cfg (eQ S 41 (fl 14 [4] YK)):=by
 refine bm hS (fW gR.lv Az λargs ws t r he hr=>?_);unfold YK at he;split at he
 . rename_i n k w;cases he;replace hr:=aF hr;obtain⟨⟨h1,h2,h3,-⟩,hr⟩:=hr;rw[aJ]at h2;rw[al]at h3;subst h2;cases hr;grind [IW,Hk,hZ]
 grind
theorem akt:aY tab 45=some (dH 45,aL 45):=κ
theorem aix:(bz (aL 45)).map (·.1)=[0]:=κ
theorem Jc{R:List Rn}(hR:∀i,i<R.length->IJ (R.getD i x9).d)(hn:R.length<=1000):bu Tryz.prog cfg 45 [.c 14 0 R.length k] [.a (bh R) false none] (.a .i64 (abH R)) []:=by
 refine P0 I4 (L:=Mf R) jz akt θ (dv aix λi hi e he st Q hw=>?_) (jJ (bE 11400223) (R:=λQ=>(λ(A:Bool)=>not (ab (ξ R.length) 4096)=false/\Nat.ble R.length 1000/\Ε R.length R.length/\(A->(∀J1:Nat->Value,Q (.a .i64 0)))/\(A=false->(∀J1 J2:Nat->Value,Q (.a .i64 (abH R))))) (aa (abH R) 0)) (λ_=>by rfl) λQ' hQ=>?_) κ
 . have hi:i=0:=η
   subst hi;cases he;exact bR (cC.a0 I4) ζ rfl (aoz hR) hw
 . have h0:abH R=0->Q' (.a .i64 0):=λh=>hQ _ (by rw[h]);simp_all [az];omega
def Ff:aav:=λ
 | [.c 14 0 n k],[.a w false none]=>some (aH [eJ w,Ε (Xw w).length n,Nat.ble n 1000] (.a0 (.a .i64 (abH (Xw w)),[])))
 | _,_=>none
theorem amI(hS:ak Tryz.prog cfg S):ak Tryz.prog cfg (eQ S 45 (fl 14 [4] Ff)):=by
 refine bm hS (fW gR.lv Az λargs ws t r he hr=>?_);unfold Ff at he;split at he
 . rename_i n k w;cases he;replace hr:=aF hr;obtain⟨⟨h1,h2,h3,-⟩,hr⟩:=hr;rw[aJ]at h2;rw[al]at h3;subst h2;cases hr;grind [Jc,Hk,hZ]
 grind
end Go.Ev
end
section
namespace Go.Ev
open Go Go.Proofs Go.Proofs.YtcffhjfdlflbgaaGreatDoor
def aN(d:Int):Int:=yOf d
def bZ(d:Int):Int:=mOf d
def cE(d:Int):Bool:=ab (-3652425000000000000) d&&ab d 3652425000000000365
theorem P9:yst (-10000000000000000) = -3652425000000000000:=ζ
theorem Lu:yst 10000000000000001=3652425000000000366:=ζ
theorem pO{d:Int}:okY (yOf d)↔cE d=true:=by
 obtain⟨h1,h2⟩:=yOf_spec d;grind [cE,okY,aq,P9,Lu,yOf]
def Sx:dP:=λ
 | [.a .i64 d]=>some (aH [af .i64 d] (.d0 (cE d) λb=>bif b then .a0 (.d [.a .i64 (aN d),.a .i64 0])else .a0 (.d [.a .i64 0,.a .i64 6])))
 | _=>none
def XA:aQ:=aK Hx 222 Sx
def Rx:dW:=λ
 | [.a .i64 y,.a .i64 l,.a .i64 i,.a .i64 a,.a .i64 b],⟨0,[],[]⟩=>some (aH [eO y,aa i 0,aa a 0,aa b 0,ab 0 l,Bool.not (ab (365+iE y) l)] (.e0 λJ=>.a0 (.c,[.a .i64 y,.j (J 0),.j (J 1),.a .i64 (mOfL y l),.a .i64 0],dO)))
 | _,_=>none
def Sm:dP:=λ
 | [.a .i64 d]=>some (aH [af .i64 d] (.d0 (cE d) λb=>bif b then .a0 (.d [.a .i64 (aN d),.a .i64 (bZ d),.a .i64 0])else .a0 (.d [.a .i64 0,.a .i64 0,.a .i64 6])))
 | _=>none
def Yx:cx:=iz jE 0 (d9 43 [2,7,26,3,4] Rx)
theorem O7:aY tab 225=some (dH 225,aL 225):=κ
theorem G4:aY tab 222=some (dH 222,aL 222):=κ
theorem LV:(bz (aL 225)).map (·.1)=[0]:=κ
theorem wW:ak Tryz.prog cfg XA:=by
 refine au KQ λargs t v he hv=>?_;unfold Sx at he;split at he
 . rename_i d;cases he;obtain⟨h1,hv⟩:=ex hv;rw[aE]at h1;simp only[eH,eE]at h1;have hv':Tr.b0 (bif cE d then Tr.a0 (AV.d [.a .i64 (aN d),.a .i64 0])else Tr.a0 (AV.d [.a .i64 0,.a .i64 6]))=some v:=hv;cases hc:cE d with
   | true=>
     rw[hc]at hv';cases hv';refine dy G4 κ λm w hG=>?_;simp_all [aD,aj,aN,years_Of_ok,pO]
   | false=>
     rw[hc]at hv';cases hv';refine dy G4 κ λm w hG=>?_;simp_all [aD,aj,years_Of_no,pO]
 grind
theorem SS(y:Int):mcum y 1=0:=κ
theorem XI:cu Tryz.prog (cH cfg XA) (Cw cfg []) (lb 225 0) 43 [2,7,26,3,4] Rx:=by
 intro vs o t Q hv hq J;unfold Rx at hv;split at hv
 . rename_i y l i a b;cases hv;obtain⟨h1,hq1⟩:=cZ hq;obtain⟨h2,hq2⟩:=cZ hq1;obtain⟨h3,hq3⟩:=cZ hq2;obtain⟨h4,hq4⟩:=cZ hq3;obtain⟨h5,hq5⟩:=cZ hq4;obtain⟨h6,hq6⟩:=cZ hq5;clear hq hq1 hq2 hq3 hq4 hq5;rw[ao]at h2 h3 h4;rw[aq]at h5;rw[nr,bF]at h6;subst h2 h3 h4;have hy:=bX.1 h1;have hq:∀J:Nat->Value,Q (.c,[.a .i64 y,.j (J 0),.j (J 1),.a .i64 (mOfL y l),.a .i64 0],dO):=hq6;have hs:=mOfL_spec y l h5 h6;have h13:=mcum_13 y;refine ia wW rfl rfl ai (ι:={i:Nat // (i:Int)+1<=mOfL y l}) (λx=>[.a .i64 y,.a .i64 (l-mcum y ((x.1:Int)+1)),.a .i64 (x.1:Int),.a .i64 0,.a .i64 0]) (λ_=>dO) (λx=>12-x.1) 0 (λ_=>ψ _) (λx J=>?_) (ς _) (λJ=>Wk.a0 ⟨⟨0,by omega⟩,J,by
    grind [SS]⟩) J
   obtain⟨i,hi⟩:=x;dsimp only;refine jJ (bE 1212412422022) (R:=λQ=>(λ(B E:AV)(A:Int)=>(λ(F:AV)(C H:Bool)(G:Int)=>(λ(I:Bool)=>not (ab 12 i)/\C/\and (ab (Neg.neg 10000000000000000) y) (ab y 10000000000000000)/\and (ab 1 A) (ab A 12)/\(H->C/\Q (.c,[E,.a .i64 (l-mcum y ((i:Int)+1)),.a .i64 i,F,B],⟨0,[],[]⟩))/\(H=false->(I->C/\Q (.a,[E,.a .i64 G,F,B,B],⟨0,[],[]⟩))/\(I=false->C/\Q (.a,[E,.a .i64 (IntKind.wrap .i64 G),F,B,B],⟨0,[],[]⟩)))) (af .i64 G)) (.a .i64 A) (af .i64 A) (not (ab (d6 y A) (l-mcum y ((i:Int)+1)))) (υ (l-mcum y ((i:Int)+1)) (d6 y A))) (.a .i64 0) (.a .i64 y) (ο i 1)) (λ_=>by rfl) λQ' hQ=>?_;try dsimp only
   have e:=mcum_succ y ((i:Int)+1) δ δ;have m1:=mcum_mono y (a:=(i:Int)+1) (b:=mOfL y l) δ hi;have m2:¬(i:Int)+1=mOfL y l->mcum y ((i:Int)+1+1)<=mcum y (mOfL y l):=λh=>mcum_mono y δ δ;have m3:(i:Int)+1=mOfL y l->mcum y ((i:Int)+1+1)=mcum y (mOfL y l+1):=λh=>by rw[h]
   have b2:=jk y ((i:Int)+1);have b3:=mcum_bd y ((i:Int)+1) δ δ;have em:d6 y ((i:Int)+1)=mlen y ((i:Int)+1):=rfl;have l2:0<=iE y/\iE y<=1:=lp_01 y;have go:mcum y ((i:Int)+1+1)<=l->Q' (.a,[.a .i64 y,.a .i64 (l-mcum y ((i:Int)+1)-d6 y ((i:Int)+1)),.a .i64 ((i:Int)+1),.a .i64 0,.a .i64 0],dO):=λh=>
    hQ (.a,_,_) ⟨⟨i+1,by
     have:¬(i:Int)+1=mOfL y l:=λh'=>by have:=m3 h';omega
     simp;omega⟩,by dsimp only;omega,VW.b0 (by
     have:l-mcum y ((i:Int)+1)-d6 y ((i:Int)+1)=l-mcum y (((i+1:Nat):Int)+1):=by rw[show(((i+1:Nat):Int)+1)=(i:Int)+1+1 by omega,e,em];omega
     rw[this];rfl) rfl⟩
   have fin:l<mcum y ((i:Int)+1+1)->Q' (.c,[.a .i64 y,.a .i64 (l-mcum y ((i:Int)+1)),.a .i64 (i:Int),.a .i64 ((i:Int)+1),.a .i64 0],dO):=λh=>by
    have e2:(i:Int)+1=mOfL y l:=by
     refine Classical.byContradiction λh'=>?_;have:=m2 h';omega
    refine hQ (.c,_,_) ⟨_,_,VW.c0 (.a0 (.b0 (.b0 (.a0 (.a0 .c0))))) rfl,?_⟩;rw[e2];exact hq (jv [_,_])
   clear hQ hq hq6;rw[<-em]at e;simp only[az,reduceCtorEq];have om:tL ((i:Int)+1)=true:=gX.2 δ;generalize d6 y ((i:Int)+1)=ml at *;generalize mcum y ((i:Int)+1+1)=c2 at *;generalize mcum y ((i:Int)+1)=c1 at *
   (repeat' first|exact trivial|refine⟨?_,?_⟩|intro)<;>first|omega|exact go δ|exact fin δ
 . cases hv
theorem Si{S:aQ}(hS:ak Tryz.prog cfg S):ak Tryz.prog cfg (aK S 225 Sm):=by
 refine au hS λargs t v he hv=>?_;unfold Sm at he;split at he
 . rename_i d;cases he;obtain⟨h1,hv⟩:=ex hv;rw[aE]at h1;simp only[eH,eE]at h1;have hv':Tr.b0 (bif cE d then Tr.a0 (AV.d [.a .i64 (aN d),.a .i64 (bZ d),.a .i64 0])else Tr.a0 (AV.d [.a .i64 0,.a .i64 0,.a .i64 6]))=some v:=hv;have ids:aC v=[]:=by
    cases hb:cE d<;>rw[hb]at hv'<;>cases hv'<;>simp[aC,bw]
   refine kA wW (L:=Yx) O7 θ (dv LV λi hi e he st Q hw=>?_) (jJ (bE 1011114400021114400024400420) (R:=λQ=>(λ(C:AV)(A:Int)=>(λ(H:AV)(E:Bool)(B G:Int)=>(λ(I N:Bool)(F:Int)=>(λ(O:Bool)=>af .i64 d/\(cE d->(E->(I->E/\(ab 0 B->(N->(∀J1 J2:Nat->Value,Q (.d [H,.a .i64 (mOfL A B),C])))/\(N=false->False))/\(ab 0 B=false->False))/\(I=false->E/\(ab 0 F->(O->(∀J1 J2:Nat->Value,Q (.d [H,.a .i64 (mOfL A F),C])))/\(O=false->False))/\(ab 0 F=false->False)))/\(E=false->False))/\(cE d=false->Q (.d [C,C,.a .i64 6]))) (not (ab G F))) (af .i64 B) (not (ab G B)) (IntKind.wrap .i64 B)) (.a .i64 A) (and (ab (Neg.neg 10000000000000000) A) (ab A 10000000000000000)) (υ d (bf A)) (ν 365 (iE A))) (.a .i64 0) (aN d)) (λ_=>by rfl) λQ' hQ=>?_) ids
   . have hi:i=0:=η
     subst hi;cases he;exact bR (cC.a0 wW) ζ rfl XI hw
   . dsimp only;obtain⟨y1,y2⟩:=yOf_spec d;rw[yst_succ]at y2;have yes:cE d->Q' (.d [.a .i64 (aN d),.a .i64 (mOfL (aN d) (d-bf (aN d))),.a .i64 0]):=λh=>by
      rw[h]at hv';cases hv';exact hQ _ rfl
     have no:cE d=false->Q' (.d [.a .i64 0,.a .i64 0,.a .i64 6]):=λh=>by
      rw[h]at hv';cases hv';grind
     have yb:cE d->-10000000000000000<=aN d/\aN d<=10000000000000000:=λh=>pO.2 h;have y1:bf (aN d)<=d:=y1;have y2:d<bf (aN d)+365+iE (aN d):=y2;have l2:0<=iE (aN d)/\iE (aN d)<=1:=lp_01 _;simp_all [az];omega
 grind
end Go.Ev
end
section
namespace Go.Ev
open Go Go.Proofs
def ZP:dP:=λ
 | [.a .i64 a,.a .i64 b]=>some (aH [af .i64 a,aa b 400 || (aa b 146097 || aa b 12)] (.a0 (.a .i64 (dc a b))))
 | _=>none
def Z9:dP:=λ
 | [.a .i64 y]=>some (aH [af .i64 y] (.a0 (.a .i64 (iE y))))
 | _=>none
def R1:aQ:=aK (aK gZ 186 ZP) 158 Z9
def Z6:dP:=λ
 | [.a .i64 y,.a .i64 m]=>some (aH [af .i64 y] (.a0 (.a .i64 (d6 y m))))
 | _=>none
def J_(y:Int):Bool:=ab (-10000000000000000) y&&ab y 10000000000000001
def KW:dP:=λ
 | [.a .i64 y]=>some (aH [J_ y] (.a0 (.a .i64 (bf y))))
 | _=>none
def R2:aQ:=aK (aK R1 161 Z6) 157 KW
theorem C4{a b:Int}(hb:0<b):(a.tmod b<0->a.tdiv b-1=dc a b)/\(0<=a.tmod b->a.tdiv b=dc a b):=by
 grind [Int.emod_add_mul_ediv,dc,Int.ediv_emod_unique]
theorem FZ:ak Tryz.prog cfg R1:=by
 refine au (au aW λargs t v he hv=>?_) λargs t v he hv=>?_
 . unfold ZP at he;split at he
   . rename_i a b;cases he;obtain⟨⟨h1,h2,-⟩,hv⟩:=aF hv;rw[aE]at h1;simp only[eH,eE]at h1;rw[Bool.or_eq_true,Bool.or_eq_true,ao,ao,ao]at h2;cases hv;rcases h2 with rfl|rfl|rfl
     . refine jD aW ai (bE 120122040) (R:=λQ=>(λ(B:Bool)(A:Int)=>(λ(C:Bool)(E:Int)=>(B->C/\af .i64 E/\Q (.a .i64 E))/\(B=false->C/\Q (.a .i64 A))) (af .i64 A) (υ A 1)) (not (ab 0 (Γ a 400))) (ω a 400)) (λ_=>by rfl) λQ' hQ=>?_;try dsimp only
       obtain⟨k1,k2⟩:=@C4 a 400 ζ;have tb:=Go.Proofs.YtcffhjfdlflbgaaGreatDoor.tdiv_bd a 400 ζ h1.1 h1.2;simp_all [az];omega
     . refine jD aW ai (bE 120122040) (R:=λQ=>(λ(B:Bool)(A:Int)=>(λ(C:Bool)(E:Int)=>(B->C/\af .i64 E/\Q (.a .i64 E))/\(B=false->C/\Q (.a .i64 A))) (af .i64 A) (υ A 1)) (not (ab 0 (Γ a 146097))) (ω a 146097)) (λ_=>by rfl) λQ' hQ=>?_;try dsimp only
       obtain⟨k1,k2⟩:=@C4 a 146097 ζ;have tb:=Go.Proofs.YtcffhjfdlflbgaaGreatDoor.tdiv_bd a 146097 ζ h1.1 h1.2;simp_all [az];omega
     . refine jD aW ai (bE 120122040) (R:=λQ=>(λ(B:Bool)(A:Int)=>(λ(C:Bool)(E:Int)=>(B->C/\af .i64 E/\Q (.a .i64 E))/\(B=false->C/\Q (.a .i64 A))) (af .i64 A) (υ A 1)) (not (ab 0 (Γ a 12))) (ω a 12)) (λ_=>by rfl) λQ' hQ=>?_;try dsimp only
       obtain⟨k1,k2⟩:=@C4 a 12 ζ;have tb:=Go.Proofs.YtcffhjfdlflbgaaGreatDoor.tdiv_bd a 12 ζ h1.1 h1.2;simp_all [az];omega
   grind
 . unfold Z9 at he;split at he
   . rename_i y;cases he;obtain⟨h1,hv⟩:=ex hv;rw[aE]at h1;simp only[eH,eE]at h1;cases hv;refine jD aW ai (bE 10330008107331142322024220240) (R:=λQ=>(λ(A E G:Bool)(H I:Prop)=>(λ(C:Bool)(B:Prop)=>(λ(F:Prop)=>(A->A/\A/\A/\(C->C/\C/\A/\E=false/\A/\(G->H)/\(G=false->I))/\(F->F/\F/\A/\E/\A/\H))/\(B->B/\B/\B/\B/\B/\I)) (C=false)) (not E) (A=false)) (aa (Γ y 4) 0) (not (aa (Γ y 100) 0)) (aa (Γ y 400) 0) (Q (.a .i64 1)) (Q (.a .i64 0))) (λ_=>by rfl) λQ' hQ=>?_;try dsimp only
     have z:∀k:Int,y.tmod k=0↔y%k=0:=λk=>by grind [Int.dvd_iff_tmod_eq_zero,Int.dvd_iff_emod_eq_zero]
     have yes:(y%4=0/\(y%100≠0\/y%400=0))->Q' (.a .i64 1):=λh=>hQ _ (by grind [iE,Go.Proofs.YtcffhjfdlflbgaaGreatDoor.lp]);have no:¬(y%4=0/\(y%100≠0\/y%400=0))->Q' (.a .i64 0):=λh=>hQ _ (by grind [iE,Go.Proofs.YtcffhjfdlflbgaaGreatDoor.lp]);simp_all [az]
   grind
theorem DC:ak Tryz.prog cfg R2:=by
 refine au (au FZ λargs t v he hv=>?_) λargs t v he hv=>?_
 . unfold Z6 at he;split at he
   . rename_i y m;cases he;obtain⟨h1,hv⟩:=ex hv;rw[aE]at h1;simp only[eH,eE]at h1;cases hv;have hl:0<=iE y/\iE y<=1:=Go.Proofs.YtcffhjfdlflbgaaGreatDoor.lp_01 y;refine jD FZ ai (bE 10005231523102311432432432412204) (R:=λQ=>(λ(B C E:Bool)(I:Int)(A:Prop)=>(λ(F G H:Bool)=>(λ(N O P:Prop)=>(aa m 2->af .i64 y/\af .i64 I/\Q (.a .i64 I))/\(aa m 2=false->(F->F/\B=false/\(G->G/\C=false/\(H->H/\E=false/\(aa m 11->A)/\(aa m 11=false->Q (.a .i64 31)))/\(N->N/\E/\A))/\(O->O/\C/\A))/\(P->P/\B/\A))) (H=false) (G=false) (F=false)) (not B) (not C) (not E)) (aa m 4) (aa m 6) (aa m 9) (ο 28 (iE y)) (Q (.a .i64 30))) (λ_=>by rfl) λQ' hQ=>?_;try dsimp only
     have fin:∀n:Int,n=d6 y m->Q' (.a .i64 n):=λn h=>hQ _ (by rw[h]);simp only[az,reduceCtorEq]
     (repeat' first|exact trivial|refine⟨?_,?_⟩|intro)<;>first|omega|(refine fin _ ?_;unfold d6 Go.Proofs.YtcffhjfdlflbgaaGreatDoor.mlen;(repeat' split)<;>first|omega|rfl)
   grind
 . unfold KW at he;split at he
   . rename_i y;cases he;obtain⟨h1,hv⟩:=ex hv;unfold J_ at h1;rw[zAa,aq,aq]at h1;cases hv;have hf:dc y 400*400<=y/\y<=dc y 400*400+399:=by unfold dc;omega
     refine jD FZ ai (bE 1220707077020) (R:=λQ=>(λ(B C:Int)=>(λ(A:Int)=>(λ(E F G H:Int)=>(λ(I N O P:Int)=>(λ(T:Int)=>(λ(U:Int)=>(λ(V:Int)=>af .i64 y/\af .i64 B/\af .i64 A/\af .i64 C/\af .i64 E/\af .i64 I/\af .i64 F/\af .i64 N/\af .i64 T/\af .i64 G/\af .i64 O/\af .i64 U/\af .i64 H/\af .i64 P/\af .i64 V/\Q (.a .i64 V)) (ο U P)) (υ T O)) (ο I N)) (ο C E) (ω F 4) (ω G 100) (ω H 400)) (Θ 365 A) (ο A 3) (ο A 99) (ο A 399)) (υ y B)) (Θ (dc y 400) 400) (Θ (dc y 400) 146097)) (λ_=>by rfl) λQ' hQ=>?_;try dsimp only
     have fin:∀n:Int,n=bf y->Q' (.a .i64 n):=λn h=>hQ _ (by rw[h]);simp only[az,reduceCtorEq];have t1:(y-dc y 400*400+3).tdiv 4=(y-dc y 400*400+3)/4:=τ δ;have t2:(y-dc y 400*400+99).tdiv 100=(y-dc y 400*400+99)/100:=τ δ;have t3:(y-dc y 400*400+399).tdiv 400=(y-dc y 400*400+399)/400:=τ δ;simp_all [bf,Go.Proofs.YtcffhjfdlflbgaaGreatDoor.yst_cycles,dc];omega
   grind
end Go.Ev
end
set_option linter.all false
set_option maxRecDepth 100000
set_option maxHeartbeats 4000000
namespace Go.Ev
open Go Go.Proofs
variable{v:AV}{S:aQ}
def Yd:dW:=λ
 | [.a .i64 y,.a .i64 m,.a .i64 d,.a .i64 a,.a .i64 k],⟨0,[],[]⟩=>some (aH [eO y,ab 1 m,ab m 13,aa a (bf y),aa k 1] (.a0 (.b 0,[.a .i64 y,.a .i64 m,.a .i64 d,.a .i64 (aG y m),.a .i64 m],dO)))
 | _,_=>none
def LE:cx:=iz jE 0 (d9 25 [0,1,2,7,8] Yd)
def KH:dP:=λ
 | [.a .i64 y,.a .i64 m,.a .i64 d]=>some (aH [eO y,ab 1 m,ab m 13,ab 1 d,ab d 31] (.a0 (.a .i64 (aG y m+d-1))))
 | _=>none
def Wl:dP:=λ
 | [.a .i64 d]=>some (aH [af .i64 d] (.a0 (.a .i64 (bI (cE d)))))
 | _=>none
def R3:aQ:=aK (aK R2 160 KH) 105 Wl
def SC:dW:=λ
 | [.a .i64 d,.a .i64 y],⟨0,[],[]⟩=>some (aH [cE d,eO y,ab (bf y) d] (.a0 (.b 0,[.a .i64 d,.a .i64 (aN d)],dO)))
 | _,_=>none
def XX:cx:=iz jE 0 (d9 23 [0,4] SC)
def V_:dP:=λ
 | [.a .i64 d]=>some (aH [cE d] (.a0 (.a .i64 (aN d))))
 | _=>none
def R4:aQ:=aK R3 106 V_
def RF:dW:=λ
 | [.a .i64 d,.a .i64 y,.a .i64 m],⟨0,[],[]⟩=>some (aH [cE d,aa y (aN d),aa m 1] (.a0 (.b 0,[.a .i64 d,.a .i64 y,.a .i64 (bZ d)],dO)))
 | _,_=>none
def ZA:cx:=iz jE 0 (d9 20 [0,3,4] RF)
def Xv:dP:=λ
 | [.a .i64 d]=>some (aH [cE d] (.a0 (.a .i64 (bZ d))))
 | _=>none
def R5:aQ:=aK R4 107 Xv
theorem Za(y m d a k:Int)(J:Nat->Value){Q:VQ->Prop}:gG Q (rT R2 jE [] 160 0 25 [0,1,2,7,8] [.a .i64 y,.a .i64 m,.a .i64 d,.a .i64 a,.a .i64 k] J dO) (bE 11704)=((λ(E F G:AV)(A:Bool)(B C:Int)=>(A->af .i64 y/\af .i64 B/\af .i64 C/\Q (.a,[E,F,G,.a .i64 B,.a .i64 C],⟨0,[],[]⟩))/\(A=false->Q (.b 0,[E,F,G,.a .i64 a,.a .i64 k],⟨0,[],[]⟩))) (.a .i64 y) (.a .i64 m) (.a .i64 d) (not (ab m k)) (ο a (d6 y k)) (ο k 1)):=κ
theorem akV:aY tab 160=some (dH 160,aL 160):=κ
theorem Ok:aY tab 106=some (dH 106,aL 106):=κ
theorem Nu:aY tab 107=some (dH 107,aL 107):=κ
theorem NG:(bz (aL 160)).map (·.1)=[0]:=κ
theorem Km:(bz (aL 106)).map (·.1)=[0]:=κ
theorem JD:(bz (aL 107)).map (·.1)=[0]:=κ
theorem dR{d:Int}:cE d=true↔-3652425000000000000<=d/\d<=3652425000000000365:=by grind [cE,aq]
theorem Zh:cu Tryz.prog (cH cfg R2) (Cw cfg []) (lb 160 0) 25 [0,1,2,7,8] Yd:=by
 intro vs o t Q hv hq J;unfold Yd at hv;split at hv
 . rename_i y m d a k;cases hv;replace hq:=cO hq;obtain⟨⟨h1,h2,h3,h4,h5,-⟩,hq⟩:=hq;rw[bX]at h1;rw[aq]at h2 h3;rw[ao]at h4 h5;subst h4 h5;have hq:Q (.b 0,[.a .i64 y,.a .i64 m,.a .i64 d,.a .i64 (aG y m),.a .i64 m],dO):=hq;refine ia DC rfl rfl ai (ι:={k:Int // 1<=k/\k<=m}) (λx=>[.a .i64 y,.a .i64 m,.a .i64 d,.a .i64 (aG y x.1),.a .i64 x.1]) (λ_=>dO) (λx=>(m-x.1).toNat) 0 (λ_=>ς _) (λx J=>?_) (ς _) (λJ=>Wk.a0 ⟨⟨1,by omega,h2⟩,J,by grind [aG,bf,Go.Proofs.YtcffhjfdlflbgaaGreatDoor.mst_1]⟩) J;obtain⟨k,hk⟩:=x;dsimp only;have hb : -3652425000000000001<=aG y k/\aG y k<=3652425000000000800:=Go.Proofs.YtcffhjfdlflbgaaGreatDoor.mst_bd y k h1 hk.1 δ;have hl:28<=d6 y k/\d6 y k<=31:=Go.Proofs.YtcffhjfdlflbgaaGreatDoor.mlen_bd y k;have hs:k<=12->aG y (k+1)=aG y k+d6 y k:=λh=>Go.Proofs.YtcffhjfdlflbgaaGreatDoor.mst_succ y k hk.1 h;refine bb λQ' hQ=>cg ((Za y m d _ k J).mpr ?_);simp only[az,reduceCtorEq]
   (repeat' first|exact trivial|refine⟨?_,?_⟩|intro)<;>first|omega|refine hQ _ ?_
   . exact⟨⟨k+1,by omega⟩,by grind,VW.b0 η rfl⟩
   grind [VW.a0]
 grind
theorem vW:ak Tryz.prog cfg R3:=by
 refine au (au DC λargs t v he hv=>?_) λargs t v he hv=>?_
 . unfold KH at he;split at he
   . rename_i y m d;cases he;obtain⟨⟨h1,h2,h3,h4,h5,-⟩,hv⟩:=aF hv;rw[bX]at h1;rw[aq]at h2 h3 h4 h5;cases hv;have hb : -3652425000000000001<=aG y m/\aG y m<=3652425000000000800:=Go.Proofs.YtcffhjfdlflbgaaGreatDoor.mst_bd y m h1 h2 h3;refine kA DC (L:=LE) akV θ (dv NG λi hi e he st Q hw=>?_) (jJ (bE 12202270) (R:=λQ=>(λ(A:Bool)(B:Int)=>(λ(C:Int)=>and A (ab y 10000000000000001)/\and A (ab y 10000000000000000)/\ab 1 m/\ab m 13/\aa (bf y) (bf y)/\(∀J1:Nat->Value,af .i64 B/\af .i64 C/\Q (.a .i64 C))) (υ B 1)) (ab (Neg.neg 10000000000000000) y) (ο (aG y m) d)) (λ_=>by rfl) λQ' hQ=>?_) κ
     . have hi:i=0:=η
       subst hi;cases he;exact bR (cC.a0 DC) ζ rfl Zh hw
     simp_all [az];omega
   grind
 . unfold Wl at he;split at he
   . rename_i d;cases he;obtain⟨h1,hv⟩:=ex hv;rw[aE]at h1;simp only[eH,eE]at h1;cases hv;refine jD DC ai (bE 102338114320200202002400) (R:=λQ=>(λ(C E:Bool)(F:Prop)=>(λ(A:Bool)=>(λ(B:Prop)=>(A->A/\A/\A/\A/\A/\C=false/\(E->F)/\(E=false->Q (.a .i64 1)))/\(B->B/\B/\B/\B/\B/\C/\F)) (A=false)) (not C)) (not (ab (bf (Neg.neg 10000000000000000)) d)) (not (ab d 3652425000000000365)) (Q (.a .i64 0))) (λ_=>by rfl) λQ' hQ=>?_;try dsimp only
     have e1:bf (-10000000000000000) = -3652425000000000000:=ζ
     have e2:bf 10000000000000000=3652425000000000000:=ζ
     have e3:iE 10000000000000000=1:=ζ
     have yes:(-3652425000000000000<=d/\d<=3652425000000000365)->Q' (.a .i64 1):=λh=>hQ _ (by rw[dR.2 h];rfl);have no:¬(-3652425000000000000<=d/\d<=3652425000000000365)->Q' (.a .i64 0):=λh=>hQ _ (by
      have:cE d=false:=by grind [dR]
      rw[this];rfl)
     simp only[az,reduceCtorEq];grind
   grind
theorem Xe:cu Tryz.prog (cH cfg R3) (Cw cfg []) (lb 106 0) 23 [0,4] SC:=by
 intro vs o t Q hv hq J;unfold SC at hv;split at hv
 . rename_i d y;cases hv;replace hq:=cO hq;obtain⟨⟨h1,h2,h3,-⟩,hq⟩:=hq;rw[dR]at h1;rw[bX]at h2;rw[aq]at h3;have hq:Q (.b 0,[.a .i64 d,.a .i64 (aN d)],dO):=hq;refine ia vW rfl rfl ai (ι:={y:Int // (-10000000000000000<=y/\y<=10000000000000000)/\bf y<=d}) (λx=>[.a .i64 d,.a .i64 x.1]) (λ_=>dO) (λx=>(10000000000000001-x.1).toNat) 0 (λ_=>ς _) (λx J=>?_) (ς _) (λJ=>Wk.a0 ⟨⟨y,h2,h3⟩,J,rfl⟩) J;obtain⟨z,hz,hd⟩:=x;dsimp only;have top:bf (z+1)<=d->z+1<=10000000000000000:=λh=>by
    grind [bf,Lu]
   have fin:d<bf (z+1)->aN d=z:=λh=>Go.Proofs.YtcffhjfdlflbgaaGreatDoor.yOf_unique hd h;refine jJ (bE 1124202) (R:=λQ=>(λ(B:AV)(A:Int)=>(λ(C E:Bool)=>C/\and (ab (Neg.neg 10000000000000000) A) (ab A 10000000000000001)/\(E->C/\Q (.a,[B,.a .i64 A],⟨0,[],[]⟩))/\(E=false->Q (.b 0,[B,.a .i64 z],⟨0,[],[]⟩))) (af .i64 A) (ab (bf A) d)) (.a .i64 d) (ο z 1)) (λ_=>by rfl) λQ' hQ=>?_;simp only[az,reduceCtorEq]
   (repeat' first|exact trivial|refine⟨?_,?_⟩|intro)<;>first|omega|refine hQ _ ?_
   . exact⟨⟨z+1,by omega,by omega⟩,by grind,VW.b0 rfl rfl⟩
   grind [VW.a0]
 grind
theorem GS:ak Tryz.prog cfg R4:=by
 refine au vW λargs t v he hv=>?_;unfold V_ at he;split at he
 . rename_i d;cases he;obtain⟨h1,hv⟩:=ex hv;have h1':=h1;rw[dR]at h1;cases hv;have hf:dc d 146097*146097<=d/\d<=dc d 146097*146097+146096:=by unfold dc;omega
   refine kA vW (L:=XX) Ok θ (dv Km λi hi e he st Q hw=>?_) (jJ (bE 122707020) (R:=λQ=>(λ(B:Int)=>(λ(C E:Int)=>(λ(F:Int)=>(λ(G:Int)=>(λ(A:Int)=>af .i64 d/\af .i64 C/\af .i64 E/\af .i64 F/\af .i64 G/\af .i64 A/\and (ab (Neg.neg 3652425000000000000) d) (ab d 3652425000000000365)/\and (ab (Neg.neg 10000000000000000) A) (ab A 10000000000000000)/\ab (bf A) d/\(∀J1:Nat->Value,Q (.a .i64 (aN d)))) (ο C G)) (ω F 366)) (υ d E)) (Θ B 400) (Θ B 146097)) (dc d 146097)) (λ_=>by rfl) λQ' hQ=>?_) κ
   . have hi:i=0:=η
     subst hi;cases he;exact bR (cC.a0 vW) ζ rfl Xe hw
   . try dsimp only
     have t1:(d-dc d 146097*146097).tdiv 366=(d-dc d 146097*146097)/366:=τ δ;have key:bf (dc d 146097*400+(d-dc d 146097*146097)/366)<=d:=by
      grind [bf,Go.Proofs.YtcffhjfdlflbgaaGreatDoor.yst,Go.Proofs.YtcffhjfdlflbgaaGreatDoor.before]
     simp_all [az];omega
 grind
theorem US:cu Tryz.prog (cH cfg R4) (Cw cfg []) (lb 107 0) 20 [0,3,4] RF:=by
 intro vs o t Q hv hq J;unfold RF at hv;split at hv
 . rename_i d y m;cases hv;replace hq:=cO hq;obtain⟨⟨h1,h2,h3,-⟩,hq⟩:=hq;rw[ao]at h2 h3;subst h2 h3;have hy:Go.Proofs.YtcffhjfdlflbgaaGreatDoor.okY (aN d):=pO.2 h1;obtain⟨s1,s2⟩:=Go.Proofs.YtcffhjfdlflbgaaGreatDoor.yOf_spec d;have hq:Q (.b 0,[.a .i64 d,.a .i64 (aN d),.a .i64 (bZ d)],dO):=hq;refine ia GS rfl rfl ai (ι:={m:Int // (1<=m/\m<=12)/\aG (aN d) m<=d}) (λx=>[.a .i64 d,.a .i64 (aN d),.a .i64 x.1]) (λ_=>dO) (λx=>(13-x.1).toNat) 0 (λ_=>ς _) (λx J=>?_) (ς _) (λJ=>Wk.a0 ⟨⟨1,by omega,by show Go.Proofs.YtcffhjfdlflbgaaGreatDoor.mst _ 1<=d;rw[Go.Proofs.YtcffhjfdlflbgaaGreatDoor.mst_1];exact s1⟩,J,rfl⟩) J;obtain⟨m,hm,hd⟩:=x;dsimp only;have fin:m=12\/d<aG (aN d) (m+1)->bZ d=m:=λh=>by
    refine Go.Proofs.YtcffhjfdlflbgaaGreatDoor.mOf_unique hm.1 hd ?_;rcases h with rfl|h
    . show d<Go.Proofs.YtcffhjfdlflbgaaGreatDoor.mst _ 13;rw[Go.Proofs.YtcffhjfdlflbgaaGreatDoor.mst_next,Go.Proofs.YtcffhjfdlflbgaaGreatDoor.mst_1];exact s2
    . exact h
   refine jJ (bE 1088112470070274) (R:=λQ=>(λ(E F:AV)(A:Bool)(C:Int)=>(λ(G H:Bool)(B I:Prop)=>(A->A/\A/\G/\A/\and (ab (Neg.neg 10000000000000000) (aN d)) (ab (aN d) 10000000000000000)/\ab 1 C/\ab C 13/\A/\A/\A/\(H->G/\Q (.a,[E,F,.a .i64 C],⟨0,[],[]⟩))/\(H=false->I))/\(B->B/\B/\B/\B/\B/\B/\I)) (af .i64 C) (ab (Δ (ν (aG (aN d) C) 1) 1) d) (A=false) (Q (.b 0,[E,F,.a .i64 m],⟨0,[],[]⟩))) (.a .i64 d) (.a .i64 (aN d)) (not (ab 12 m)) (ο m 1)) (λ_=>by kernel_rfl) λQ' hQ=>?_;try dsimp only
   have hyb:=bX.2 hy;have hy2 : -10000000000000000<=aN d/\aN d<=10000000000000000:=hy;simp only[az,reduceCtorEq]
   (repeat' first|exact trivial|refine⟨?_,?_⟩|intro)<;>first|omega|assumption|refine hQ _ ?_
   . exact⟨⟨m+1,by omega,by omega⟩,by dsimp only;omega,VW.b0 rfl rfl⟩
   all_goals
    rw[fin δ]at hq;exact⟨_,_,VW.a0,hq⟩
 . cases hv
theorem Hq:ak Tryz.prog cfg R5:=by
 refine au GS λargs t v he hv=>?_;unfold Xv at he;split at he
 . rename_i d;cases he;obtain⟨h1,hv⟩:=ex hv;have h1':=h1;rw[dR]at h1;cases hv;refine kA GS (L:=ZA) Nu θ (dv JD λi hi e he st Q hw=>?_) (jJ (bE 1070) (R:=λQ=>(λ(A:Bool)=>A/\A/\aa (aN d) (aN d)/\(∀J1:Nat->Value,Q (.a .i64 (bZ d)))) (and (ab (Neg.neg 3652425000000000000) d) (ab d 3652425000000000365))) (λ_=>by rfl) λQ' hQ=>?_) κ
   . have hi:i=0:=η
     subst hi;cases he;exact bR (cC.a0 GS) ζ rfl US hw
   simp_all [az]
 grind
def R6:aQ:=aK (aK (aK (aK (aK (aK R5 222 Sx) 225 Sm) 289 Sd) 290 QV) 293 Q4) 294 Qw
def j8(i:Int):Int:=i%12
def UN:dP:=λ
 | [.a .i64 i]=>some (aH [af .i64 i,eO (dc i 12)] (.a0 (.d [.a .i64 (aG (dc i 12) (j8 i+1)),.a .i64 (aG (dc i 12) (j8 i+2)-1),.a .i64 0])))
 | _=>none
def R7:aQ:=aK R6 226 UN
def lT(d p:Int):Bool:=aa p 3 || cE d
def CK(d p:Int):Int:=bif aa p 3 then d else bif aa p 1 then bf (aN d)else aG (aN d) (bZ d)
def PU(d p:Int):Int:=bif aa p 3 then d else bif aa p 1 then bf (aN d)+364+iE (aN d)else aG (aN d) (bZ d)+d6 (aN d) (bZ d)-1
def kU(d p:Int):Tr AV:=.d0 (ab 1 p&&ab p 3) λb=>bif b then(.d0 (lT d p) λc=>bif c then .a0 (.d [kw 0 (CK d p) 0 (PU d p),.a .i64 0])else .a0 (.d [kw 0 0 0 0,.a .i64 6]))else .a0 (.d [kw 0 0 0 0,.a .i64 18])
def BG:dP:=λ
 | [.a .i64 d,.a .i64 p]=>some (aH [af .i64 d] (kU d p))
 | _=>none
def Sf:dP:=λ
 | [.a .i64 d,.a .u8 p]=>some (aH [af .i64 d] (kU d p))
 | _=>none
theorem Pu:ak Tryz.prog cfg R6:=bm (bm (bm (bm (Si (bm Hq (wW 222 _ rfl))) (Bg 289 _ rfl)) (Bg 290 _ rfl)) (EG 293 _ rfl)) (A_ 294 _ rfl)
theorem Qj{i:Int}:(i.tmod 12<0->i.tmod 12+12=j8 i)/\(0<=i.tmod 12->i.tmod 12=j8 i):=by
 grind [j8]
theorem yF:ak Tryz.prog cfg R7:=by
 refine au Pu λargs t v he hv=>?_;unfold UN at he;split at he
 . rename_i i;cases he;obtain⟨⟨h1,h2,-⟩,hv⟩:=aF hv;rw[aE]at h1;simp only[eH,eE]at h1;cases hv;refine jD Pu ai (bE 111002202440211100220244074020) (R:=λQ=>(λ(O:AV)(A F:Int)=>(λ(G P:Bool)(B C T:Int)=>(λ(H I U:Bool)(E:Int)=>(λ(N V:Bool)=>af .i64 A/\(P->af .i64 B/\af .i64 T/\V/\(H->(N->V/\H/\N/\Q (.d [.a .i64 (aG B E),.a .i64 (Δ (aG B (ν E 1)) 1),O]))/\(N=false->False))/\(H=false->False))/\(P=false->U/\(G->(I->U/\G/\I/\Q (.d [.a .i64 (aG A C),.a .i64 (Δ (aG A (ν C 1)) 1),O]))/\(I=false->False))/\(G=false->False))) (tL E) (af .i64 E)) (eO B) (tL C) (af .i64 C) (ο T 1)) (eO A) (not (ab 0 F)) (υ A 1) (ο F 1) (ο F 12)) (.a .i64 0) (ω i 12) (Γ i 12)) (λ_=>by rfl) λQ' hQ=>?_;try dsimp only
   obtain⟨k1,k2⟩:=@C4 i 12 ζ;obtain⟨m1,m2⟩:=@Qj i;have tb:=Go.Proofs.YtcffhjfdlflbgaaGreatDoor.tdiv_bd i 12 ζ h1.1 h1.2;have mb:0<=j8 i/\j8 i<=11:=η
   have e2:j8 i+1+1=j8 i+2:=δ
   have om:tL (j8 i+1)=true:=gX.2 δ;by_cases hn:i.tmod 12<0
   . have k1:=k1 hn;have m1:=m1 hn;clear k2 m2;simp only[show υ (i.tdiv 12) 1=i.tdiv 12-1 from rfl,show ο (i.tmod 12) 12=i.tmod 12+12 from rfl,k1,m1,show ο (j8 i) 1=j8 i+1 from rfl,e2];simp_all [az];omega
   . have k2:=k2 δ;have m2:=m2 δ;clear k1 m1;rw[k2]at tb;simp only[k2,m2,show ο (j8 i) 1=j8 i+1 from rfl,e2];simp_all [az];omega
 grind
theorem Hz{d p:Int}(h:¬(1<=p/\p<=3)):(kU d p).b0=some (.d [kw 0 0 0 0,.a .i64 18]):=by
 grind [aq,kU,Tr.b0]
theorem NY{d:Int}:(kU d 3).b0=some (.d [kw 0 d 0 d,.a .i64 0]):=rfl
theorem Pa{d p:Int}(h:cE d):lT d p=true:=by grind [lT]
theorem RV{d:Int}(h:cE d):(kU d 1).b0=some (.d [kw 0 (bf (aN d)) 0 (bf (aN d)+364+iE (aN d)),.a .i64 0]):=by
 have e0:(ab 1 1&&ab 1 3)=true:=rfl;simp only[kU,Tr.b0,e0,Pa h,cond_true];rfl
theorem Rm{d:Int}(h:cE d):(kU d 2).b0=some (.d [kw 0 (aG (aN d) (bZ d)) 0 (aG (aN d) (bZ d)+d6 (aN d) (bZ d)-1),.a .i64 0]):=by
 have e0:(ab 1 2&&ab 2 3)=true:=rfl;simp only[kU,Tr.b0,e0,Pa h,cond_true];rfl
theorem Kb{d p:Int}(h:cE d=false)(hp:p=1\/p=2):(kU d p).b0=some (.d [kw 0 0 0 0,.a .i64 6]):=by
 grind [aq,lT,aw,kU,Tr.b0]
theorem BU{d p:Int}(h:(kU d p).b0=some v):aC v=[]:=by
 have hc:cE d\/cE d=false:=θ
 have hp:¬(1<=p/\p<=3)\/p=1\/p=2\/p=3:=δ
 have key:∀u,(kU d p).b0=some u->aC u=[]->aC v=[]:=λu hu hi=>by
  grind
 rcases hp with hp|rfl|rfl|rfl
 . grind [Hz,aC,bw]
 . rcases hc with hc|hc
   . exact key _ (RV hc) κ
   . exact key _ (Kb hc (.inl rfl)) κ
 . rcases hc with hc|hc
   . exact key _ (Rm hc) κ
   . exact key _ (Kb hc (.inr rfl)) κ
 grind [NY,aC,bw]
theorem lO{d:Int}(h:cE d):(-10000000000000000<=aN d/\aN d<=10000000000000000)/\(1<=bZ d/\bZ d<=12)/\(-3652425000000000001<=bf (aN d)/\bf (aN d)<=3652425000000000400)/\(-3652425000000000001<=aG (aN d) (bZ d)/\aG (aN d) (bZ d)<=3652425000000000800)/\(28<=d6 (aN d) (bZ d)/\d6 (aN d) (bZ d)<=31)/\(0<=iE (aN d)/\iE (aN d)<=1):=by
 have hy : -10000000000000000<=aN d/\aN d<=10000000000000000:=pO.2 h;have hm:1<=bZ d/\bZ d<=12:=⟨(Go.Proofs.YtcffhjfdlflbgaaGreatDoor.mOf_spec d).1,(Go.Proofs.YtcffhjfdlflbgaaGreatDoor.mOf_spec d).2.1⟩;exact⟨hy,hm,Go.Proofs.YtcffhjfdlflbgaaGreatDoor.yst_bd _ hy.1 δ,Go.Proofs.YtcffhjfdlflbgaaGreatDoor.mst_bd _ _ hy hm.1 δ,Go.Proofs.YtcffhjfdlflbgaaGreatDoor.mlen_bd _ _,Go.Proofs.YtcffhjfdlflbgaaGreatDoor.lp_01 _⟩
theorem Jq{d p:Int}(hd : -9223372036854775808<=d/\d<=9223372036854775807)(hv:(kU d p).b0=some v):bu Tryz.prog cfg 49 [.a .i64 d,.a .i64 p] [] v []:=by
 cases hc:cE d with
 | true=>
   obtain⟨hY,hM,c1,c2,c3,c4⟩:=lO hc;refine jD Hq ai (bE 100231100070007000224003320201000220220200204104201004104324) (R:=λQ=>(λ(A E O:AV)(F G N:Bool)(B C:Int)=>(λ(P:AV)(H I T U W Y:Bool)(V Z:Int)=>(λ(u1 u2:Int)(u0 u3:Prop)=>(λ(u4:Int)=>(H->H/\G=false/\(N->u0)/\(N=false->(aa p 3->Q (.d [.g [A,O,A,O],E]))/\(aa p 3=false->af .i64 d/\(T->Q (.d [P,.a .i64 6]))/\(T=false->(aa p 1->F/\U/\U/\af .i64 V/\W/\af .i64 u1/\Q (.d [.g [A,.a .i64 (bf B),A,.a .i64 u1],E]))/\(aa p 1=false->F/\F/\aa C 0=false/\not (ab C 12)=false/\(I->ab 1 C/\Y/\I/\ab 1 C/\Y/\W/\af .i64 u2/\af .i64 u4/\Q (.d [.g [A,.a .i64 Z,A,.a .i64 u4],E]))/\(I=false->False))))))/\(u3->u3/\G/\u0)) (υ u2 1)) (ο V (iE B)) (ο Z (d6 B C)) (Q (.d [P,.a .i64 18])) (H=false)) (.g [A,E,A,E]) (not G) (eO B) (aa (cond F 1 0) 0) (and (ab (Neg.neg 10000000000000000) B) (ab B 10000000000000001)) (af .i64 B) (ab C 13) (ο (bf B) 364) (Δ (ν (aG B C) 1) 1)) (.a .i8 0) (.a .i64 0) (.a .i64 d) (cE d) (not (ab 1 p)) (not (ab p 3)) (aN d) (bZ d)) (λ_=>by rfl) (hi:=(BU hv)) λQ' hQ=>?_;try dsimp only
   have fin:∀u,(kU d p).b0=some u->Q' u:=λu hu=>hQ _ (σ (hu.symm.trans hv));have hyb:=bX.2 hY;clear hQ hv;simp only[hc,cond_true];have hp:¬(1<=p/\p<=3)\/p=1\/p=2\/p=3:=δ
   have e1:aG (aN d) (bZ d)+1-1=aG (aN d) (bZ d):=δ
   rcases hp with hp|rfl|rfl|rfl
   . have k:=fin _ (Hz hp);simp only[az,reduceCtorEq]
     (repeat' first|exact trivial|refine⟨?_,?_⟩|intro)<;>first|contradiction|omega|assumption|(exfalso;simp_all;done)
   . have k:=fin _ (RV hc);simp only[az,reduceCtorEq]
     (repeat' first|exact trivial|refine⟨?_,?_⟩|intro)<;>first|contradiction|omega|assumption|(exfalso;simp_all;done)
   . have k:=fin _ (Rm hc);simp only[e1];simp only[az,reduceCtorEq]
     (repeat' first|exact trivial|refine⟨?_,?_⟩|intro)<;>first|contradiction|omega|assumption|(exfalso;simp_all;done)
   . have k:=fin _ NY;simp only[az,reduceCtorEq]
     (repeat' first|exact trivial|refine⟨?_,?_⟩|intro)<;>first|contradiction|omega|assumption|(exfalso;simp_all;done)
 | false=>
   refine jD Hq ai (bE 100231301304104201004104324) (R:=λQ=>(λ(A C G:AV)(B F H:Bool)(I:Prop)=>(λ(N:AV)(E:Bool)=>(λ(O P:Prop)=>(E->E/\B=false/\(F->O)/\(F=false->(aa p 3->Q (.d [.g [A,G,A,G],C]))/\(aa p 3=false->af .i64 d/\(H->Q (.d [N,.a .i64 6]))/\(H=false->(aa p 1->I)/\(aa p 1=false->I)))))/\(P->P/\B/\O)) (Q (.d [N,.a .i64 18])) (E=false)) (.g [A,C,A,C]) (not B)) (.a .i8 0) (.a .i64 0) (.a .i64 d) (not (ab 1 p)) (not (ab p 3)) (aa (cond (cE d) 1 0) 0) (cE d=false/\False)) (λ_=>by kernel_rfl) (hi:=(BU hv)) λQ' hQ=>?_;try dsimp only
   have fin:∀u,(kU d p).b0=some u->Q' u:=λu hu=>hQ _ (σ (hu.symm.trans hv));clear hQ hv;simp only[hc,cond_false];have hp:¬(1<=p/\p<=3)\/(p=1\/p=2)\/p=3:=δ
   rcases hp with hp|hp|rfl
   . have k:=fin _ (Hz hp);simp only[az,reduceCtorEq]
     (repeat' first|exact trivial|refine⟨?_,?_⟩|intro)<;>first|contradiction|omega|assumption|(exfalso;simp_all;done)
   . have k:=fin _ (Kb hc hp);simp only[az,reduceCtorEq]
     (repeat' first|exact trivial|refine⟨?_,?_⟩|intro)<;>first|contradiction|omega|assumption|(exfalso;simp_all;done)
   . have k:=fin _ NY;simp only[az,reduceCtorEq]
     (repeat' first|exact trivial|refine⟨?_,?_⟩|intro)<;>first|contradiction|omega|assumption|(exfalso;simp_all;done)
theorem WZ{d p:Int}(hd : -9223372036854775808<=d/\d<=9223372036854775807)(hv:(kU d p).b0=some v):bu Tryz.prog cfg 97 [.a .i64 d,.a .u8 p] [] v []:=by
 have ids:=BU hv;have hp:¬(1<=p/\p<=3)\/p=1\/p=2\/p=3:=δ
 rcases hp with hp|rfl|rfl|rfl
 . refine jD yF ai (bE 100331074) (R:=λQ=>(λ(C E:AV)(A:Bool)=>(λ(B F:Prop)=>(A->A/\A/\not (ab p 3)/\F)/\(B->B/\B/\F)) (A=false) (Q (.d [.g [C,E,C,E],.a .i64 18]))) (.a .i8 0) (.a .i64 0) (ab 1 p)) (λ_=>by rfl) (hi:=ids) λQ' hQ=>?_;try dsimp only
   have fin:∀u,(kU d p).b0=some u->Q' u:=λu hu=>hQ _ (σ (hu.symm.trans hv));simp_all [az,Hz]
 . cases hc:cE d with
   | true=>
     obtain⟨hY,hM,c1,c2,c3,c4⟩:=lO hc;refine jD yF ai (bE 1105204000220006) (R:=λQ=>(λ(C:AV)(A:Int)=>(λ(B:Bool)=>af .i64 d/\cE d/\(B->B/\Q (.d [.g [C,.a .i64 (bf A),C,.a .i64 (Δ (bf (ν A 1)) 1)],.a .i64 0]))/\(B=false->False)) (eO A)) (.a .i8 0) (aN d)) (λ_=>by rfl) (hi:=ids) λQ' hQ=>?_;try dsimp only
     have fin:∀u,(kU d 1).b0=some u->Q' u:=λu hu=>hQ _ (σ (hu.symm.trans hv));have hyb:=bX.2 hY;have e:bf (aN d+1)-1=bf (aN d)+364+iE (aN d):=by
      have:bf (aN d+1)=bf (aN d)+365+iE (aN d):=Go.Proofs.YtcffhjfdlflbgaaGreatDoor.yst_succ _;omega
     rw[e];simp only[az,reduceCtorEq]
     (repeat' first|exact trivial|refine⟨?_,?_⟩|intro)<;>first|contradiction|omega|assumption|exact fin _ (RV hc)|(exfalso;simp_all;done)
   | false=>
     refine jD yF ai (bE 100320006) (R:=λQ=>af .i64 d/\cE d=false/\Q (.d [.g [.a .i8 0,.a .i64 0,.a .i8 0,.a .i64 0],.a .i64 6])) (λ_=>by kernel_rfl) (hi:=ids) λQ' hQ=>?_;have fin:∀u,(kU d 1).b0=some u->Q' u:=λu hu=>hQ _ (σ (hu.symm.trans hv));simp only[az,reduceCtorEq]
     (repeat' first|exact trivial|refine⟨?_,?_⟩|intro)<;>first|contradiction|omega|assumption|exact fin _ (Kb hc (.inl rfl))
 . cases hc:cE d with
   | true=>
     obtain⟨hY,hM,c1,c2,c3,c4⟩:=lO hc;refine jD yF ai (bE 11000420002270006) (R:=λQ=>(λ(E:AV)(C:Int)=>(λ(F:Int)=>(λ(A:Int)=>(λ(G:Bool)(B:Int)=>af .i64 d/\cE d/\af .i64 C/\af .i64 F/\G/\G/\(eO B->Q (.d [.g [E,.a .i64 (aG B (ν (j8 A) 1)),E,.a .i64 (Δ (aG B (ν (j8 A) 2)) 1)],.a .i64 0]))/\(eO B=false->False)) (af .i64 A) (dc A 12)) (υ F 1)) (ο C (bZ d))) (.a .i8 0) (Θ 12 (aN d))) (λ_=>by kernel_rfl) (hi:=ids) λQ' hQ=>?_;try dsimp only
     have fin:∀u,(kU d 2).b0=some u->Q' u:=λu hu=>hQ _ (σ (hu.symm.trans hv));have hyb:=bX.2 hY;have e1:dc (υ (ο (Θ 12 (aN d)) (bZ d)) 1) 12=aN d:=by
      show(12*aN d+bZ d-1)/12=aN d;omega
     have e2:j8 (υ (ο (Θ 12 (aN d)) (bZ d)) 1)=bZ d-1:=by
      show(12*aN d+bZ d-1)%12=bZ d-1;omega
     have e3:aG (aN d) (bZ d+1)-1=aG (aN d) (bZ d)+d6 (aN d) (bZ d)-1:=by
      have:aG (aN d) (bZ d+1)=aG (aN d) (bZ d)+d6 (aN d) (bZ d):=Go.Proofs.YtcffhjfdlflbgaaGreatDoor.mst_succ _ _ hM.1 hM.2;omega
     rw[e1,e2,show bZ d-1+1=bZ d by omega,show bZ d-1+2=bZ d+1 by omega,e3];simp only[az,reduceCtorEq]
     (repeat' first|exact trivial|refine⟨?_,?_⟩|intro)<;>first|contradiction|omega|assumption|exact fin _ (Rm hc)|(exfalso;simp_all;done)
   | false=>
     refine jD yF ai (bE 105320006) (R:=λQ=>af .i64 d/\cE d=false/\Q (.d [.g [.a .i8 0,.a .i64 0,.a .i8 0,.a .i64 0],.a .i64 6])) (λ_=>by kernel_rfl) (hi:=ids) λQ' hQ=>?_;have fin:∀u,(kU d 2).b0=some u->Q' u:=λu hu=>hQ _ (σ (hu.symm.trans hv));simp only[az,reduceCtorEq]
     (repeat' first|exact trivial|refine⟨?_,?_⟩|intro)<;>first|contradiction|omega|assumption|exact fin _ (Kb hc (.inr rfl))
 . refine jD yF ai (bE 100056) (R:=λQ=>Q (.d [.g [.a .i8 0,.a .i64 d,.a .i8 0,.a .i64 d],.a .i64 0])) (λ_=>by kernel_rfl) (hi:=ids) λQ' hQ=>?_;exact hQ _ (σ (NY.symm.trans hv))
theorem W5(hS:ak Tryz.prog cfg S):ak Tryz.prog cfg (aK S 49 BG):=au hS λargs t v he hv=>by
 unfold BG at he;split at he
 . cases he;obtain⟨h1,hv⟩:=ex hv;rw[aE]at h1;simp only[eH,eE]at h1;exact Jq h1 hv
 grind
theorem RG(hS:ak Tryz.prog cfg S):ak Tryz.prog cfg (aK S 97 Sf):=au hS λargs t v he hv=>by
 unfold Sf at he;split at he
 . cases he;obtain⟨h1,hv⟩:=ex hv;rw[aE]at h1;simp only[eH,eE]at h1;exact WZ h1 hv
 grind
end Go.Ev
