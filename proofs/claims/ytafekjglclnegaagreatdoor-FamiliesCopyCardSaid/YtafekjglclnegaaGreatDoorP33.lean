import Derived.Test.YtafekjglclnegaaGreatDoorP32
set_option linter.all false
section
set_option maxRecDepth 100000
set_option maxHeartbeats 4000000
namespace Go.Ev
open Go Go.Proofs
def gE(i:Int):Int:=aR (dH i 12) (eX i 12+1)
def Ut:fp:=λvs o=>match vs,o with
 | [.int .i64 y,.ptr 14 0,.int .i64 f,.int .i64 n,.int .i64 lo,.int .i64 hi,.int .i64 k],⟨2,[.cells w true none,.cells [.int .i8 0,.int .i64 0,.int .i8 0,.int .i64 0] true none],[]⟩=>some (aN [eD y,aa k 0,aa hi (gE (12*y+f-1)-1),mU f,ab 3 n,ab n 6] (.ret (.exit 0,[.int .i64 y,.ptr 14 0,.int .i64 f,.int .i64 n,.int .i64 lo,.int .i64 (gE (12*y+f-1+n)-1),.int .i64 n],o)))
 | _,_=>none
def XX:dx:=j7 aW 0 (fL 49 [0,4,5,6,7,8,9] Ut)
def vR(lo hi:Int):AV:=.agg [.int .i8 0,.int .i64 lo,.int .i8 0,.int .i64 hi]
def UW:dM:=λargs=>match args with
 | [.int .i64 y,.int .i64 c]=>some (aN [eD y,w9 c,eD (fy y c)] (.ret (vR (aR y (fR c)) (aR (fy y c) (oJ y c+2)-1))))
 | _=>none
def G7(y m d:Int):Int:=bif aa m 0 then bN y else bif ab 13 m then aR y (fR m)else bif aa d 0 then aR y m else aR y m+d-1
def G8(y m d:Int):Int:=bif aa m 0 then bN (y+1)-1 else bif ab 13 m then aR (fy y m) (oJ y m+2)-1 else bif aa d 0 then aR y (m+1)-1 else aR y m+d-1
def x9(y m d:Int):Bool:=eD y&&(ab 0 d&&ab d 31&&(aa m 0 || (mU m || w9 m&&eD (fy y m))))
def s9:dM:=λargs=>match args with
 | [.int .i64 y,.int .i64 m,.int .i64 d]=>some (aN [x9 y m d] (.ret (vR (G7 y m d) (G8 y m d))))
 | _=>none
def YE:bq:=bw R3 31 UW
theorem YI(y f n lo hi k:Int)(w:List AV)(J:Nat->Value){Q:VQ->Prop}:aO Q (rT R3 aW [] 31 0 49 [0,4,5,6,7,8,9] [.int .i64 y,.ptr 14 0,.int .i64 f,.int .i64 n,.int .i64 lo,.int .i64 hi,.int .i64 k] J ⟨2,[.cells w true none,.cells [.int .i8 0,.int .i64 0,.int .i8 0,.int .i64 0] true none],[]⟩) (b_ 117017022424)=((λ(u4 u5 u6 u7 u8 u9:AV)(u0:Bool)(u1:Int)(u2 u3:Prop)=>(λ(ua:Bool)(ub uc:Int)=>(λ(ud:Int)=>(u0=true->ae .i64 u1=true/\(ua=true->ae .i64 ub=true/\u2/\u2/\ae .i64 ud=true/\u3/\Q (AX.normal,([u4,u5,u6,u7,u8,AV.int .i64 ud,u9],{ n:=2,os:=[aw.cells w true Option.none,aw.cells [AV.int .i8 0,AV.int .i64 0,AV.int .i8 0,AV.int .i64 0] true Option.none],le:=[] })))/\(ua=false->ae .i64 y=true/\ae .i64 uc=true/\u3/\Q (AX.normal,([u4,u5,u6,u7,u8,AV.int .i64 uc,u9],{ n:=2,os:=[aw.cells w true Option.none,aw.cells [AV.int .i8 0,AV.int .i64 0,AV.int .i8 0,AV.int .i64 0] true Option.none],le:=[] }))))/\(u0=false->Q (AX.exit 0,([u4,u5,u6,u7,u8,AV.int .i64 hi,AV.int .i64 k],{ n:=2,os:=[aw.cells w true Option.none,aw.cells [AV.int .i8 0,AV.int .i64 0,AV.int .i8 0,AV.int .i64 0] true Option.none],le:=[] })))) (Int.add hi (d8 (Int.add y 1) ub))) (not (ab u1 12)) (Int.sub u1 12) (Int.add hi (d8 y u1))) (AV.int .i64 y) (AV.ptr 14 0) (AV.int .i64 f) (AV.int .i64 n) (AV.int .i64 lo) (AV.int .i64 (Int.add k 1)) (not (ab n k)) (Int.add f k) (ae .i64 (Int.add y 1)=true) (ae .i64 (Int.add k 1)=true)):=by kernel_rfl
theorem Yj(y c:Int){Q:AV->Prop}:aO Q (pT R3 XX 31 [.int .i64 y,.int .i64 c]) (b_ 111111544021115440240044203111115440211154402400442011111544021115440240044204447)=((λ(u1 u2 u3 u4 u5 u9:AV)(u6 u7:Bool)(u0:Int)(u8:Prop)=>(λ(ua:AV)=>(λ(ub:Int)=>(λ(uc:Bool)(ue uf:Int)(ud ug:Prop)=>(λ(ul:AV)(uk:Bool)(ui uj:Int)(uh um:Prop)=>(λ(ut:Bool)(un uo up uq ur us:Prop)=>(λ(uu uv uw ux uy:Prop)=>ae .i64 u0=true/\ab 0 u0=true/\bm (Int.toNat u0) 21=true/\(bM .i64 ua=true->(u6=true->(u7=true->u8/\(uh->(ud->(un->u8/\(uo->uu)/\ur)/\(us->u8/\(uv->uu)/\uw))/\ug)/\um)/\(u7=false->u8/\(uh->(ud->(un->u8/\(uo->ux)/\ur)/\(us->u8/\(uv->ux)/\uw))/\ug)/\um))/\(u6=false->u7=false/\u8/\(uh->(ud->(un->u8/\(uo->uy)/\ur)/\(us->u8/\(uv->uy)/\uw))/\ug)/\um))/\(bM .i64 ua=false->False)) ((up->(∀J1:Nat->Value,Q (AV.agg [u9,ul,u9,AV.int .i64 (HSub.hSub (gE (HAdd.hAdd uf 6)) 1)])))/\uq) (ut=true) (ut=false->False) ((up->(∀J1:Nat->Value,Q (AV.agg [u9,ul,u9,AV.int .i64 (HSub.hSub (gE (HAdd.hAdd uf 4)) 1)])))/\uq) ((up->(∀J1:Nat->Value,Q (AV.agg [u9,ul,u9,AV.int .i64 (HSub.hSub (gE (HAdd.hAdd uf 3)) 1)])))/\uq)) (aa (IntKind.wrap .i64 ui) uj) (ae .i64 ui=true) (aa ui uj=true) (uk=true) (uk=false->False) (aa ui uj=false->False) (ae .i64 ui=false)) (AV.int .i64 ue) (and uc (ab ub 12)) (Int.sub ue 1) (HSub.hSub (gE uf) 1) (uc=true) (uc=false->False)) (ab 1 ub) (HSub.hSub (HAdd.hAdd (aR y ub) 1) 1) (HSub.hSub (HAdd.hAdd (HMul.hMul 12 y) ub) 1) (ab ub 13=true) (ab ub 13=false->False)) (bL ua)) (List.getD [u1,u2,u3,u4,u1,u2,u3,u4,u3,u4,u1,u2,u5,AV.int .i64 4,AV.int .i64 7,AV.int .i64 10,u5,AV.int .i64 5,u3,u5,AV.int .i64 7] (HAdd.hAdd 0 (HMul.hMul (Int.toNat u0) 1)) (AV.tuple []))) (AV.int .i64 3) (AV.int .i64 6) (AV.int .i64 9) (AV.int .i64 12) (AV.int .i64 1) (AV.int .i8 0) (not (ab c 36)) (not (ab c 39)) (Int.sub c 21) (and (ab (Neg.neg 10000000000000000) y) (ab y 10000000000000000)=true)):=by kernel_rfl
theorem b9(y m d:Int){Q:AV->Prop}:aO Q (pT YE aW 9 [.int .i64 y,.int .i64 m,.int .i64 d]) (b_ 110022702740110070007000224041111044404100220220204)=((λ(u3 ud:AV)(u4 u6:Bool)(u1 ua:Int)(u0 u2 u5 u7 u8 u9 ub uc:Prop)=>(λ(ue uf:Int)=>(aa m 0=true->u0/\u0/\ae .i64 u1=true/\u2/\ae .i64 ue=true/\Q (AV.agg [u3,AV.int .i64 (bN y),u3,AV.int .i64 ue]))/\(aa m 0=false->(u4=true->(u5->(w9 m=true->(u6=true->Q (AV.agg [u3,AV.int .i64 (aR y (fR m)),u3,AV.int .i64 (HSub.hSub (aR (fy y m) (HAdd.hAdd (oJ y m) 2)) 1)]))/\(u6=false->False))/\(w9 m=false->False))/\u7)/\(u4=false->(aa d 0=true->(u5->u8/\u9/\u5/\u8/\u9/\u2/\ae .i64 uf=true/\ae .i64 (Int.sub uf 1)=true/\Q (AV.agg [u3,AV.int .i64 ua,u3,AV.int .i64 (Int.sub uf 1)]))/\u7)/\(aa d 0=false->(u5->u8/\u9/\ub/\uc/\u5/\u8/\u9/\ub/\uc/\Q (AV.agg [u3,ud,u3,ud]))/\u7)))) (Int.add u1 (gO y)) (Int.add ua (d8 y m))) (AV.int .i8 0) (AV.int .i64 (HSub.hSub (HAdd.hAdd (aR y m) d) 1)) (not (ab m 12)) (eD (fy y m)) (Int.add (bN y) 364) (HSub.hSub (HAdd.hAdd (aR y m) 1) 1) (and (ab (Neg.neg 10000000000000000) y) (ab y 10000000000000001)=true) (ae .i64 y=true) (eD y=true) (eD y=false->False) (ab 1 m=true) (ab m 13=true) (ab 1 d=true) (ab d 31=true)):=by kernel_rfl
theorem Nr:aH tab 31=some (bC 31,aE 31):=by kernel_rfl
theorem PQ:aH tab 9=some (bC 9,aE 9):=by kernel_rfl
theorem Im:(bE (aE 31)).map (·.1)=[0]:=by kernel_rfl
theorem PS(y:Int):aR y 13=aR (y+1) 1:=Go.Proofs.YtafekjglclnegaaGreatDoor.mst_next y
theorem xG(i:Int):gE (i+1)=gE i+d8 (dH i 12) (eX i 12+1)/\gE (i+1)=aR (dH i 12) (eX i 12+2):=by
 have hm:0<=eX i 12/\eX i 12<=11:=by unfold eX;omega
 have hs:=@zf (dH i 12) (eX i 12+1) (by omega) (by omega)
 have e:gE (i+1)=aR (dH i 12) (eX i 12+2):=by
  unfold gE
  by_cases h:eX i 12=11
  · rw[h,show dH (i+1) 12=dH i 12+1 by unfold dH eX at *;omega,show eX (i+1) 12=0 by unfold eX at *;omega]
    exact(PS _).symm
  · rw[show dH (i+1) 12=dH i 12 by unfold dH eX at *;omega,show eX (i+1) 12=eX i 12+1 by unfold eX at *;omega,show eX i 12+1+1=eX i 12+2 by omega]
 refine⟨?_,e⟩
 rw[e,show eX i 12+2=eX i 12+1+1 by omega,hs]
 rfl
theorem GX(i:Int)(k:Nat):gE i+28*k<=gE (i+k)/\gE (i+k)<=gE i+31*k:=by
 induction k with
 | zero=>simp
 | succ k ih=>
   have h:=(xG (i+k)).1
   have b:=jj (dH (i+k) 12) (eX (i+k) 12+1)
   rw[show i+((k+1:Nat):Int)=i+k+1 by omega]
   omega
theorem UD:dG Tryz.prog (dX cfg R3) (Cw cfg []) (lb 31 0) 49 [0,4,5,6,7,8,9] Ut:=by
 intro vs o t Q hv hq J
 unfold Ut at hv
 split at hv
 · rename_i y f n lo hi k w
   cases hv
   replace hq:=eM hq;obtain⟨⟨h1,h2,h3,h4,h5,h6,-⟩,hq⟩:=hq
   rw[aS]at h2 h3
   rw[cr]at h1
   rw[fI]at h4
   rw[aK]at h5 h6
   subst h2 h3
   simp only[aN,Tr.wp]at hq
   have e0:gE (12*y+f-1)=aR y f:=by
    unfold gE
    rw[show dH (12*y+f-1) 12=y by unfold dH;omega,show eX (12*y+f-1) 12+1=f by unfold eX;omega]
   have b0:=@mst_bd y f h1 h4.1 (by omega)
   refine j_ qd rfl rfl ak (ι:={k:Nat // (k:Int)<=n}) (λx=>[.int .i64 y,.ptr 14 0,.int .i64 f,.int .i64 n,.int .i64 lo,.int .i64 (gE (12*y+f-1+x.1)-1),.int .i64 x.1]) (λ_=>⟨2,[.cells w true none,.cells [.int .i8 0,.int .i64 0,.int .i8 0,.int .i64 0] true none],[]⟩) (λx=>(n-x.1).toNat) 2 (λ_=>Nat.le_refl _) (λx J=>?_) (Nat.le_refl _) (λJ=>Wk.refl ⟨⟨0,by omega⟩,J,by dsimp only;rw[show 12*y+f-1+((0:Nat):Int)=12*y+f-1 by omega];rfl⟩) J
   obtain⟨k,hk⟩:=x
   dsimp only
   have hs:=(xG (12*y+f-1+k)).1
   have bk:=GX (12*y+f-1) k
   have e1:f+k<=12->dH (12*y+f-1+k) 12=y/\eX (12*y+f-1+k) 12+1=f+k:=λh=>by unfold dH eX;omega
   have e2:12<f+k->dH (12*y+f-1+k) 12=y+1/\eX (12*y+f-1+k) 12+1=f+k-12:=λh=>by unfold dH eX;omega
   refine ap λQ' hQ=>al ((YI y f n lo (gE (12*y+f-1+k)-1) k w J).mpr ?_)
   dsimp only
   have m1:=jj y (f+k)
   have m2:=jj (y+1) (f+k-12)
   have next:∀x:Int,k<n->x=gE (12*y+f-1+k+1)-1->∃z:{k:Nat // (k:Int)<=n},(n-z.1).toNat<(n-k).toNat/\VW cfg (Cw cfg []) 2 49 [0,4,5,6,7,8,9] [.int .i64 y,.ptr 14 0,.int .i64 f,.int .i64 n,.int .i64 lo,.int .i64 x,.int .i64 (k+1)] ⟨2,[.cells w true none,.cells [.int .i8 0,.int .i64 0,.int .i8 0,.int .i64 0] true none],[]⟩ [.int .i64 y,.ptr 14 0,.int .i64 f,.int .i64 n,.int .i64 lo,.int .i64 (gE (12*y+f-1+z.1)-1),.int .i64 z.1] ⟨2,[.cells w true none,.cells [.int .i8 0,.int .i64 0,.int .i8 0,.int .i64 0] true none],[]⟩:=λx hk h=>by
    subst h
    exact⟨⟨k+1,by omega⟩,by dsimp only;omega,VW.of_eq (by dsimp only;rw[show 12*y+f-1+((k+1:Nat):Int)=12*y+f-1+k+1 by omega];rfl) rfl⟩
   have fin:(k:Int)=n->Q (.exit 0,[.int .i64 y,.ptr 14 0,.int .i64 f,.int .i64 n,.int .i64 lo,.int .i64 (gE (12*y+f-1+k)-1),.int .i64 k],⟨2,[.cells w true none,.cells [.int .i8 0,.int .i64 0,.int .i8 0,.int .i64 0] true none],[]⟩):=λh=>by rw[h];exact hq
   clear hq
   rw[hs]at next
   have next1:=λx (h:f+k<=12)=>by have:=next x;rw[(e1 h).1,(e1 h).2]at this;exact this
   have next2:=λx (h:12<f+k)=>by have:=next x;rw[(e2 h).1,(e2 h).2]at this;exact this
   clear next e1 e2 hs
   generalize gE (12*y+f-1+k)=H at *
   generalize d8 y (f+k)=l1 at *
   generalize d8 (y+1) (f+k-12)=l2 at *
   simp only[aD,reduceCtorEq,bA,bB,ne_eq]
   (repeat' first|exact trivial|refine⟨?_,?_⟩|intro)<;>first|omega|refine hQ _ ?_
   · exact next2 _ (by omega) (by omega) (by omega)
   · exact next1 _ (by omega) (by omega) (by omega)
   · exact⟨_,_,VW.refl,fin (by omega)⟩
 · cases hv
theorem P8{c:Int}(h:21<=c/\c<=41):List.getD [AV.int .i64 3,AV.int .i64 6,AV.int .i64 9,AV.int .i64 12,AV.int .i64 3,AV.int .i64 6,AV.int .i64 9,AV.int .i64 12,AV.int .i64 9,AV.int .i64 12,AV.int .i64 3,AV.int .i64 6,AV.int .i64 1,AV.int .i64 4,AV.int .i64 7,AV.int .i64 10,AV.int .i64 1,AV.int .i64 5,AV.int .i64 9,AV.int .i64 1,AV.int .i64 7] (0+(Int.sub c 21).toNat*1) (AV.tuple [])=.int .i64 (fR c):=by
 rcases kO h with rfl|rfl|rfl|rfl|rfl|rfl|rfl|rfl|rfl|rfl|rfl|rfl|rfl|rfl|rfl|rfl|rfl|rfl|rfl|rfl|rfl<;>rfl
theorem Qo{c:Int}(h:21<=c/\c<=41):(39<c->mR c=6)/\(36<c/\c<=39->mR c=4)/\(c<=36->mR c=3):=by
 rcases kO h with rfl|rfl|rfl|rfl|rfl|rfl|rfl|rfl|rfl|rfl|rfl|rfl|rfl|rfl|rfl|rfl|rfl|rfl|rfl|rfl|rfl<;>decide
theorem TD{S:bq}(hS:az Tryz.prog cfg S):az Tryz.prog cfg (bw S 31 UW):=by
 refine aA hS λargs t v he hv=>?_
 unfold UW at he
 split at he
 · rename_i y c
   cases he
   replace hv:=aI hv;obtain⟨⟨h1,h2,h3,-⟩,hv⟩:=hv
   cases hv
   have h1':=cr.1 h1
   rw[k9]at h2
   obtain⟨⟨f1,f2⟩,n1,n2⟩:=Ka h2
   refine cp qd (L:=XX) Nr (by simp) (eC Im λi hi e he st Q hw=>?_) (ap λQ' hQ=>al ((Yj y c).mpr ?_)) (by simp[aq,bG,vR])
   · have hi:i=0:=by simp at hi;omega
     subst hi
     cases he
     exact cR (cV.good qd) (by decide) rfl UD hw
   · have hs:=(xG (12*y+fR c-1+(mR c-1))).2
     rw[show 12*y+fR c-1+(mR c-1)+1=12*y+fR c-1+mR c by omega,show 12*y+fR c-1+(mR c-1)=12*y+(fR c-1)+(mR c-1)by omega]at hs
     have e0:gE (12*y+fR c-1)=aR y (fR c):=by
      unfold gE
      rw[show dH (12*y+fR c-1) 12=y by unfold dH;omega,show eX (12*y+fR c-1) 12+1=fR c by unfold eX;omega]
     have b0:=@mst_bd y (fR c) h1' f1 (by omega)
     have i0:∀n:Int,bL (.int .i64 n)=n:=λ_=>rfl
     have ka:∀n:Int,bM .i64 (.int .i64 n)=true:=λn=>rfl
     obtain⟨m1,m2,m3⟩:=Qo h2
     dsimp only
     rw[P8 h2]
     simp only[i0,ka]
     have fin:∀n:Int,n=mR c->Q' (vR (aR y (fR c)) (gE (12*y+fR c-1+n)-1)):=λn h=>by
      rw[h,hs];exact hQ _ rfl
     unfold vR at fin
     clear hQ hs
     rw[e0]
     simp only[aD,reduceCtorEq,bA,bB,ne_eq]
     rw[show aR y (fR c)+1-1=aR y (fR c)by omega]
     (repeat' first|exact trivial|refine⟨?_,?_⟩|intro)<;>first|omega|exact fin _ (by omega)|(rename_i h;rw[cr.2 h1']at h;exact h)|(rename_i h;rw[fI.2 ⟨f1,f2⟩]at h;cases h)|(rename_i h;rw[cr.2 h1']at h;cases h)
 · cases he
theorem rO{y m d:Int}:x9 y m d=true↔(-10000000000000000<=y/\y<=10000000000000000)/\(0<=d/\d<=31)/\(m=0\/(1<=m/\m<=12)\/(21<=m/\m<=41)/\eD (fy y m)=true):=by
 unfold x9
 rw[Bool.and_eq_true,cr,Bool.and_eq_true,Bool.and_eq_true,Bool.or_eq_true,aS,Bool.or_eq_true,Bool.and_eq_true,fI,aK,aK,k9]
theorem Xi{S:bq}(hS:az Tryz.prog cfg S):az Tryz.prog cfg (bw S 9 s9):=by
 refine aA hS λargs t v he hv=>?_
 unfold s9 at he
 split at he
 · rename_i y m d
   cases he
   obtain⟨h1,hv'⟩:=bU hv;clear hv;have hv:=hv';clear hv'
   cases hv
   obtain⟨hy,hd,hm⟩:=rO.1 h1
   have hm1:0<=m/\m<=41:=by omega
   have bl:0<=gO y/\gO y<=1:=Go.Proofs.YtafekjglclnegaaGreatDoor.lp_01 y
   have b1:=@qp y hy.1 (by omega)
   have b2:1<=m->m<=12->-3652425000000000001<=aR y m/\aR y m<=3652425000000000800:=λk1 k2=>mst_bd hy k1 (by omega)
   have hn:=jj y m
   have ys:bN (y+1)=bN y+365+gO y:=Go.Proofs.YtafekjglclnegaaGreatDoor.yst_succ y
   have ms:1<=m->m<=12->aR y (m+1)=aR y m+d8 y m:=λk1 k2=>zf k1 k2
   have yb:=cr.2 hy
   have cb:=@k9 m
   refine cp (TD qd) (L:=aW) PQ (by simp) ak (ap λQ' hQ=>al ((b9 y m d).mpr ?_)) (by simp[aq,bG,vR])
   dsimp only
   have hQ:=hQ _ rfl
   unfold vR G7 G8 at hQ
   rw[yb]
   generalize fy y m=sy at *
   generalize oJ y m=sm at *
   generalize aR y (fR m)=k1 at *
   generalize aR sy (sm+2)=k2 at *
   cases hm0:aa m 0 with
   | true=>
     rw[hm0,cond_true,cond_true,ys]at hQ
     rw[aS]at hm0
     simp only[aD,reduceCtorEq,bA,bB,ne_eq]
     (repeat' first|exact trivial|refine⟨?_,?_⟩|intro)<;>first|contradiction|omega|(rw[show bN y+364+gO y=bN y+365+gO y-1 by omega];exact hQ)
   | false=>
     rw[hm0,cond_false,cond_false]at hQ
     rw[aF]at hm0
     cases h13:ab 13 m with
     | true=>
       rw[h13,cond_true,cond_true]at hQ
       rw[aK]at h13
       have hs:eD sy=true:=by rcases hm with h|h|h<;>first|omega|exact h.2
       have hc:w9 m=true:=cb.2 (by omega)
       rw[hs,hc]
       simp only[aD,reduceCtorEq,bA,bB,ne_eq]
       (repeat' first|exact trivial|refine⟨?_,?_⟩|intro)<;>first|contradiction|omega|exact hQ
     | false=>
       rw[h13,cond_false,cond_false]at hQ
       rw[dc]at h13
       have e:=ms (by omega) (by omega)
       have b2:=b2 (by omega) (by omega)
       cases hd0:aa d 0 with
       | true=>
         rw[hd0,cond_true,cond_true,e]at hQ
         rw[aS]at hd0
         simp only[aD,reduceCtorEq,bA,bB,ne_eq]
         (repeat' first|exact trivial|refine⟨?_,?_⟩|intro)<;>first|contradiction|omega|(rw[show aR y m+1-1=aR y m by omega];exact hQ)
       | false=>
         rw[hd0,cond_false,cond_false]at hQ
         rw[aF]at hd0
         simp only[aD,reduceCtorEq,bA,bB,ne_eq]
         (repeat' first|exact trivial|refine⟨?_,?_⟩|intro)<;>first|contradiction|omega|exact hQ
 · cases he
end Go.Ev
end
section
set_option maxRecDepth 100000
set_option maxHeartbeats 1000000
namespace Go.Ev
open Go Go.Proofs
theorem HN{s:List UInt8}(h:bz s 88 88=0):∀c∈s,c.toNat≠88:=λc hc h88=>by
 unfold bz at h
 rw[List.length_eq_zero_iff,List.filter_eq_nil_iff]at h
 refine h c hc ?_
 rw[h88];rfl
theorem E4{y:Int}:bO (bN y)=y/\bO (bN (y+1)-1)=y:=by
 have ys:bN (y+1)=bN y+365+gO y:=Go.Proofs.YtafekjglclnegaaGreatDoor.yst_succ y
 have bl:0<=gO y/\gO y<=1:=Go.Proofs.YtafekjglclnegaaGreatDoor.lp_01 y
 refine⟨Go.Proofs.YtafekjglclnegaaGreatDoor.yOf_unique (Int.le_refl _) ?_,Go.Proofs.YtafekjglclnegaaGreatDoor.yOf_unique ?_ ?_⟩
 · show bN y<bN (y+1);omega
 · show bN y<=bN (y+1)-1;omega
 · show bN (y+1)-1<bN (y+1);omega
theorem gw{a b:Int}(h:a<=b):bN a<=bN b:=Go.Proofs.YtafekjglclnegaaGreatDoor.yst_le h
theorem yl:bN (-10000000000000000) = -3652425000000000000/\bN 10000000000000000=3652425000000000000:=by decide
end Go.Ev
end
section
set_option maxRecDepth 100000
set_option maxHeartbeats 4000000
namespace Go.Ev
open Go Go.Proofs
theorem OT{rk a c:Int}{dz ft:Bool}:cC 2 0 0 dz 0 true 0 0 true true ft rk a c=0:=by
 unfold cC
 rw[if_neg (by decide),if_neg (by decide),if_pos rfl,if_pos ⟨rfl,rfl,rfl⟩,if_pos rfl,if_pos ⟨rfl,rfl,rfl⟩]
theorem gb(x:Int):aa x x=true:=aS.mpr rfl
theorem QH(x:List UInt8):af x x=true:=by rw[cF,beq_iff_eq]
theorem hJ(x:Bool):aL x x=true:=by cases x<;>rfl
abbrev QG:List UInt8:=[UInt8.ofNat 48,UInt8.ofNat 49,UInt8.ofNat 50,UInt8.ofNat 51,UInt8.ofNat 52,UInt8.ofNat 53,UInt8.ofNat 54,UInt8.ofNat 55,UInt8.ofNat 56,UInt8.ofNat 57]
def xc(k:Int):UInt8:=QG.getD k.toNat 0
def d0(n:Int):UInt8:=xc (n%10000/1000)
def d1(n:Int):UInt8:=xc (n%10000/100%10)
def d2(n:Int):UInt8:=xc (n%10000/10%10)
def d3(n:Int):UInt8:=xc (n%10000%10)
def M8:dM:=λargs=>match args with
 | [.int .u16 n]=>some (aN [ab 0 n,ab n 65535] (.ret (.str [d0 n,d1 n,d2 n,d3 n])))
 | _=>none
theorem VH(n:Int){Q:AV->Prop}:aO Q (pT dF aW 131 [.int .u16 n]) (b_ 111142270042270200204227020020770200)=((λ(u0:Int)(u1:List UInt8)=>(λ(u2 u3 u4 u5:Int)=>(λ(u7 u9 ub uc:Int)(u6 u8 ua:Prop)=>(λ(ue uf:Int)(ud ug:Nat)=>(λ(ui uk:List UInt8)(uh uj:Nat)=>(λ(ul um:List UInt8)=>(λ(un:Bool)(uo:List UInt8)=>(λ(up:Bool)(uq:List UInt8)=>(λ(ur:Bool)=>u6/\u6/\ae .u16 u7=true/\ab 0 u7=true/\Nat.ble ud 10=true/\ab 0 u2=true/\Nat.ble (Int.toNat u2) ud=true/\u8/\u8/\ae .u16 ue=true/\ab 0 ue=true/\Nat.ble uh 10=true/\ab 0 u9=true/\Nat.ble (Int.toNat u9) uh=true/\(un=true->ua/\ua/\ae .u16 uf=true/\ab 0 uf=true/\Nat.ble uj 10=true/\ab 0 ub=true/\Nat.ble (Int.toNat ub) uj=true/\(up=true->ae .u16 uc=true/\ab 0 uc=true/\Nat.ble ug 10=true/\ab 0 u5=true/\Nat.ble (Int.toNat u5) ug=true/\(ur=true->Q (AV.str (HAppend.hAppend uq uk)))/\(ur=false->False))/\(up=false->False))/\(un=false->False)) (Nat.ble (HAdd.hAdd (List.length uq) (List.length uk)) 1000000)) (Nat.ble (HAdd.hAdd (List.length uo) (List.length um)) 1000000) (HAppend.hAppend uo um)) (Nat.ble (HAdd.hAdd (List.length ui) (List.length ul)) 1000000) (HAppend.hAppend ui ul)) (List.drop (Int.toNat u9) (List.take uh u1)) (List.drop (Int.toNat ub) (List.take uj u1))) (List.drop (Int.toNat u2) (List.take ud u1)) (List.drop (Int.toNat u5) (List.take ug u1)) (Int.toNat ue) (Int.toNat uf)) (Int.add u9 1) (Int.add ub 1) (Int.toNat u7) (Int.toNat uc)) (Int.add u2 1) (Int.tmod u3 10) (Int.tmod u4 10) (Int.add u5 1) (ae .u16 u2=true) (ae .u16 u3=true) (ae .u16 u4=true)) (Int.tdiv u0 1000) (Int.tdiv u0 100) (Int.tdiv u0 10) (Int.tmod u0 10)) (Int.tmod n 10000) [UInt8.ofNat 48,UInt8.ofNat 49,UInt8.ofNat 50,UInt8.ofNat 51,UInt8.ofNat 52,UInt8.ofNat 53,UInt8.ofNat 54,UInt8.ofNat 55,UInt8.ofNat 56,UInt8.ofNat 57]):=by kernel_rfl
theorem It:aH tab 131=some (bC 131,aE 131):=by kernel_rfl
theorem pr{k:Int}(h:0<=k/\k<=9):k=0\/k=1\/k=2\/k=3\/k=4\/k=5\/k=6\/k=7\/k=8\/k=9:=by omega
theorem qK{k:Int}(h:0<=k/\k<=9):List.drop k.toNat (List.take (Int.add k 1).toNat QG)=[xc k]:=by
 rcases pr h with rfl|rfl|rfl|rfl|rfl|rfl|rfl|rfl|rfl|rfl<;>rfl
theorem lD{k:Int}(h:0<=k/\k<=9):((xc k).toNat:Int)=48+k:=by
 rcases pr h with rfl|rfl|rfl|rfl|rfl|rfl|rfl|rfl|rfl|rfl<;>rfl
theorem Nl{S:bq}(hS:az Tryz.prog cfg S):az Tryz.prog cfg (bw S 131 M8):=by
 refine aA hS λargs t v he hv=>?_
 unfold M8 at he
 split at he
 · rename_i n
   cases he
   obtain⟨⟨h1,h2,-⟩,hv⟩:=aI hv
   cases hv
   rw[aK]at h1 h2
   have e0:Int.tmod n 10000=n%10000:=Int.tmod_eq_emod_of_nonneg h1
   have e1:Int.tdiv (n%10000) 1000=n%10000/1000:=Int.tdiv_eq_ediv_of_nonneg (by omega)
   have e2:Int.tdiv (n%10000) 100=n%10000/100:=Int.tdiv_eq_ediv_of_nonneg (by omega)
   have e3:Int.tdiv (n%10000) 10=n%10000/10:=Int.tdiv_eq_ediv_of_nonneg (by omega)
   have e4:Int.tmod (n%10000/100) 10=n%10000/100%10:=Int.tmod_eq_emod_of_nonneg (by omega)
   have e5:Int.tmod (n%10000/10) 10=n%10000/10%10:=Int.tmod_eq_emod_of_nonneg (by omega)
   have e6:Int.tmod (n%10000) 10=n%10000%10:=Int.tmod_eq_emod_of_nonneg (by omega)
   refine cp aT (L:=aW) It (by simp) ak (ap λQ' hQ=>al ((VH n).mpr ?_)) (by simp[aq])
   dsimp only
   have hQ:=hQ _ rfl
   unfold d0 d1 d2 d3 at hQ
   try dsimp only
   rw[e0,e1,e2,e3,e4,e5,e6,qK (k:=n%10000/1000) (by omega),qK (k:=n%10000/100%10) (by omega),qK (k:=n%10000/10%10) (by omega),qK (k:=n%10000%10) (by omega)]
   generalize xc _=x0 at *
   generalize xc _=x1 at *
   generalize xc _=x2 at *
   generalize xc _=x3 at *
   simp only[aD,reduceCtorEq,bA,bB,ne_eq]
   (repeat' first|exact trivial|refine⟨?_,?_⟩|intro)<;>first|contradiction|omega|assumption|exact hQ|(exfalso;simp_all)
 · cases he
def SB(a b n:Int):List UInt8:=[bif aa 0 a || aa 0 b then UInt8.ofNat 88 else d0 n,bif aa 1 a || aa 1 b then UInt8.ofNat 88 else d1 n,bif aa 2 a || aa 2 b then UInt8.ofNat 88 else d2 n,bif aa 3 a || aa 3 b then UInt8.ofNat 88 else d3 n]
def C8(n z0:Int):List UInt8:=[xc (z0%9+1),d0 n,d1 n,d2 n,d3 n]
def fN(f n z0 z1:Int):List UInt8:=bif aa (f%6) 3 then SB (z0%4) (z1%4) n else bif aa (f%6) 5 then(bif ab (z1%3) 0 then C8 n z0 else List.take (1+z1%5).toNat (C8 n z0))else[d0 n,d1 n,d2 n,d3 n]
def jx(f z1:Int):Int:=bif aa (f%6) 5 then(bif ab (z1%3) 0 then 0 else 1+z1/16%11)else 0
def iF(f n z0 z1:Int):Int:=bif aa (f%6) 4 then 1+z0%4 else bif aa (f%6) 5 then z0/16%(Int.ofNat (fN f n z0 z1).length+jx f z1+1)else 0
def pD(f:Int):Bool:=aa (f%6) 5
def p9(f:Int)(ng:Bool)(n z0 z1:Int):Bool:=ng&&bD ng (pD f) (fN f n z0 z1) (jx f z1) (iF f n z0 z1)
def Wg:dM:=λargs=>match args with
 | [.agg [.int .u8 f,.bool ng,.int .u16 n,.int .u8 z0,.int .u8 z1]]=>some (aN [ae .u8 f,ae .u16 n,ae .u8 z0,ae .u8 z1] (.ret (.agg [.bool (p9 f ng n z0 z1),.bool (pD f),.str (fN f n z0 z1),.int .i64 (jx f z1),.int .i64 (iF f n z0 z1)])))
 | _=>none
def Ou:bq:=bw (bw dF 132 Md) 131 M8
theorem Wj(f:Int)(ng:Bool)(n z0 z1:Int){Q:AV->Prop}:aO Q (pT Ou aW 84 [.agg [.int .u8 f,.bool ng,.int .u16 n,.int .u8 z0,.int .u8 z1]]) (b_ 100510005455800022000)=((λ(u2 u3:AV)(u0:Int)(u1:List UInt8)=>(λ(u4:Bool)=>ab 0 n=true/\ab n 65535=true/\aa u0 3=false/\aa u0 4=false/\aa u0 5=false/\(u4=true->Q (AV.agg [u2,u2,AV.str u1,u3,u3]))/\(u4=false->Q (AV.agg [AV.bool ng,u2,AV.str u1,u3,u3]))) (aa (bI (bD ng false u1 0 0)) 0)) (AV.bool false) (AV.int .i64 0) (Int.tmod f 6) [d0 n,d1 n,d2 n,d3 n]):=by kernel_rfl
theorem Vo(f:Int)(ng:Bool)(n z0 z1:Int){Q:AV->Prop}:aO Q (pT Ou aW 84 [.agg [.int .u8 f,.bool ng,.int .u16 n,.int .u8 z0,.int .u8 z1]]) (b_ 100510005462252300022000)=((λ(u2:AV)(u0:Int)(u1:List UInt8)=>(λ(u4:AV)(u3:Bool)=>ab 0 n=true/\ab n 65535=true/\aa (Int.tmod f 6) 3=false/\aa (Int.tmod f 6) 4=true/\ae .i64 (Int.tmod z0 4)=true/\ae .i64 u0=true/\(u3=true->Q (AV.agg [u2,u2,AV.str u1,AV.int .i64 0,u4]))/\(u3=false->Q (AV.agg [AV.bool ng,u2,AV.str u1,AV.int .i64 0,u4]))) (AV.int .i64 u0) (aa (bI (bD ng false u1 0 u0)) 0)) (AV.bool false) (Int.add 1 (Int.tmod z0 4)) [d0 n,d1 n,d2 n,d3 n]):=by kernel_rfl
theorem XD(f:Int)(ng:Bool)(n z0 z1:Int){Q:AV->Prop}:aO Q (pT Ou aW 84 [.agg [.int .u8 f,.bool ng,.int .u16 n,.int .u8 z0,.int .u8 z1]]) (b_ 111130005411300054411300054110051000542400052440022052202054220520540227623300022000)=((λ(u5:AV)(u0 u1 u2 u3 u4:Int)=>(λ(u6 u7:Int)=>(λ(ua:Int)(u9:Nat)=>(λ(ud:AV)(ub:List UInt8)(uc:Prop)=>(λ(ue:Bool)(uf:List UInt8)=>(λ(ug:Bool)(uh:List UInt8)=>(λ(ui:Nat)=>(λ(uk:Bool)(uj:Int)=>(λ(ul un:Int)(um:Prop)=>(λ(up uq ur:Bool)(uo:Int)=>(λ(ut:AV)(us:Bool)=>ab 0 n=true/\ab n 65535=true/\aa u0 3=false/\aa u0 4=false/\aa u0 5=true/\ae .u8 u6=true/\ab 0 u6=true/\Nat.ble u9 9=true/\ab 0 u1=true/\Nat.ble (Int.toNat u1) u9=true/\(ue=true->not (ab (Int.tmod z1 3) 0)=true/\ae .u8 u2=true/\ab 0 u2=true/\(ug=true->ae .u8 u3=true/\ae .i64 u7=true/\uc/\ae .u8 u4=true/\ae .i64 u4=true/\(ae .i64 uj=true->(ae .i64 ul=true->not (aa ul 0)=true/\(uk=true->uc/\(us=true->Q (AV.agg [AV.bool false,u5,AV.str uh,ud,ut]))/\(us=false->Q (AV.agg [AV.bool ng,u5,AV.str uh,ud,ut])))/\(uk=false->False))/\(ae .i64 ul=false->(up=true->um)/\(up=false->False)))/\(ae .i64 uj=false->(ae .i64 un=true->(uq=true->um)/\(uq=false->False))/\(ae .i64 un=false->(ur=true->um)/\(ur=false->False))))/\(ug=false->False))/\(ue=false->False)) (AV.int .i64 uo) (aa (bI (bD ng true uh ua uo)) 0)) (not (aa (IntKind.wrap .i64 ul) 0)) (not (aa un 0)) (not (aa (IntKind.wrap .i64 un) 0)) (Int.tmod u4 ul)) (Int.add uj 1) (Int.add (IntKind.wrap .i64 uj) 1) (uk=false/\False)) (Nat.ble ui 1000) (Int.add (Int.ofNat ui) ua)) (List.length uh)) (Nat.ble (Int.toNat u2) (List.length uf)) (List.drop 0 (List.take (Int.toNat u2) uf))) (Nat.ble (HAdd.hAdd (List.length ub) 4) 1000000) (HAppend.hAppend ub [d0 n,d1 n,d2 n,d3 n])) (AV.int .i64 ua) (List.drop (Int.toNat u1) (List.take u9 [UInt8.ofNat 49,UInt8.ofNat 50,UInt8.ofNat 51,UInt8.ofNat 52,UInt8.ofNat 53,UInt8.ofNat 54,UInt8.ofNat 55,UInt8.ofNat 56,UInt8.ofNat 57])) (ae .i64 ua=true)) (Int.add 1 u7) (Int.toNat u6)) (Int.add u1 1) (Int.tmod u3 11)) (AV.bool true) (Int.tmod f 6) (Int.tmod z0 9) (Int.add 1 (Int.tmod z1 5)) (Int.tdiv z1 16) (Int.tdiv z0 16)):=by kernel_rfl
theorem Wm(f:Int)(ng:Bool)(n z0 z1:Int){Q:AV->Prop}:aO Q (pT Ou aW 84 [.agg [.int .u8 f,.bool ng,.int .u16 n,.int .u8 z0,.int .u8 z1]]) (b_ 11130005411300054411300054110051000540455440022530540227623300022000)=((λ(u3:AV)(u0 u1 u2:Int)=>(λ(u4:Int)=>(λ(u5:Nat)=>(λ(u6:List UInt8)=>(λ(u7:Bool)(u9:List UInt8)=>(λ(ua:Nat)=>(λ(uc:Bool)(ub:Int)=>(λ(ud uf:Int)(ue:Prop)=>(λ(uh ui uj:Bool)(ug:Int)=>(λ(ul:AV)(uk:Bool)=>ab 0 n=true/\ab n 65535=true/\aa u0 3=false/\aa u0 4=false/\aa u0 5=true/\ae .u8 u4=true/\ab 0 u4=true/\Nat.ble u5 9=true/\ab 0 u1=true/\Nat.ble (Int.toNat u1) u5=true/\(u7=true->not (ab (Int.tmod z1 3) 0)=false/\ae .u8 u2=true/\ae .i64 u2=true/\(ae .i64 ub=true->(ae .i64 ud=true->(uc=true->(uk=true->Q (AV.agg [AV.bool false,u3,AV.str u9,AV.int .i64 0,ul]))/\(uk=false->Q (AV.agg [AV.bool ng,u3,AV.str u9,AV.int .i64 0,ul])))/\(uc=false->False))/\(ae .i64 ud=false->(uh=true->ue)/\(uh=false->False)))/\(ae .i64 ub=false->(ae .i64 uf=true->(ui=true->ue)/\(ui=false->False))/\(ae .i64 uf=false->(uj=true->ue)/\(uj=false->False))))/\(u7=false->False)) (AV.int .i64 ug) (aa (bI (bD ng true u9 0 ug)) 0)) (not (aa (IntKind.wrap .i64 ud) 0)) (not (aa uf 0)) (not (aa (IntKind.wrap .i64 uf) 0)) (Int.tmod u2 ud)) (Int.add ub 1) (Int.add (IntKind.wrap .i64 ub) 1) (uc=false/\False)) (Nat.ble ua 1000) (Int.add (Int.ofNat ua) 0)) (List.length u9)) (Nat.ble (HAdd.hAdd (List.length u6) 4) 1000000) (HAppend.hAppend u6 [d0 n,d1 n,d2 n,d3 n])) (List.drop (Int.toNat u1) (List.take u5 [UInt8.ofNat 49,UInt8.ofNat 50,UInt8.ofNat 51,UInt8.ofNat 52,UInt8.ofNat 53,UInt8.ofNat 54,UInt8.ofNat 55,UInt8.ofNat 56,UInt8.ofNat 57]))) (Int.toNat u4)) (Int.add u1 1)) (AV.bool true) (Int.tmod f 6) (Int.tmod z0 9) (Int.tdiv z0 16)):=by kernel_rfl
theorem Xh(f:Int)(ng:Bool)(n z0 z1:Int){Q:AV->Prop}:aO Q (pT Ou aW 84 [.agg [.int .u8 f,.bool ng,.int .u16 n,.int .u8 z0,.int .u8 z1]]) (b_ 100510005466100510005400064376100510005466337000437610051000546633763370004375233100510005466100510005400064376100510005466337000437523310051000546610051000540006437523310051000545628610051000545628000432246100510005466337523310051000545628633224000432246100510005466337633752331005100054663375233100510005456286332246332240004322402525200022000)=((λ(u3 u4 u5:AV)(u0 u1:Int)(u2:UInt8)=>(λ(u6 u7 ua uc:Bool)(ud uf ug ui uj ul um uo up uq:List UInt8)(u9 ub ue uh uk un:Prop)=>(λ(uy uD uF uG uH uI uJ uK uL uN:Bool)(ur us ut uu uv uw ux uz uA uB uC uE uM:Prop)=>(λ(uO uP uQ uR uS uT:Prop)=>ab 0 n=true/\ab n 65535=true/\aa (Int.tmod f 6) 3=true/\ae .i64 u0=true/\ae .i64 u1=true/\(ur->ur/\ur/\u6=false/\(aa 0 u1=true->(us->us/\us/\ut/\u9/\(uu->uu/\uu/\uv/\ub/\uw/\uw/\uw/\ux/\uO)/\(uz->uz/\uz/\uA/\uP))/\(uE->uE/\uE/\u7=true/\uQ))/\(aa 0 u1=false->(us->us/\us/\ut/\(uh->(uu->uu/\uu/\uv/\ub/\uw/\uw/\uw/\ux/\uR)/\(uz->uz/\uz/\uA/\uS))/\(u9->(uu->uu/\uu/\uv/\(uk->uw/\uw/\uw/\ux/\uT)/\(ub->uw/\uw/\uw/\ux/\(uJ=true->Q (AV.agg [u3,u3,AV.str um,u4,u4]))/\(uJ=false->Q (AV.agg [u5,u3,AV.str um,u4,u4]))))/\(uz->uz/\uz/\uA/\uB/\uB/\uB/\uC/\(un->uT)/\(ue->(uK=true->Q (AV.agg [u3,u3,AV.str uo,u4,u4]))/\(uK=false->Q (AV.agg [u5,u3,AV.str uo,u4,u4]))))))/\(uE->uE/\uE/\u7=true/\uu/\uu/\uu/\uv/\(uk->uS)/\(ub->uB/\uB/\uB/\uC/\(un->uR)/\(ue->(uL=true->Q (AV.agg [u3,u3,AV.str up,u4,u4]))/\(uL=false->Q (AV.agg [u5,u3,AV.str up,u4,u4])))))))/\(uM->uM/\uM/\u6=true/\us/\us/\us/\ut/\(uh->uQ)/\(u9->uu/\uu/\uu/\uv/\(uk->uP)/\(ub->uB/\uB/\uB/\uC/\(un->uO)/\(ue->(uN=true->Q (AV.agg [u3,u3,AV.str uq,u4,u4]))/\(uN=false->Q (AV.agg [u5,u3,AV.str uq,u4,u4]))))))) ((uy=true->Q (AV.agg [u3,u3,AV.str ud,u4,u4]))/\(uy=false->Q (AV.agg [u5,u3,AV.str ud,u4,u4]))) (uB/\uB/\uB/\uC/\ue/\(uD=true->Q (AV.agg [u3,u3,AV.str uf,u4,u4]))/\(uD=false->Q (AV.agg [u5,u3,AV.str uf,u4,u4]))) (uu/\uu/\uu/\uv/\ub/\uB/\uB/\uB/\uC/\ue/\(uF=true->Q (AV.agg [u3,u3,AV.str ug,u4,u4]))/\(uF=false->Q (AV.agg [u5,u3,AV.str ug,u4,u4]))) ((uG=true->Q (AV.agg [u3,u3,AV.str ui,u4,u4]))/\(uG=false->Q (AV.agg [u5,u3,AV.str ui,u4,u4]))) (uB/\uB/\uB/\uC/\ue/\(uH=true->Q (AV.agg [u3,u3,AV.str uj,u4,u4]))/\(uH=false->Q (AV.agg [u5,u3,AV.str uj,u4,u4]))) ((uI=true->Q (AV.agg [u3,u3,AV.str ul,u4,u4]))/\(uI=false->Q (AV.agg [u5,u3,AV.str ul,u4,u4])))) (aa (bI (bD ng false ud 0 0)) 0) (aa (bI (bD ng false uf 0 0)) 0) (aa (bI (bD ng false ug 0 0)) 0) (aa (bI (bD ng false ui 0 0)) 0) (aa (bI (bD ng false uj 0 0)) 0) (aa (bI (bD ng false ul 0 0)) 0) (aa (bI (bD ng false um 0 0)) 0) (aa (bI (bD ng false uo 0 0)) 0) (aa (bI (bD ng false up 0 0)) 0) (aa (bI (bD ng false uq 0 0)) 0) (not u6=true) (not u7=true) (u7=false) (not ua=true) (ua=false) (not uc=false) (uc=true) (not ua=false) (ua=true) (not uc=true) (uc=false) (not u7=false) (not u6=false)) (aa 0 u0) (aa 1 u0) (aa 2 u0) (aa 3 u0) [u2,d1 n,d2 n,u2] [u2,d1 n,u2,d3 n] [u2,u2,d2 n,d3 n] [d0 n,u2,d2 n,u2] [d0 n,u2,u2,d3 n] [d0 n,d1 n,u2,u2] [d0 n,d1 n,d2 n,u2] [d0 n,d1 n,u2,d3 n] [d0 n,u2,d2 n,d3 n] [u2,d1 n,d2 n,d3 n] (aa 1 u1=false) (aa 2 u1=false) (aa 3 u1=false) (aa 1 u1=true) (aa 2 u1=true) (aa 3 u1=true)) (AV.bool false) (AV.int .i64 0) (AV.bool ng) (Int.tmod z0 4) (Int.tmod z1 4) (UInt8.ofNat 88)):=by kernel_rfl
theorem rg:aH tab 84=some (bC 84,aE 84):=by kernel_rfl
theorem si:az Tryz.prog cfg Ou:=Nl (bK aT (DS 132 _ rfl))
theorem EO{k:Int}(h:0<=k/\k<=8):List.drop k.toNat (List.take (Int.add k 1).toNat [UInt8.ofNat 49,UInt8.ofNat 50,UInt8.ofNat 51,UInt8.ofNat 52,UInt8.ofNat 53,UInt8.ofNat 54,UInt8.ofNat 55,UInt8.ofNat 56,UInt8.ofNat 57])=[xc (k+1)]:=by
 rcases pr ⟨h.1,by omega⟩with rfl|rfl|rfl|rfl|rfl|rfl|rfl|rfl|rfl|rfl<;>first|rfl|omega
theorem th{b:Bool}:aa (bI b) 0=!b:=by cases b<;>rfl
theorem Ye:(aa 0 0=true/\aa 0 1=false/\aa 0 2=false/\aa 0 3=false)/\(aa 1 0=false/\aa 1 1=true/\aa 1 2=false/\aa 1 3=false)/\(aa 2 0=false/\aa 2 1=false/\aa 2 2=true/\aa 2 3=false)/\(aa 3 0=false/\aa 3 1=false/\aa 3 2=false/\aa 3 3=true):=by decide
theorem tm{a b:Int}(h:0<=a):Int.tmod a b=a%b:=Int.tmod_eq_emod_of_nonneg h
theorem td{a b:Int}(h:0<=a):Int.tdiv a b=a/b:=Int.tdiv_eq_ediv_of_nonneg h
theorem Sd{S:bq}(hS:az Tryz.prog cfg S):az Tryz.prog cfg (bw S 84 Wg):=by
 refine aA hS λargs t v he hv=>?_
 unfold Wg at he
 split at he
 · rename_i f ng n z0 z1
   cases he
   obtain⟨⟨h1,h2,h3,h4,-⟩,hv⟩:=aI hv
   cases hv
   rw[aQ]at h1 h2 h3 h4
   simp only[bA,bB]at h1 h2 h3 h4
   have tf:Int.tmod f 6=f%6:=tm h1.1
   have cf:f%6<=2\/f%6=3\/f%6=4\/f%6=5:=by omega
   rcases cf with cf|cf|cf|cf
   · refine cp si (L:=aW) rg (by simp) ak (ap λQ' hQ=>al ((Wj f ng n z0 z1).mpr ?_)) (by simp[aq,bG])
     dsimp only
     have hQ:=hQ _ rfl
     have e3:aa (f%6) 3=false:=aF.mpr (by omega)
     have e4:aa (f%6) 4=false:=aF.mpr (by omega)
     have e5:aa (f%6) 5=false:=aF.mpr (by omega)
     simp only[p9,pD,fN,jx,iF,e3,e4,e5,cond_false]at hQ
     try dsimp only
     rw[tf,e3,e4,e5,th]
     generalize bD _ _ _ _ _=o at *
     cases o<;>cases ng<;>simp only[aD,reduceCtorEq,bA,bB,ne_eq]<;>(repeat' first|exact trivial|refine⟨?_,?_⟩|intro)<;>first|contradiction|omega|assumption|exact hQ
   · refine cp si (L:=aW) rg (by simp) ak (ap λQ' hQ=>al ((Xh f ng n z0 z1).mpr ?_)) (by simp[aq,bG])
     dsimp only
     have hQ:=hQ _ rfl
     have e3:aa (f%6) 3=true:=aS.mpr (by omega)
     have e4:aa (f%6) 4=false:=aF.mpr (by omega)
     have e5:aa (f%6) 5=false:=aF.mpr (by omega)
     simp only[p9,pD,fN,jx,iF,e3,e4,e5,cond_false,cond_true]at hQ
     have ha:0<=z0%4/\z0%4<=3:=by omega
     have hb:0<=z1%4/\z1%4<=3:=by omega
     try dsimp only
     rw[tf,e3,tm (b:=4) h3.1,tm (b:=4) h4.1]
     generalize z0%4=a at *
     generalize z1%4=b at *
     have ca:a=0\/a=1\/a=2\/a=3:=by omega
     have cb:b=0\/b=1\/b=2\/b=3:=by omega
     rcases ca with rfl|rfl|rfl|rfl<;>rcases cb with rfl|rfl|rfl|rfl<;>simp only[SB,th,Ye,reduceCtorEq,Bool.or_true,Bool.true_or,Bool.or_false,cond_true,cond_false,Bool.not_true,Bool.not_false,false_implies,true_implies,true_and,and_true]at hQ ⊢<;>generalize bD _ _ _ _ _=o at *<;>cases o<;>cases ng<;>simp only[aD,reduceCtorEq,bA,bB,ne_eq]<;>(repeat' first|exact trivial|refine⟨?_,?_⟩|intro)<;>first|contradiction|omega|assumption|exact hQ
   · refine cp si (L:=aW) rg (by simp) ak (ap λQ' hQ=>al ((Vo f ng n z0 z1).mpr ?_)) (by simp[aq,bG])
     dsimp only
     have hQ:=hQ _ rfl
     have e3:aa (f%6) 3=false:=aF.mpr (by omega)
     have e4:aa (f%6) 4=true:=aS.mpr (by omega)
     have e5:aa (f%6) 5=false:=aF.mpr (by omega)
     simp only[p9,pD,fN,jx,iF,e3,e4,e5,cond_false,cond_true]at hQ
     try dsimp only
     rw[tf,e3,e4,tm (b:=4) h3.1,th]
     rw[show Int.add 1 (z0%4)=1+z0%4 from rfl]
     generalize bD _ _ _ _ _=o at *
     cases o<;>cases ng<;>simp only[aD,reduceCtorEq,bA,bB,ne_eq]<;>(repeat' first|exact trivial|refine⟨?_,?_⟩|intro)<;>first|contradiction|omega|assumption|exact hQ
   · have e3:aa (f%6) 3=false:=aF.mpr (by omega)
     have e4:aa (f%6) 4=false:=aF.mpr (by omega)
     have e5:aa (f%6) 5=true:=aS.mpr (by omega)
     have s9:=EO (k:=z0%9) (by omega)
     have m16:0<=z0/16/\z0/16<=15:=by omega
     by_cases h0:z1%3<=0
     · refine cp si (L:=aW) rg (by simp) ak (ap λQ' hQ=>al ((Wm f ng n z0 z1).mpr ?_)) (by simp[aq,bG])
       dsimp only
       have hQ:=hQ _ rfl
       have e0:ab (z1%3) 0=true:=aK.mpr h0
       simp only[p9,pD,fN,jx,iF,C8,e0,e3,e4,e5,cond_false,cond_true]at hQ
       try dsimp only
       rw[tf,e3,e4,e5,tm (b:=9) h3.1,tm (b:=3) h4.1,td (b:=16) h3.1,s9,e0,tm m16.1,th]
       simp only[List.length_cons,List.length_nil,List.cons_append,List.nil_append]at hQ ⊢
       have ez:∀x:Nat,Int.add (Int.add (Int.ofNat x) 0) 1=Int.ofNat x+0+1:=λ_=>rfl
       rw[ez]
       generalize hg:z0/16%(Int.ofNat _+0+1)=g at *
       generalize bD _ _ _ _ _=o at *
       generalize [xc (z0%9+1),d0 n,d1 n,d2 n,d3 n]=L at *
       cases o<;>cases ng<;>simp only[aD,reduceCtorEq,bA,bB,ne_eq]<;>(repeat' first|exact trivial|refine⟨?_,?_⟩|intro)<;>first|contradiction|omega|assumption|exact hQ
     · refine cp si (L:=aW) rg (by simp) ak (ap λQ' hQ=>al ((XD f ng n z0 z1).mpr ?_)) (by simp[aq,bG])
       dsimp only
       have hQ:=hQ _ rfl
       have e0:ab (z1%3) 0=false:=dc.mpr (by omega)
       simp only[p9,pD,fN,jx,iF,C8,e0,e3,e4,e5,cond_false,cond_true]at hQ
       have m5:0<=z1%5/\z1%5<=4:=by omega
       have m11:0<=z1/16%11/\z1/16%11<=10:=by omega
       try dsimp only
       rw[tf,e3,e4,e5,tm (b:=9) h3.1,tm (b:=3) h4.1,tm (b:=5) h4.1,td (b:=16) h3.1,td (b:=16) h4.1,s9,e0,tm m16.1,tm (a:=z1/16) (by omega),th]
       rw[show Int.add 1 (z1%5)=1+z1%5 from rfl,show Int.add 1 (z1/16%11)=1+z1/16%11 from rfl]
       simp only[List.cons_append,List.nil_append,List.drop_zero]at hQ ⊢
       have hl:(List.take (1+z1%5).toNat [xc (z0%9+1),d0 n,d1 n,d2 n,d3 n]).length<=5:=by
        rw[List.length_take];exact Nat.min_le_right _ _
       have h5:(1+z1%5).toNat<=[xc (z0%9+1),d0 n,d1 n,d2 n,d3 n].length:=by
        simp only[List.length_cons,List.length_nil];omega
       have ez:∀x y:Int,Int.add (Int.add x y) 1=x+y+1:=λ_ _=>rfl
       rw[ez]
       generalize hg:z0/16%(Int.ofNat _+_+1)=g at *
       generalize bD _ _ _ _ _=o at *
       generalize [xc (z0%9+1),d0 n,d1 n,d2 n,d3 n]=L at *
       generalize List.take (1+z1%5).toNat L=T at *
       cases o<;>cases ng<;>simp only[aD,reduceCtorEq,bA,bB,ne_eq]<;>(repeat' first|exact trivial|refine⟨?_,?_⟩|intro)<;>first|contradiction|omega|assumption|exact hQ
 · cases he
end Go.Ev
end
