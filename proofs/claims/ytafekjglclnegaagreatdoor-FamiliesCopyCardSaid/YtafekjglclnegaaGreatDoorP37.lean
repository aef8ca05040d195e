import Derived.Test.YtafekjglclnegaaGreatDoorP34
set_option linter.all false
section
set_option maxRecDepth 100000
set_option maxHeartbeats 4000000
namespace Go.Ev
open Go Go.Proofs
def iQ(r s:Rn):Bool:=Bool.and (Bool.and (aa r.a s.a) (Bool.and (aa r.b s.b) Bool.true)) (Bool.and (Bool.and (aa r.c s.c) (Bool.and (aa r.d s.d) Bool.true)) Bool.true)
def kn:List Rn->List Rn->Bool
 | [],[]=>true
 | r::rs,s::ss=>iQ r s&&kn rs ss
 | _,_=>false
def VE(R1 R2:List Rn):fp:=λvs o=>match vs,o with
 | [.slice 14 0 n k,.slice 15 0 n' k',.int .i64 z,.int .i64 i],⟨0,[],[]⟩=>some (aN [Nat.ble n 1000,Nat.beq R1.length n,Nat.beq R2.length n,Nat.beq n' n,aa i 0,aa z 0] (.test (kn R1 R2) λb=>bif b then .ret (.exit 0,[.slice 14 0 n k,.slice 15 0 n' k',.int .i64 0,.int .i64 (Int.ofNat n)],b7)else .all λJ=>.ret (.ret,[.slice 14 0 n k,.slice 15 0 n' k',.int .i64 0,.any (J 0)],b7)))
 | _,_=>none
def WK(R1 R2:List Rn):fp:=λvs o=>match vs,o with
 | [.slice 14 0 n k,.slice 15 0 n' k',.bool z,.int .i64 n'',.int .i64 i],⟨0,[],[]⟩=>some (aN [Nat.ble n 1000,Nat.beq R1.length n,Nat.beq R2.length n,Nat.beq n' n,aa n'' (Int.ofNat n),aa i 0,!z] (.test (kn R1 R2) λb=>bif b then .ret (.exit 0,[.slice 14 0 n k,.slice 15 0 n' k',.bool false,.int .i64 n'',.int .i64 n''],b7)else .all λJ=>.ret (.ret,[.slice 14 0 n k,.slice 15 0 n' k',.bool false,.int .i64 n'',.any (J 0)],b7)))
 | _,_=>none
def X3(R1 R2:List Rn):dx:=j7 aW 0 (fL 26 [0,1,4,5] (VE R1 R2))
def X7(R1 R2:List Rn):dx:=j7 aW 0 (fL 26 [0,1,4,12,13] (WK R1 R2))
theorem YD(w1 w2:List AV)(n:Nat)(k k':dv)(i:Nat)(J:Nat->Value){Q:VQ->Prop}:aO Q (rT dF aW [.cells w1 false none,.cells w2 false none] 55 0 26 [0,1,4,5] [.slice 14 0 n k,.slice 15 0 n k',.int .i64 0,.int .i64 (Int.ofNat i)] J b7) (b_ 11111111112144444204444204)=((λ(u3 u4 u5:AV)(u0:Int)(u2:Nat)(u1:Prop)=>(λ(u7 u9:AV)(u6:Bool)(u8:Nat)=>(λ(ua uc:AV)(ub:Nat)=>(λ(ud uf:AV)(ue:Nat)=>(λ(ug uh:AV)=>(λ(ui:Bool)=>(u6=true->u1/\(bM .i8 u7=true->(bM .i64 ua=true->(bM .i8 ud=true->(bM .i64 ug=true->u1/\(bM .i8 u9=true->(bM .i64 uc=true->(bM .i8 uf=true->(bM .i64 uh=true->(ui=true->Q (AX.ret,([u4,u5,AV.int .i64 0,AV.int .i64 u0],{ n:=0,os:=[],le:=[] })))/\(ui=false->ae .i64 (Int.add u0 1)=true/\Q (AX.normal,([u4,u5,AV.int .i64 0,AV.int .i64 (Int.add u0 1)],{ n:=0,os:=[],le:=[] }))))/\(bM .i64 uh=false->False))/\(bM .i8 uf=false->False))/\(bM .i64 uc=false->False))/\(bM .i8 u9=false->False))/\(bM .i64 ug=false->False))/\(bM .i8 ud=false->False))/\(bM .i64 ua=false->False))/\(bM .i8 u7=false->False))/\(u6=false->Q (AX.exit 0,([u4,u5,AV.int .i64 0,AV.int .i64 u0],{ n:=0,os:=[],le:=[] })))) (not (and (and (aa (bL u7) (bL u9)) (and (aa (bL ua) (bL uc)) true)) (and (and (aa (bL ud) (bL uf)) (and (aa (bL ug) (bL uh)) true)) true)))) (List.getD w1 ue u3) (List.getD w2 ue u3)) (List.getD w1 ub u3) (List.getD w2 ub u3) (HAdd.hAdd ub 1)) (List.getD w1 u8 u3) (List.getD w2 u8 u3) (HAdd.hAdd u8 1)) (List.getD w1 u2 u3) (List.getD w2 u2 u3) (not (ab (Int.ofNat n) u0)) (HAdd.hAdd u2 1)) (AV.tuple []) (AV.slice 14 0 n k) (AV.slice 15 0 n k') (Int.ofNat i) (HAdd.hAdd 0 (HMul.hMul i 4)) (bm i n=true)):=by kernel_rfl
theorem Yx(w1 w2:List AV)(n:Nat)(k k':dv)(i:Nat)(J:Nat->Value){Q:VQ->Prop}:aO Q (rT dF aW [.cells w1 false none,.cells w2 false none] 77 0 26 [0,1,4,12,13] [.slice 14 0 n k,.slice 15 0 n k',.bool false,.int .i64 (Int.ofNat n),.int .i64 (Int.ofNat i)] J b7) (b_ 11111111112144444204444204)=((λ(u3 u4 u5 u6 u7:AV)(u0:Int)(u2:Nat)(u1:Prop)=>(λ(u9 ub:AV)(u8:Bool)(ua:Nat)=>(λ(uc ue:AV)(ud:Nat)=>(λ(uf uh:AV)(ug:Nat)=>(λ(ui uj:AV)=>(λ(uk:Bool)=>(u8=true->u1/\(bM .i8 u9=true->(bM .i64 uc=true->(bM .i8 uf=true->(bM .i64 ui=true->u1/\(bM .i8 ub=true->(bM .i64 ue=true->(bM .i8 uh=true->(bM .i64 uj=true->(uk=true->Q (AX.ret,([u4,u5,u6,u7,AV.int .i64 u0],{ n:=0,os:=[],le:=[] })))/\(uk=false->ae .i64 (Int.add u0 1)=true/\Q (AX.normal,([u4,u5,u6,u7,AV.int .i64 (Int.add u0 1)],{ n:=0,os:=[],le:=[] }))))/\(bM .i64 uj=false->False))/\(bM .i8 uh=false->False))/\(bM .i64 ue=false->False))/\(bM .i8 ub=false->False))/\(bM .i64 ui=false->False))/\(bM .i8 uf=false->False))/\(bM .i64 uc=false->False))/\(bM .i8 u9=false->False))/\(u8=false->Q (AX.exit 0,([u4,u5,u6,u7,AV.int .i64 u0],{ n:=0,os:=[],le:=[] })))) (not (and (and (aa (bL u9) (bL ub)) (and (aa (bL uc) (bL ue)) true)) (and (and (aa (bL uf) (bL uh)) (and (aa (bL ui) (bL uj)) true)) true)))) (List.getD w1 ug u3) (List.getD w2 ug u3)) (List.getD w1 ud u3) (List.getD w2 ud u3) (HAdd.hAdd ud 1)) (List.getD w1 ua u3) (List.getD w2 ua u3) (HAdd.hAdd ua 1)) (List.getD w1 u2 u3) (List.getD w2 u2 u3) (not (ab (Int.ofNat n) u0)) (HAdd.hAdd u2 1)) (AV.tuple []) (AV.slice 14 0 n k) (AV.slice 15 0 n k') (AV.bool false) (AV.int .i64 (Int.ofNat n)) (Int.ofNat i) (HAdd.hAdd 0 (HMul.hMul i 4)) (bm i n=true)):=by kernel_rfl
theorem Yo(w1 w2:List AV)(R1 R2:List Rn)(n n':Nat)(k k':dv){Q:AV->Prop}:aO Q (pW dF (X3 R1 R2) [.cells w1 false none,.cells w2 false none] 55 [.slice 14 0 n k,.slice 15 0 n' k']) (b_ 11111400244414)=((λ(u0 u2 u3 u4:Bool)(u1:Prop)=>(u0=true->u1)/\(u0=false->(u2=true->(u3=true->(u4=true->Nat.beq n' n=true/\(kn R1 R2=true->(∀J1:Nat->Value,Q (AV.int .i64 1)))/\(kn R1 R2=false->(∀J1:Nat->Value,∀J2:Nat->Value,u1)))/\(u4=false->False))/\(u3=false->False))/\(u2=false->False))) (not (aa (Int.ofNat n) (Int.ofNat n'))) (Nat.ble n 1000) (Nat.beq (List.length R1) n) (Nat.beq (List.length R2) n) (Q (AV.int .i64 0))):=by kernel_rfl
theorem Yg(w1 w2:List AV)(R1 R2:List Rn)(n n':Nat)(k k':dv){Q:AV->Prop}:aO Q (pW dF (X7 R1 R2) [.cells w1 false none,.cells w2 false none] 77 [.slice 14 0 n k,.slice 15 0 n' k']) (b_ 111114002244414)=((λ(u2 u3 u4:Bool)(u0:Int)(u1:Prop)=>(λ(u5:Bool)=>(u5=true->u1)/\(u5=false->(u2=true->(u3=true->(u4=true->Nat.beq n' n=true/\aa u0 u0=true/\(kn R1 R2=true->(∀J1:Nat->Value,Q (AV.bool true)))/\(kn R1 R2=false->(∀J1:Nat->Value,∀J2:Nat->Value,u1)))/\(u4=false->False))/\(u3=false->False))/\(u2=false->False))) (not (aa u0 (Int.ofNat n')))) (Nat.ble n 1000) (Nat.beq (List.length R1) n) (Nat.beq (List.length R2) n) (Int.ofNat n) (Q (AV.bool false))):=by kernel_rfl
theorem Uw{Q:AV->Prop}:aO Q (pW dF aW [] 55 [.nilslice,.nilslice]) (.e (.e .z))=(Q (AV.int .i64 1)):=by kernel_rfl
theorem Vn{Q:AV->Prop}:aO Q (pW dF aW [] 77 [.nilslice,.nilslice]) (.e (.e .z))=(Q (AV.bool true)):=by kernel_rfl
theorem Wy(w1:List AV)(n:Nat)(k:dv){Q:AV->Prop}:aO Q (pW dF aW [.cells w1 false none] 55 [.slice 14 0 n k,.nilslice]) (.t .z)=(not (aa (Int.ofNat n) 0)=true/\Q (AV.int .i64 0)):=by kernel_rfl
theorem UN(w1:List AV)(n:Nat)(k:dv){Q:AV->Prop}:aO Q (pW dF aW [.cells w1 false none] 77 [.slice 14 0 n k,.nilslice]) (.t .z)=(not (aa (Int.ofNat n) 0)=true/\Q (AV.bool false)):=by kernel_rfl
theorem Xw(w1:List AV)(n:Nat)(k:dv){Q:AV->Prop}:aO Q (pW dF aW [.cells w1 false none] 55 [.nilslice,.slice 14 0 n k]) (.t .z)=(not (aa 0 (Int.ofNat n))=true/\Q (AV.int .i64 0)):=by kernel_rfl
theorem Xl(w1:List AV)(n:Nat)(k:dv){Q:AV->Prop}:aO Q (pW dF aW [.cells w1 false none] 77 [.nilslice,.slice 14 0 n k]) (.t .z)=(not (aa 0 (Int.ofNat n))=true/\Q (AV.bool false)):=by kernel_rfl
theorem v8:aH tab 55=some (bC 55,aE 55):=by kernel_rfl
theorem wv:aH tab 77=some (bC 77,aE 77):=by kernel_rfl
theorem Jg:(bE (aE 55)).map (·.1)=[0]:=by kernel_rfl
theorem Ik:(bE (aE 77)).map (·.1)=[0]:=by kernel_rfl
theorem yG{r s:Rn}:iQ r s=true↔r=s:=by
 obtain⟨a,b,c,d⟩:=r
 obtain⟨a',b',c',d'⟩:=s
 unfold iQ
 simp only[Bool.and_eq_true,aS,Rn.mk.injEq]
 grind
theorem rL:∀{R S:List Rn},R.length=S.length->(kn R S=true↔∀j,j<R.length->iQ (R.getD j fG) (S.getD j fG)=true)
 | [],[],_=>⟨λ_ j hj=>absurd hj (Nat.not_lt_zero j),λ_=>rfl⟩
 | r::rs,s::ss,h=>by
   have ih:=rL (R:=rs) (S:=ss) (by simpa using h)
   rw[kn,Bool.and_eq_true,ih]
   constructor
   · rintro⟨h1,h2⟩ j hj
     cases j with
     | zero=>exact h1
     | succ j=>exact h2 j (by simpa using hj)
   · intro h0
     exact⟨h0 0 (Nat.succ_pos _),λj hj=>h0 (j+1) (by simpa using hj)⟩
theorem xj:∀{R S:List Rn},R.length≠S.length->kn R S=false
 | [],[],h=>absurd rfl h
 | [],_::_,_=>rfl
 | _::_,[],_=>rfl
 | r::rs,s::ss,h=>by rw[kn,xj (R:=rs) (S:=ss) (by simpa using h),Bool.and_false]
theorem yj:∀{R:List Rn},kn R R=true
 | []=>rfl
 | r::rs=>by rw[kn,yG.2 rfl,yj (R:=rs)];rfl
theorem iM{R1 R2:List Rn}:∀x∈[aw.cells (aJ R1) false none,aw.cells (aJ R2) false none],eG 14 x:=λx hx=>by
 simp only[List.mem_cons,List.not_mem_nil,or_false]at hx
 rcases hx with rfl|rfl<;>exact dw kQ
theorem WV{R1 R2:List Rn}:dG Tryz.prog (dX cfg dF) (Cw cfg [.cells (aJ R1) false none,.cells (aJ R2) false none]) (lb 55 0) 26 [0,1,4,5] (VE R1 R2):=by
 have hw:=@iM R1 R2
 intro vs o t Q hv hq J
 unfold VE at hv
 split at hv
 · rename_i n k n' k' z i
   cases hv
   replace hq:=eM hq;obtain⟨⟨h1,h2,h3,h4,h5,h6,-⟩,hq⟩:=hq
   rw[aB]at h1
   rw[bW]at h2 h3 h4
   rw[aS]at h5 h6
   subst h2 h4 h5 h6
   simp only[aN,Tr.wp]at hq
   refine j_ aT rfl rfl ak (ι:={i:Nat // i<=R1.length/\∀j,j<i->iQ (R1.getD j fG) (R2.getD j fG)=true}) (λx=>[.slice 14 0 R1.length k,.slice 15 0 R1.length k',.int .i64 0,.int .i64 (Int.ofNat x.1)]) (λ_=>b7) (λx=>R1.length-x.1) 0 (λ_=>Nat.le_refl _) (λx J=>?_) (Nat.le_refl _) (λJ=>Wk.refl ⟨⟨0,Nat.zero_le _,λj hj=>absurd hj (Nat.not_lt_zero j)⟩,J,rfl⟩) J
   obtain⟨i,hi,hz⟩:=x
   dsimp only
   refine ap λQ' hQ=>al ((YD (aJ R1) (aJ R2) R1.length k k' i J).mpr ?_)
   dsimp only
   try dsimp only
   have yes:i<R1.length->iQ (R1.getD i fG) (R2.getD i fG)=false->∀J:Nat->Value,Q (.ret,[.slice 14 0 R1.length k,.slice 15 0 R1.length k',.int .i64 0,.any (J 0)],b7):=λhlt he J2=>by
    have hc:kn R1 R2=false:=by
     rw[<-Bool.not_eq_true]
     intro hc
     have:=(rL h3.symm).1 hc i hlt
     rw[he]at this
     cases this
    rw[hc]at hq
    exact hq J2
   have no:i=R1.length->Q (.exit 0,[.slice 14 0 R1.length k,.slice 15 0 R1.length k',.int .i64 0,.int .i64 (Int.ofNat R1.length)],b7):=λhe=>by
    subst he
    have hc:kn R1 R2=true:=(rL h3.symm).2 hz
    rw[hc]at hq
    exact hq
   have next:iQ (R1.getD i fG) (R2.getD i fG)=true->∀j,j<i+1->iQ (R1.getD j fG) (R2.getD j fG)=true:=λh j hj=>by
    by_cases e:j=i
    · subst e;exact h
    · exact hz j (by omega)
   clear hq
   by_cases hlt:i<R1.length
   · obtain⟨f1,f2,f3,f4⟩:=kh hlt
     obtain⟨g1,g2,g3,g4⟩:=kh (R:=R2) (i:=i) (by omega)
     have ret:iQ (R1.getD i fG) (R2.getD i fG)=false->∃vs2 o2,VW cfg (Cw cfg [.cells (aJ R1) false none,.cells (aJ R2) false none]) 0 26 [0,1,4,5] [.slice 14 0 R1.length k,.slice 15 0 R1.length k',.int .i64 0,.int .i64 (Int.ofNat i)] b7 vs2 o2/\Q (.ret,vs2,o2):=λhe=>⟨_,_,VW.any (.same (.same (.same (.int .nil)))) rfl,yes hlt he (jv [_])⟩
     have go:iQ (R1.getD i fG) (R2.getD i fG)=true->∃y:{i:Nat // i<=R1.length/\∀j,j<i->iQ (R1.getD j fG) (R2.getD j fG)=true},R1.length-y.1<R1.length-i/\VW cfg (Cw cfg [.cells (aJ R1) false none,.cells (aJ R2) false none]) 0 26 [0,1,4,5] [.slice 14 0 R1.length k,.slice 15 0 R1.length k',.int .i64 0,.int .i64 (Int.add (Int.ofNat i) 1)] b7 [.slice 14 0 R1.length k,.slice 15 0 R1.length k',.int .i64 0,.int .i64 (Int.ofNat y.1)] b7:=λh0=>⟨⟨i+1,by omega,next h0⟩,by dsimp only;omega,VW.refl⟩
     clear yes no next hz
     simp only[Nat.add_assoc,Nat.reduceAdd,Nat.zero_add,Nat.add_zero,f1,f2,f3,f4,g1,g2,g3,g4,bM,bL,hU,nB]at *
     generalize R1.getD i fG=r at *
     generalize R2.getD i fG=s at *
     have l1:ab (Int.ofNat R1.length) (Int.ofNat i)=false:=by rw[dc];exact Int.ofNat_lt.2 hlt
     have l2:bm i R1.length=true:=ba.2 hlt
     have l3:ae .i64 (Int.add (Int.ofNat i) 1)=true:=by rw[aQ];simp only[bA,bB];show _<=(i:Int)+1/\(i:Int)+1<=_;omega
     have e:iQ r s=Bool.and (Bool.and (aa r.a s.a) (Bool.and (aa r.b s.b) Bool.true)) (Bool.and (Bool.and (aa r.c s.c) (Bool.and (aa r.d s.d) Bool.true)) Bool.true):=rfl
     rw[l1,l2,l3,<-e]
     cases he:iQ r s with
     | false=>simp only[aD,reduceCtorEq,bA,bB,ne_eq,Bool.not_true,Bool.not_false];(repeat' first|exact trivial|refine⟨?_,?_⟩|intro)<;>first|contradiction|omega|(refine hQ _ ?_;exact ret he)
     | true=>simp only[aD,reduceCtorEq,bA,bB,ne_eq,Bool.not_true,Bool.not_false];(repeat' first|exact trivial|refine⟨?_,?_⟩|intro)<;>first|contradiction|omega|(refine hQ _ ?_;exact go he)
   · obtain rfl:i=R1.length:=by omega
     have no:=no rfl
     have l1:ab (Int.ofNat R1.length) (Int.ofNat R1.length)=true:=by rw[aK];exact Int.le_refl _
     rw[l1]
     simp only[reduceCtorEq,false_implies,true_implies,and_true,true_and,Bool.not_true,Bool.not_false]
     exact hQ _ ⟨_,_,VW.refl,no⟩
 · cases hv
theorem VD{R1 R2:List Rn}:dG Tryz.prog (dX cfg dF) (Cw cfg [.cells (aJ R1) false none,.cells (aJ R2) false none]) (lb 77 0) 26 [0,1,4,12,13] (WK R1 R2):=by
 have hw:=@iM R1 R2
 intro vs o t Q hv hq J
 unfold WK at hv
 split at hv
 · rename_i n k n' k' z n'' i
   cases hv
   replace hq:=eM hq;obtain⟨⟨h1,h2,h3,h4,h5,h6,h7,-⟩,hq⟩:=hq
   rw[aB]at h1
   rw[bW]at h2 h3 h4
   rw[aS]at h5 h6
   rw[Bool.not_eq_true']at h7
   subst h2 h4 h5 h6 h7
   simp only[aN,Tr.wp]at hq
   refine j_ aT rfl rfl ak (ι:={i:Nat // i<=R1.length/\∀j,j<i->iQ (R1.getD j fG) (R2.getD j fG)=true}) (λx=>[.slice 14 0 R1.length k,.slice 15 0 R1.length k',.bool false,.int .i64 (Int.ofNat R1.length),.int .i64 (Int.ofNat x.1)]) (λ_=>b7) (λx=>R1.length-x.1) 0 (λ_=>Nat.le_refl _) (λx J=>?_) (Nat.le_refl _) (λJ=>Wk.refl ⟨⟨0,Nat.zero_le _,λj hj=>absurd hj (Nat.not_lt_zero j)⟩,J,rfl⟩) J
   obtain⟨i,hi,hz⟩:=x
   dsimp only
   refine ap λQ' hQ=>al ((Yx (aJ R1) (aJ R2) R1.length k k' i J).mpr ?_)
   dsimp only
   try dsimp only
   have yes:i<R1.length->iQ (R1.getD i fG) (R2.getD i fG)=false->∀J:Nat->Value,Q (.ret,[.slice 14 0 R1.length k,.slice 15 0 R1.length k',.bool false,.int .i64 (Int.ofNat R1.length),.any (J 0)],b7):=λhlt he J2=>by
    have hc:kn R1 R2=false:=by
     rw[<-Bool.not_eq_true]
     intro hc
     have:=(rL h3.symm).1 hc i hlt
     rw[he]at this
     cases this
    rw[hc]at hq
    exact hq J2
   have no:i=R1.length->Q (.exit 0,[.slice 14 0 R1.length k,.slice 15 0 R1.length k',.bool false,.int .i64 (Int.ofNat R1.length),.int .i64 (Int.ofNat R1.length)],b7):=λhe=>by
    subst he
    have hc:kn R1 R2=true:=(rL h3.symm).2 hz
    rw[hc]at hq
    exact hq
   have next:iQ (R1.getD i fG) (R2.getD i fG)=true->∀j,j<i+1->iQ (R1.getD j fG) (R2.getD j fG)=true:=λh j hj=>by
    by_cases e:j=i
    · subst e;exact h
    · exact hz j (by omega)
   clear hq
   by_cases hlt:i<R1.length
   · obtain⟨f1,f2,f3,f4⟩:=kh hlt
     obtain⟨g1,g2,g3,g4⟩:=kh (R:=R2) (i:=i) (by omega)
     have ret:iQ (R1.getD i fG) (R2.getD i fG)=false->∃vs2 o2,VW cfg (Cw cfg [.cells (aJ R1) false none,.cells (aJ R2) false none]) 0 26 [0,1,4,12,13] [.slice 14 0 R1.length k,.slice 15 0 R1.length k',.bool false,.int .i64 (Int.ofNat R1.length),.int .i64 (Int.ofNat i)] b7 vs2 o2/\Q (.ret,vs2,o2):=λhe=>⟨_,_,VW.any (.same (.same (.same (.same (.int .nil))))) rfl,yes hlt he (jv [_])⟩
     have go:iQ (R1.getD i fG) (R2.getD i fG)=true->∃y:{i:Nat // i<=R1.length/\∀j,j<i->iQ (R1.getD j fG) (R2.getD j fG)=true},R1.length-y.1<R1.length-i/\VW cfg (Cw cfg [.cells (aJ R1) false none,.cells (aJ R2) false none]) 0 26 [0,1,4,12,13] [.slice 14 0 R1.length k,.slice 15 0 R1.length k',.bool false,.int .i64 (Int.ofNat R1.length),.int .i64 (Int.add (Int.ofNat i) 1)] b7 [.slice 14 0 R1.length k,.slice 15 0 R1.length k',.bool false,.int .i64 (Int.ofNat R1.length),.int .i64 (Int.ofNat y.1)] b7:=λh0=>⟨⟨i+1,by omega,next h0⟩,by dsimp only;omega,VW.refl⟩
     clear yes no next hz
     simp only[Nat.add_assoc,Nat.reduceAdd,Nat.zero_add,Nat.add_zero,f1,f2,f3,f4,g1,g2,g3,g4,bM,bL,hU,nB]at *
     generalize R1.getD i fG=r at *
     generalize R2.getD i fG=s at *
     have l1:ab (Int.ofNat R1.length) (Int.ofNat i)=false:=by rw[dc];exact Int.ofNat_lt.2 hlt
     have l2:bm i R1.length=true:=ba.2 hlt
     have l3:ae .i64 (Int.add (Int.ofNat i) 1)=true:=by rw[aQ];simp only[bA,bB];show _<=(i:Int)+1/\(i:Int)+1<=_;omega
     have e:iQ r s=Bool.and (Bool.and (aa r.a s.a) (Bool.and (aa r.b s.b) Bool.true)) (Bool.and (Bool.and (aa r.c s.c) (Bool.and (aa r.d s.d) Bool.true)) Bool.true):=rfl
     rw[l1,l2,l3,<-e]
     cases he:iQ r s with
     | false=>simp only[aD,reduceCtorEq,bA,bB,ne_eq,Bool.not_true,Bool.not_false];(repeat' first|exact trivial|refine⟨?_,?_⟩|intro)<;>first|contradiction|omega|(refine hQ _ ?_;exact ret he)
     | true=>simp only[aD,reduceCtorEq,bA,bB,ne_eq,Bool.not_true,Bool.not_false];(repeat' first|exact trivial|refine⟨?_,?_⟩|intro)<;>first|contradiction|omega|(refine hQ _ ?_;exact go he)
   · obtain rfl:i=R1.length:=by omega
     have no:=no rfl
     have l1:ab (Int.ofNat R1.length) (Int.ofNat R1.length)=true:=by rw[aK];exact Int.le_refl _
     rw[l1]
     simp only[reduceCtorEq,false_implies,true_implies,and_true,true_and,Bool.not_true,Bool.not_false]
     exact hQ _ ⟨_,_,VW.refl,no⟩
 · cases hv
theorem Qs{R1 R2:List Rn}{k k':dv}(h1:R1.length<=1000):bR Tryz.prog cfg 55 [.slice 14 0 R1.length k,.slice 15 0 R2.length k'] [.cells (aJ R1) false none,.cells (aJ R2) false none] (.int .i64 (bI (kn R1 R2))) []:=by
 refine bX aT (L:=X3 R1 R2) iM v8 (by simp) (eC Jg λi hi e he st Q hw=>?_) (ap λQ' hQ=>al ((Yo (aJ R1) (aJ R2) R1 R2 R1.length R2.length k k').mpr ?_)) (by simp[aq])
 · have hi:i=0:=by simp at hi;omega
   subst hi
   cases he
   exact cR (cV.good aT) (by decide) rfl WV hw
 · have hQ:=hQ _ rfl
   try dsimp only
   by_cases hl:R1.length=R2.length
   · have e1:aa (Int.ofNat R1.length) (Int.ofNat R2.length)=true:=aS.mpr (by rw[hl])
     have e2:Nat.ble R1.length 1000=true:=by rw[aB];exact h1
     have e3:Nat.beq R1.length R1.length=true:=dI rfl
     have e4:Nat.beq R2.length R1.length=true:=dI hl.symm
     have e5:aa (Int.ofNat R1.length) (Int.ofNat R1.length)=true:=aS.mpr rfl
     simp only[e1,e2,e3,e4,e5]
     cases he:kn R1 R2<;>rw[he]at hQ<;>simp only[reduceCtorEq,false_implies,true_implies,and_true,true_and,Bool.not_true,Bool.not_false]<;>(intros;exact hQ)
   · have e1:aa (Int.ofNat R1.length) (Int.ofNat R2.length)=false:=aF.mpr λh=>hl (Int.ofNat.inj h)
     rw[xj hl]at hQ
     simp only[e1,reduceCtorEq,false_implies,true_implies,and_true,true_and,Bool.not_true,Bool.not_false]
     exact hQ
theorem QO{R1 R2:List Rn}{k k':dv}(h1:R1.length<=1000):bR Tryz.prog cfg 77 [.slice 14 0 R1.length k,.slice 15 0 R2.length k'] [.cells (aJ R1) false none,.cells (aJ R2) false none] (.bool (kn R1 R2)) []:=by
 refine bX aT (L:=X7 R1 R2) iM wv (by simp) (eC Ik λi hi e he st Q hw=>?_) (ap λQ' hQ=>al ((Yg (aJ R1) (aJ R2) R1 R2 R1.length R2.length k k').mpr ?_)) (by simp[aq])
 · have hi:i=0:=by simp at hi;omega
   subst hi
   cases he
   exact cR (cV.good aT) (by decide) rfl VD hw
 · have hQ:=hQ _ rfl
   try dsimp only
   by_cases hl:R1.length=R2.length
   · have e1:aa (Int.ofNat R1.length) (Int.ofNat R2.length)=true:=aS.mpr (by rw[hl])
     have e2:Nat.ble R1.length 1000=true:=by rw[aB];exact h1
     have e3:Nat.beq R1.length R1.length=true:=dI rfl
     have e4:Nat.beq R2.length R1.length=true:=dI hl.symm
     have e5:aa (Int.ofNat R1.length) (Int.ofNat R1.length)=true:=aS.mpr rfl
     simp only[e1,e2,e3,e4,e5]
     cases he:kn R1 R2<;>rw[he]at hQ<;>simp only[reduceCtorEq,false_implies,true_implies,and_true,true_and,Bool.not_true,Bool.not_false]<;>(intros;exact hQ)
   · have e1:aa (Int.ofNat R1.length) (Int.ofNat R2.length)=false:=aF.mpr λh=>hl (Int.ofNat.inj h)
     rw[xj hl]at hQ
     simp only[e1,reduceCtorEq,false_implies,true_implies,and_true,true_and,Bool.not_true,Bool.not_false]
     exact hQ
end Go.Ev
end
section
set_option maxRecDepth 100000
set_option maxHeartbeats 1000000
namespace Go.Ev
open Go Go.Proofs
theorem zS{c:UInt8}{s:List UInt8}{a b:Int}:bz (c::s) a b=(if a<=(c.toNat:Int)/\(c.toNat:Int)<=b then 1 else 0)+bz s a b:=by
 unfold bz
 rw[List.filter_cons]
 by_cases h:a<=(c.toNat:Int)/\(c.toNat:Int)<=b
 · rw[if_pos h,if_pos (by simpa using h)];simp only[List.length_cons];omega
 · rw[if_neg h,if_neg (by simpa using h)];omega
theorem Df{a b:Int}:bz [] a b=0:=rfl
theorem Kf{n:Int}:(48<=(d0 n).toNat/\(d0 n).toNat<=57)/\(48<=(d1 n).toNat/\(d1 n).toNat<=57)/\(48<=(d2 n).toNat/\(d2 n).toNat<=57)/\(48<=(d3 n).toNat/\(d3 n).toNat<=57):=by
 have h0:=lD (k:=n%10000/1000) (by omega)
 have h1:=lD (k:=n%10000/100%10) (by omega)
 have h2:=lD (k:=n%10000/10%10) (by omega)
 have h3:=lD (k:=n%10000%10) (by omega)
 unfold d0 d1 d2 d3
 omega
theorem numL_lt:∀(s:List UInt8) (n:Nat),fk s=true->s.foldl (λn b=>n*10+(b.toNat-48)) n<(n+1)*10^s.length
 | [],n,_=>by simp
 | b::r,n,h=>by
   have hb:=@mg (b::r) h 0 (by simp)
   have hb:48<=b.toNat/\b.toNat<=57:=hb
   have hr:fk r=true:=by
    unfold fk at h ⊢
    rw[List.all_cons,Bool.and_eq_true]at h
    exact h.2
   have ih:=numL_lt r (n*10+(b.toNat-48)) hr
   have:(n*10+(b.toNat-48)+1)*10^r.length<=(n+1)*10^(r.length+1):=by
    rw[Nat.pow_succ,<-Nat.mul_assoc,Nat.mul_right_comm]
    exact Nat.mul_le_mul_right _ (by omega)
   exact Nat.lt_of_lt_of_le ih this
theorem JC{n z0:Int}{k:Nat}(hk:1<=k)(hz:0<=z0):∃t:List UInt8,List.take k (C8 n z0)=xc (z0%9+1)::t/\(∀c∈List.take k (C8 n z0),48<=c.toNat/\c.toNat<=57)/\(List.take k (C8 n z0)).length<=5/\(k<=5->(List.take k (C8 n z0)).length=k):=by
 obtain⟨h0,h1,h2,h3⟩:=@Kf n
 have h9:=lD (k:=z0%9+1) (by omega)
 unfold C8
 match k,hk with
 | k+1,_=>
   refine⟨List.take k [d0 n,d1 n,d2 n,d3 n],rfl,λc hc=>?_,?_,λh=>?_⟩
   · have:=List.mem_of_mem_take hc
     simp only[List.mem_cons,List.not_mem_nil,or_false]at this
     rcases this with rfl|rfl|rfl|rfl|rfl<;>first|assumption|omega
   · rw[List.length_take];exact Nat.min_le_right _ _
   · rw[List.length_take];simp only[List.length_cons,List.length_nil];omega
theorem r_{s:List UInt8}(h:∀c∈s,48<=c.toNat/\c.toNat<=57):bz s 48 57=s.length/\bz s 88 88=0:=by
 unfold bz
 rw[List.length_filter_eq_length_iff,List.length_eq_zero_iff,List.filter_eq_nil_iff]
 refine⟨λc hc=>?_,λc hc=>?_⟩
 · have:=h c hc
   simp only[Bool.and_eq_true,decide_eq_true_eq];omega
 · have:=h c hc
   simp only[Bool.and_eq_true,decide_eq_true_eq];omega
theorem EL{s:List UInt8}(h:∀c∈s,48<=c.toNat/\c.toNat<=57):fk s=true:=ol (r_ h).1
theorem oz{f n z0 z1:Int}(hz0:0<=z0/\z0<=255)(hz1:0<=z1/\z1<=255) :
 (pD f=false/\jx f z1=0/\(fN f n z0 z1).length=4/\(∀c∈fN f n z0 z1,(48<=c.toNat/\c.toNat<=57)\/c.toNat=88)/\0<=iF f n z0 z1/\iF f n z0 z1<=4/\(0<iF f n z0 z1->∀c∈fN f n z0 z1,48<=c.toNat/\c.toNat<=57))\/
 (pD f=true/\(∀c∈fN f n z0 z1,48<=c.toNat/\c.toNat<=57)/\1<=(fN f n z0 z1).length/\(fN f n z0 z1).length<=5/\((fN f n z0 z1).getD 0 0).toNat≠48/\0<=jx f z1/\jx f z1<=11/\(jx f z1=0->(fN f n z0 z1).length=5)/\0<=iF f n z0 z1/\iF f n z0 z1<=(fN f n z0 z1).length+jx f z1):=by
 obtain⟨h0,h1,h2,h3⟩:=@Kf n
 have h9:=lD (k:=z0%9+1) (by omega)
 by_cases c5:f%6=5
 · right
   have e5:aa (f%6) 5=true:=aS.mpr c5
   have e4:aa (f%6) 4=false:=aF.mpr (by omega)
   have e3:aa (f%6) 3=false:=aF.mpr (by omega)
   have key:∀(S:List UInt8) (E:Int),fN f n z0 z1=S->jx f z1=E->(∃t,S=xc (z0%9+1)::t)->(∀c∈S,48<=c.toNat/\c.toNat<=57)->S.length<=5->0<=E->E<=11->(E=0->S.length=5)->pD f=true/\(∀c∈fN f n z0 z1,48<=c.toNat/\c.toNat<=57)/\1<=(fN f n z0 z1).length/\(fN f n z0 z1).length<=5/\((fN f n z0 z1).getD 0 0).toNat≠48/\0<=jx f z1/\jx f z1<=11/\(jx f z1=0->(fN f n z0 z1).length=5)/\0<=iF f n z0 z1/\iF f n z0 z1<=(fN f n z0 z1).length+jx f z1:=by
    intro S E hS hE ⟨t,ht⟩ hd hl e0 e11 he
    have hg:iF f n z0 z1=z0/16%(Int.ofNat S.length+E+1):=by unfold iF;rw[e4,e5,hS,hE];rfl
    rw[hS,hE,hg]
    have hl1:1<=S.length:=by rw[ht];simp
    have hm:0<Int.ofNat S.length+E+1:=by have:Int.ofNat S.length=(S.length:Int):=rfl;omega
    have m0:=Int.emod_nonneg (z0/16) (show Int.ofNat S.length+E+1≠0 by omega)
    have m1:=Int.emod_lt_of_pos (z0/16) hm
    refine⟨by unfold pD;exact e5,hd,hl1,hl,?_,e0,e11,he,m0,?_⟩
    · rw[ht];show(xc (z0%9+1)).toNat≠48;omega
    · have:Int.ofNat S.length=(S.length:Int):=rfl
      omega
   by_cases c3:z1%3<=0
   · have e0:ab (z1%3) 0=true:=aK.mpr c3
     refine key (C8 n z0) 0 (by unfold fN;rw[e3,e5,e0];rfl) (by unfold jx;rw[e5,e0];rfl) ⟨_,rfl⟩ (λc hc=>?_) (Nat.le_refl _) (by omega) (by omega) (λ_=>rfl)
     unfold C8 at hc
     simp only[List.mem_cons,List.not_mem_nil,or_false]at hc
     rcases hc with rfl|rfl|rfl|rfl|rfl<;>first|assumption|omega
   · have e0:ab (z1%3) 0=false:=dc.mpr (by omega)
     obtain⟨t,t1,t2,t3,t4⟩:=@JC n z0 (1+z1%5).toNat (by omega) hz0.1
     exact key _ (1+z1/16%11) (by unfold fN;rw[e3,e5,e0];rfl) (by unfold jx;rw[e5,e0];rfl) ⟨t,t1⟩ t2 t3 (by omega) (by omega) (λh=>by omega)
 · left
   have e5:aa (f%6) 5=false:=aF.mpr c5
   have hL:pD f=false:=e5
   have hE:jx f z1=0:=by unfold jx;rw[e5];rfl
   by_cases c3:f%6=3
   · have e3:aa (f%6) 3=true:=aS.mpr c3
     have e4:aa (f%6) 4=false:=aF.mpr (by omega)
     have hS:fN f n z0 z1=SB (z0%4) (z1%4) n:=by unfold fN;rw[e3];rfl
     have hG:iF f n z0 z1=0:=by unfold iF;rw[e4,e5];rfl
     rw[hS,hG]
     refine⟨hL,hE,rfl,λc hc=>?_,by omega,by omega,λh=>by omega⟩
     unfold SB at hc
     have sp:∀(b:Bool) (d:UInt8),(48<=d.toNat/\d.toNat<=57)->(48<=(bif b then UInt8.ofNat 88 else d).toNat/\(bif b then UInt8.ofNat 88 else d).toNat<=57)\/(bif b then UInt8.ofNat 88 else d).toNat=88:=λb d hd=>by cases b;exact .inl hd;exact .inr rfl
     simp only[List.mem_cons,List.not_mem_nil,or_false]at hc
     rcases hc with rfl|rfl|rfl|rfl<;>exact sp _ _ (by assumption)
   · have e3:aa (f%6) 3=false:=aF.mpr c3
     have hS:fN f n z0 z1=[d0 n,d1 n,d2 n,d3 n]:=by unfold fN;rw[e3,e5];rfl
     have hd:∀c∈[d0 n,d1 n,d2 n,d3 n],48<=c.toNat/\c.toNat<=57:=λc hc=>by
      simp only[List.mem_cons,List.not_mem_nil,or_false]at hc
      rcases hc with rfl|rfl|rfl|rfl<;>assumption
     rw[hS]
     have hG:0<=iF f n z0 z1/\iF f n z0 z1<=4:=by
      unfold iF
      rw[e5]
      cases aa (f%6) 4<;>simp only[cond_true,cond_false]<;>omega
     exact⟨hL,hE,rfl,λc hc=>.inl (hd c hc),hG.1,hG.2,λ_=>hd⟩
theorem xF:∀{s:List UInt8},(∀c∈s,(48<=c.toNat/\c.toNat<=57)\/c.toNat=88)->bz s 48 57+bz s 88 88=s.length
 | [],_=>rfl
 | c::r,h=>by
   have ih:=xF (s:=r) λd hd=>h d (by simp[hd])
   have hc:=h c (by simp)
   rw[zS,zS,List.length_cons]
   rcases hc with hc|hc
   · rw[if_pos (by omega),if_neg (by omega)];omega
   · rw[if_neg (by omega),if_pos (by omega)];omega
theorem Fj{s:List UInt8}(h:∀c∈s,48<=c.toNat/\c.toNat<=57):bz s 88 88=0:=(r_ h).2
theorem Ae{s:List UInt8}{e:Int}(h:∀c∈s,48<=c.toNat/\c.toNat<=57)(hl:s.length<=5)(he:0<=e/\e<=11):eR s e.toNat<10000000000000000:=by
 have h1:=numL_lt s 0 (EL h)
 have h1:numL s<(0+1)*10^s.length:=h1
 have h2:(10:Nat)^s.length<=10^5:=Nat.pow_le_pow_right (by decide) hl
 have h3:(10:Nat)^e.toNat<=10^11:=Nat.pow_le_pow_right (by decide) (by omega)
 have h4:(1:Nat)<=10^e.toNat:=Nat.pos_of_ne_zero (by simp)
 have h5:numL s<10^5:=by omega
 unfold eR
 have:numL s*10^e.toNat<10^5*10^e.toNat:=Nat.mul_lt_mul_of_pos_right h5 h4
 have:(10:Nat)^5*10^e.toNat<=10^5*10^11:=Nat.mul_le_mul_left _ h3
 have:(10:Nat)^5*10^11=10000000000000000:=by decide
 omega
theorem ME{f n z0 z1:Int}(hz0:0<=z0/\z0<=255)(hz1:0<=z1/\z1<=255):bD false (pD f) (fN f n z0 z1) (jx f z1) (iF f n z0 z1)=true:=by
 unfold bD
 rw[decide_eq_true_eq]
 rcases @oz f n z0 z1 hz0 hz1 with⟨a1,a2,a3,a4,a5,a6,a7⟩|⟨a1,a2,a3,a4,a5,a6,a7,a8,a9,a10⟩
 · rw[a1,a2]
   refine⟨xF a4,a5,.inl ⟨rfl,a3,rfl,(λh=>by cases h.1),a6,λh=>?_⟩⟩
   have:=Fj (a7 h.1)
   omega
 · obtain⟨b1,b2⟩:=r_ a2
   rw[a1,b1,b2]
   refine⟨by omega,a9,.inr ⟨rfl,rfl,a3,(by omega),a5,a6,(by omega),λh=>?_,a10,?_⟩⟩
   · have:=a8 h.1;omega
   · unfold magOk;rw[aB];exact Nat.le_of_lt (Ae a2 a4 ⟨a6,a7⟩)
theorem J8{f:Int}{ng:Bool}{n z0 z1:Int}(hz0:0<=z0/\z0<=255)(hz1:0<=z1/\z1<=255):bD (p9 f ng n z0 z1) (pD f) (fN f n z0 z1) (jx f z1) (iF f n z0 z1)=true:=by
 unfold p9
 cases h:(ng&&bD ng (pD f) (fN f n z0 z1) (jx f z1) (iF f n z0 z1))with
 | false=>exact ME hz0 hz1
 | true=>
   rw[Bool.and_eq_true]at h
   obtain⟨h1,h2⟩:=h
   subst h1
   exact h2
theorem Oe{f n z0 z1:Int}(hz0:0<=z0/\z0<=255)(hz1:0<=z1/\z1<=255)(hx:bz (fN f n z0 z1) 88 88=0):eR (fN f n z0 z1) (jx f z1).toNat≠10000000000000000:=by
 have hd:∀c∈fN f n z0 z1,c.toNat≠88:=HN hx
 rcases @oz f n z0 z1 hz0 hz1 with⟨a1,a2,a3,a4,a5,a6,a7⟩|⟨a1,a2,a3,a4,a5,a6,a7,a8,a9,a10⟩
 · have:=Ae (s:=fN f n z0 z1) (e:=0) (λc hc=>(a4 c hc).resolve_right (hd c hc)) (by omega) (by omega)
   rw[a2];omega
 · have:=Ae a2 a4 ⟨a6,a7⟩
   omega
def rG(m:Int):Int:=if m=2 then 28 else if m=4\/m=6\/m=9\/m=11 then 30 else 31
theorem CF(y m:Int):rG m<=sV y m:=by
 unfold sV Go.Proofs.YtafekjglclnegaaGreatDoor.mlen rG
 have:=Go.Proofs.YtafekjglclnegaaGreatDoor.lp_01 y
 (repeat' split)<;>omega
def GQ(k:Nat):Bool:=af (vm (Int.ofNat k)) [] || (!(aa (cg (vm (Int.ofNat k))) 0) || dD (vm (Int.ofNat k)) 12)
def DN(k j:Nat):Bool:=af (vm (Int.ofNat k)) [] || (!(aa (cg (vm (Int.ofNat k))) 0) || (af (Ba (Int.ofNat j) (vm (Int.ofNat k))) [] || (dD (Ba (Int.ofNat j) (vm (Int.ofNat k))) 31&&((JI (vm (Int.ofNat k)) 12).any λm=>(JI (Ba (Int.ofNat j) (vm (Int.ofNat k))) 31).any λd=>decide (d<=rG m)))))
theorem Cr:(List.range 40).all GQ=true:=by kernel_rfl
theorem CA:(List.range 40).all (λk=>(List.range 40).all (DN k))=true:=by kernel_rfl
theorem Jq{c0 c1 c2 c3:UInt8}(h:∀c∈[c0,c1,c2,c3],(48<=c.toNat/\c.toNat<=57)\/c.toNat=88)(hx:bz [c0,c1,c2,c3] 88 88≠0):∃k:Int,1<=k/\ta c0 c1 c2 c3 k:=by
 have g0:=h c0 (by simp)
 have g1:=h c1 (by simp)
 have g2:=h c2 (by simp)
 have g3:=h c3 (by simp)
 have v:∀c:UInt8,((48<=c.toNat/\c.toNat<=57)\/c.toNat=88)->∃d:Int,0<=d/\d<=9/\(c.toNat=88\/(c.toNat:Int)=48+d)/\(c.toNat=88->d=9):=λc hc=>by
  rcases hc with hc|hc
  · exact⟨c.toNat-48,by omega,by omega,.inr (by omega),λe=>by omega⟩
  · exact⟨9,by omega,by omega,.inl hc,λ_=>rfl⟩
 obtain⟨a0,p0,q0,r0,s0⟩:=v c0 g0
 obtain⟨a1,p1,q1,r1,s1⟩:=v c1 g1
 obtain⟨a2,p2,q2,r2,s2⟩:=v c2 g2
 obtain⟨a3,p3,q3,r3,s3⟩:=v c3 g3
 have some:c0.toNat=88\/c1.toNat=88\/c2.toNat=88\/c3.toNat=88:=by
  simp only[zS,Df]at hx
  by_cases b0:c0.toNat=88
  · exact .inl b0
  · by_cases b1:c1.toNat=88
    · exact .inr (.inl b1)
    · by_cases b2:c2.toNat=88
      · exact .inr (.inr (.inl b2))
      · by_cases b3:c3.toNat=88
        · exact .inr (.inr (.inr b3))
        · rw[if_neg (by omega),if_neg (by omega),if_neg (by omega),if_neg (by omega)]at hx
          exact absurd rfl hx
 refine⟨1000*a0+100*a1+10*a2+a3,by omega,by omega,by omega,?_,?_,?_,?_⟩
 · unfold mt;rw[show(1000*a0+100*a1+10*a2+a3)/1000=a0 by omega];exact r0
 · unfold mt;rw[show(1000*a0+100*a1+10*a2+a3)/100%10=a1 by omega];exact r1
 · unfold mt;rw[show(1000*a0+100*a1+10*a2+a3)/10%10=a2 by omega];exact r2
 · unfold mt;rw[show(1000*a0+100*a1+10*a2+a3)%10=a3 by omega];exact r3
theorem ML{f:Int}{ng:Bool}{n z0 z1:Int}(hz0:0<=z0/\z0<=255)(hz1:0<=z1/\z1<=255):∃k,G6 (p9 f ng n z0 z1) (fN f n z0 z1) (jx f z1) k/\-9223372036854775808<=k:=by
 have hk:=@J8 f ng n z0 z1 hz0 hz1
 by_cases hx:bz (fN f n z0 z1) 88 88=0
 · obtain⟨he,hl,hdg,hmk,hmv⟩:=xp hk hx
   refine⟨eW (p9 f ng n z0 z1) (fN f n z0 z1) (jx f z1),?_,?_⟩
   · unfold G6;rw[hx];exact rfl
   · unfold eW;cases p9 f ng n z0 z1<;>simp only[cond_true,cond_false]<;>omega
 · rcases @oz f n z0 z1 hz0 hz1 with⟨a1,a2,a3,a4,a5,a6,a7⟩|⟨a1,a2,a3,a4,a5,a6,a7,a8,a9,a10⟩
   · generalize fN f n z0 z1=s at *
     match s,a3 with
     | [c0,c1,c2,c3],_=>
       obtain⟨k,k1,k2⟩:=Jq a4 hx
       have hb:Nat.beq (bz [c0,c1,c2,c3] 88 88) 0=false:=iH hx
       have k3:=k2.2.1
       cases p9 f ng n z0 z1 with
       | false=>exact⟨k,by unfold G6;rw[hb];exact k2,by omega⟩
       | true=>exact⟨-k,by unfold G6;rw[hb];exact⟨by omega,by rw[Int.neg_neg];exact k2⟩,by omega⟩
   · exact absurd (Fj a2) hx
theorem MB{f:Int}{ng:Bool}{n z0 z1 m d x y z:Int}(hz0:0<=z0/\z0<=255)(hz1:0<=z1/\z1<=255)(hmk:errMk x y z (cO (iI f n z0 z1 m) (kC f n z0 z1 m d))=0):cL (p9 f ng n z0 z1) (pD f) (fN f n z0 z1) (jx f z1) (iF f n z0 z1) (iI f n z0 z1 m) (kC f n z0 z1 m d) x y z=0:=by
 have hk:=@J8 f ng n z0 z1 hz0 hz1
 obtain⟨i,hi,ei⟩:∃i:Nat,i<40/\m%40=Int.ofNat i:=⟨(m%40).toNat,by omega,by show _=(((m%40).toNat:Nat):Int);omega⟩
 obtain⟨j,hj,ej⟩:∃j:Nat,j<40/\d%40=Int.ofNat j:=⟨(d%40).toNat,by omega,by show _=(((d%40).toNat:Nat):Int);omega⟩
 have cm:GQ i=true:=List.all_eq_true.1 Cr i (List.mem_range.2 hi)
 have cd:DN i j=true:=List.all_eq_true.1 (List.all_eq_true.1 CA i (List.mem_range.2 hi)) j (List.mem_range.2 hj)
 have n1:af ([]:List UInt8) []=true:=rfl
 have hmo:iI f n z0 z1 m=[]\/(iF f n z0 z1=0/\iI f n z0 z1 m=vm (Int.ofNat i)):=by
  unfold iI
  cases hg:aa (iF f n z0 z1) 0 with
  | false=>exact .inl rfl
  | true=>exact .inr ⟨aS.mp hg,by rw[cond_true,ei]⟩
 have hda:kC f n z0 z1 m d=[]\/(af (iI f n z0 z1 m) []=false/\cg (iI f n z0 z1 m)=0/\kC f n z0 z1 m d=Ba (Int.ofNat j) (iI f n z0 z1 m)):=by
  unfold kC
  cases h:(!(af (iI f n z0 z1 m) [])&&aa (cg (iI f n z0 z1 m)) 0)with
  | false=>exact .inl rfl
  | true=>
    rw[Bool.and_eq_true,Bool.not_eq_true',aS]at h
    exact .inr ⟨h.1,h.2,by rw[cond_true,ej]⟩
 have hyr:ic (p9 f ng n z0 z1) (pD f) (fN f n z0 z1) (jx f z1) (iF f n z0 z1) (iI f n z0 z1 m)=true:=by
  unfold ic
  rw[decide_eq_true_eq]
  refine⟨hk,λh=>?_,?_⟩
  · rcases hmo with e|⟨e,_⟩
    · rw[e,n1]at h;cases h.2
    · omega
  · by_cases hx:bz (fN f n z0 z1) 88 88=0
    · exact .inr (.inr λh=>Oe hz0 hz1 hx h.2.1)
    · exact .inr (.inl (by omega))
 have hM:¬(af (iI f n z0 z1 m) []=false/\cg (iI f n z0 z1 m)=0/\dD (iI f n z0 z1 m) 12=false):=λ⟨h1,h2,h3⟩=>by
  rcases hmo with e|⟨_,e⟩
  · rw[e,n1]at h1;cases h1
  · rw[e]at h1 h2 h3
    unfold GQ at cm
    rw[h1,h3,h2]at cm
    cases cm
 have hday:af (kC f n z0 z1 m d) []=false->af (iI f n z0 z1 m) []=false/\cg (iI f n z0 z1 m)=0/\dD (kC f n z0 z1 m d) 31=true/\((JI (iI f n z0 z1 m) 12).any λm'=>(JI (kC f n z0 z1 m d) 31).any λd'=>decide (d'<=rG m'))=true:=λh=>by
  rcases hda with e|⟨e1,e2,e3⟩
  · rw[e,n1]at h;cases h
  · refine⟨e1,e2,?_⟩
    rcases hmo with e|⟨_,e⟩
    · rw[e,n1]at e1;cases e1
    · rw[e]at e1 e2 e3 ⊢
      rw[e3]at h ⊢
      unfold DN at cd
      rw[e1,e2,h]at cd
      have cd:(dD (Ba (Int.ofNat j) (vm (Int.ofNat i))) 31&&((JI (vm (Int.ofNat i)) 12).any λm=>(JI (Ba (Int.ofNat j) (vm (Int.ofNat i))) 31).any λd=>decide (d<=rG m)))=true:=cd
      rw[Bool.and_eq_true]at cd
      exact cd
 have hD:¬(af (kC f n z0 z1 m d) []=false/\(af (iI f n z0 z1 m) []=true\/0<cg (iI f n z0 z1 m)\/dD (kC f n z0 z1 m d) 31=false)):=λ⟨h1,h2⟩=>by
  obtain⟨g1,g2,g3,_⟩:=hday h1
  rcases h2 with h|h|h
  · rw[g1]at h;cases h
  · omega
  · rw[g3]at h;cases h
 have hE:jM (p9 f ng n z0 z1) (pD f) (fN f n z0 z1) (jx f z1) (iF f n z0 z1) (iI f n z0 z1 m) (kC f n z0 z1 m d) x y z=0:=by
  unfold jM
  rw[if_neg (by rw[hyr];decide),if_neg hM,if_neg hD]
  exact hmk
 unfold cL
 rw[hE]
 cases hd:af (kC f n z0 z1 m d) []with
 | true=>rfl
 | false=>
   obtain⟨_,_,_,g4⟩:=hday hd
   have hF:TJ (p9 f ng n z0 z1) (fN f n z0 z1) (jx f z1) (iI f n z0 z1 m) (kC f n z0 z1 m d)=true:=by
    unfold TJ
    rw[yD hk (GM hk) hd (by decide) _ _ (Nat.le_refl _)]
    obtain⟨k,k1,k2⟩:=@ML f ng n z0 z1 hz0 hz1
    obtain⟨a,ha,g⟩:=List.any_eq_true.1 g4
    obtain⟨b,hb,g⟩:=List.any_eq_true.1 g
    exact⟨k,k1,k2,a,ha,b,hb,Int.le_trans (of_decide_eq_true g) (CF k a)⟩
   rw[hF]
   rfl
end Go.Ev
end
