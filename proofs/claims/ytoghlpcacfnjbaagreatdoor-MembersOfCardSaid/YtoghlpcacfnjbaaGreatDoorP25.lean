import Derived.Test.YtoghlpcacfnjbaaGreatDoorP24
set_option linter.all false
set_option maxRecDepth 100000
set_option maxHeartbeats 4000000
namespace Go.Ev
open Go Go.Proofs
variable{da s mo:List UInt8}{M D:List Int}{ng:Bool}{e y cy cm cd k:Int}
abbrev UW:List Nat:=[3,4,5,6,7,8,9,10,11,12,53,54,55]
def Lc(D:List Int):cz:=iz io 4 (eb 127 VD (Jx D))
def RI(y cy cm:Int)(mo:List UInt8)(m:Int):Bool:=aa y cy&&(af mo [] || aa m cm)
def nw(y m:Int)(da:List UInt8):Int:=bif af da []then 0 else bP y m
def qF(y cy cm cd:Int)(mo da:List UInt8)(D:List Int)(m:Int):Option Int:=
 bif aa y cy&&(!(af mo [])&&!(ab cm m))then none else g_ (mF da) (RI y cy cm mo m) (nw y m da) cd D
def nR(y cy cm cd:Int)(mo da:List UInt8)(D:List Int)(m:Int):Bool:=iK (qF y cy cm cd mo da D m)
def fl(y cy cm cd:Int)(mo da:List UInt8)(M D:List Int):Option Int:=M.find? (nR y cy cm cd mo da D)
def okM(da:List UInt8)(m:Int):Bool:=af da [] || (ab 1 m&&ab m 12)
def JK(M D:List Int):d9:=λvs o=>match vs,o with
 | [.ptr 16 0,.ptr 17 0,.ptr 18 0,.ptr 19 0,.bool false,.int .i64 1,.slice 14 0 n1 k1,.slice 15 0 n2 k2,.func 132 [] [.ptr 18 0],.int .i64 y,.slice 14 0 n1' k1',.int .i64 n1'',.int .i64 j],
   ⟨4,[.cells [.int .i64 0,.int .i64 0,.int .i64 0] true none,.cells [.bool true] true none,.cells [.int .i64 cy,.int .i64 cm,.int .i64 cd] true none,
   .cells [.bool ng,.bool lg,.str s,.int .i64 e,.int .i64 g,.str mo,.str da,.int .u8 a,.int .u8 b,.int .u8 c,.slice 14 0 n1a k1a,.slice 15 0 n2a k2a] true none],[]⟩=>
   some (aH [Nat.ble n1 1000,Nat.beq M.length n1,Nat.beq n1' n1,aa n1'' (Int.ofNat n1),aa j 0,Nat.ble n2 1000,Nat.beq D.length n2,ab (-10000000000000000) y,ab y 10000000000000000,M.all (okM da)]
    (.test (iK (fl y cy cm cd mo da M D)) λx=>bif x then
    .all λJ=>.ret (.ret,[.ptr 16 0,.ptr 17 0,.ptr 18 0,.ptr 19 0,.bool true,.int .i64 1,.slice 14 0 n1 k1,.slice 15 0 n2 k2,.func 132 [] [.ptr 18 0],.int .i64 y,.slice 14 0 n1' k1',.int .i64 n1'',.any (J 0)],
     ⟨4,[.cells [.int .i64 y,.int .i64 (dE (fl y cy cm cd mo da M D)),.int .i64 (dE (qF y cy cm cd mo da D (dE (fl y cy cm cd mo da M D))))] true none,.cells [.bool true] true none,.cells [.int .i64 cy,.int .i64 cm,.int .i64 cd] true none,
   .cells [.bool ng,.bool lg,.str s,.int .i64 e,.int .i64 g,.str mo,.str da,.int .u8 a,.int .u8 b,.int .u8 c,.slice 14 0 n1a k1a,.slice 15 0 n2a k2a] true none],[]⟩)
    else .ret (.exit 2,[.ptr 16 0,.ptr 17 0,.ptr 18 0,.ptr 19 0,.bool false,.int .i64 1,.slice 14 0 n1 k1,.slice 15 0 n2 k2,.func 132 [] [.ptr 18 0],.int .i64 y,.slice 14 0 n1' k1',.int .i64 n1'',.int .i64 n1''],o)))
 | _,_=>none
def Ih:((bj (lb 83 1)).getD 0 (0,.skip)).2=lb 83 2:=by kernel_rfl
def Hc:(bj (lb 83 1)).map (·.1)=[4]:=by kernel_rfl
theorem Ol(M D:List Int):qv Tryz.prog (cH cfg V2) (Cw cfg [.cells (aQ M) false none,.cells (aQ D) false none]) (Lc D) (lb 83 1):=by
 refine dv Hc λi hi e he st Q hw=>?_;have hi:i=0:=by simp at hi;omega
 subst hi;cases he;rw[Ih];exact b7 (cF.good rL) (by decide) rfl (PX (aQ M) D) hw
theorem Rw{j:Nat}(h:M.all (okM da))(hj:j<M.length):af da []=false->1<=M.getD j 0/\M.getD j 0<=12:=by
 intro hd;have hx:M.getD j 0∈M:=by
  rw[zAe,List.getElem?_eq_getElem hj];exact List.getElem_mem hj
 have:=List.all_eq_true.1 h _ hx;unfold okM at this;rw[hd,Bool.false_or,zAa,ao,ao]at this;exact this
theorem Qe(M D:List Int):cx Tryz.prog (cH cfg V2) (Cw cfg [.cells (aQ M) false none,.cells (aQ D) false none]) (lb 83 1) 127 UW (JK M D):=by
 intro vs o t Q hv hq J;unfold JK at hv;split at hv
 . rename_i n1 k1 n2 k2 y n1' k1' n1'' j cy cm cd ng lg s e g mo da a b c n1a k1a n2a k2a;cases hv;replace hq:=cL hq;obtain⟨⟨h1,h2,h3,h4,h5,h6,h7,h8,h9,h10,-⟩,hq⟩:=hq;rw[aq]at h1 h6;rw[aK]at h2 h3 h7;rw[al]at h4 h5;rw[ao]at h8 h9;subst h2 h3 h4 h5 h7;simp only[aH,Tr.wp]at hq;refine im rL rfl rfl (Ol M D) (ι:={j:Nat // j<=M.length/\∀k,k<j->nR y cy cm cd mo da D (M.getD k 0)=false}) (λx=>[.ptr 16 0,.ptr 17 0,.ptr 18 0,.ptr 19 0,.bool false,.int .i64 1,.slice 14 0 M.length k1,.slice 15 0 D.length k2,.func 132 [] [.ptr 18 0],.int .i64 y,.slice 14 0 M.length k1',.int .i64 (Int.ofNat M.length),.int .i64 (Int.ofNat x.1)])
    (λ_=>⟨4,[.cells [.int .i64 0,.int .i64 0,.int .i64 0] true none,.cells [.bool true] true none,.cells [.int .i64 cy,.int .i64 cm,.int .i64 cd] true none,.cells [.bool ng,.bool lg,.str s,.int .i64 e,.int .i64 g,.str mo,.str da,.int .u8 a,.int .u8 b,.int .u8 c,.slice 14 0 n1a k1a,.slice 15 0 n2a k2a] true none],[]⟩) (λx=>M.length-x.1) 4 (λ_=>Nat.le_refl _) (λx J=>?_) (Nat.le_refl _) (λJ=>Wk.refl ⟨⟨0,Nat.zero_le _,λk hk=>absurd hk (Nat.not_lt_zero k)⟩,J,rfl⟩) J
   obtain⟨j,hj,hp⟩:=x;dsimp only;refine jT (bA 111112140273353384422012140273353384006638111214027738220744220121402773822074056338120223000331112140227322022707442201214022732202270740562302000220405207422022404204) (R:=λQ=>(λ(G H:aE)(F u3 u9 ua ub uc ud ue uf ug ur ut uu:AV)(A N O P T u1 u2 uh ui:Bool)(u7 uq us:Int)=>(λ(I:aE)(uj uk uy:AV)(C V uv uw:Bool)(U uz:Int)(uA uB:Option Int)(B ul ux:Prop)=>(λ(Y:AV)(u4 u5 um uC:Bool)(un:Int)(W:List AV)(E uD:Prop)=>(λ(u0:Bool)(uE uF uG uH:Option Int)(Z uo up:Prop)=>(λ(u6:Prop)=>(λ(uK:Prop->Prop)=>(λ(uJ:Prop->Prop)=>(λ(uI:Prop->Prop)=>(uv->aW j M.length/\(uw->(A->A/\A/\A/\A/\(C->C/\C/\C/\C/\(u0->u0/\u0/\u0/\um=false/\C/\(u2->uI ((iK uE->(∀J1 J2:Nat->Value,Q (.ret,W,⟨4,[.cells [F,Y,.int .i64 (dE uE)] true none,I,G,H],[]⟩)))/\(iK uE=false->Z)))/\(ul->uh/\ui/\(u4->(u5->uI ((iK uF->(∀J1 J2:Nat->Value,Q (.ret,W,⟨4,[.cells [F,Y,.int .i64 (dE uF)] true none,I,G,H],[]⟩)))/\(iK uF=false->Z)))/\uo)/\up))/\(u6->u6/\u6/\u6/\um/\C/\uD))/\(E->E/\E/\E/\E/\E/\(u2->uJ ((iK uA->(∀J1 J2:Nat->Value,Q (.ret,W,⟨4,[.cells [F,Y,.int .i64 (dE uA)] true none,I,G,H],[]⟩)))/\(iK uA=false->Z)))/\(ul->uh/\ui/\(u4->(u5->uJ ((iK uG->(∀J1 J2:Nat->Value,Q (.ret,W,⟨4,[.cells [F,Y,.int .i64 (dE uG)] true none,I,G,H],[]⟩)))/\(iK uG=false->Z)))/\uo)/\up)))/\(B->B/\B/\B/\B/\(u2->uK ((iK uB->(∀J1 J2:Nat->Value,Q (.ret,W,⟨4,[.cells [F,Y,.int .i64 (dE uB)] true none,I,G,H],[]⟩)))/\(iK uB=false->Z)))/\(ul->uh/\ui/\(u4->(u5->uK ((iK uH->(∀J1 J2:Nat->Value,Q (.ret,W,⟨4,[.cells [F,Y,.int .i64 (dE uH)] true none,I,G,H],[]⟩)))/\(iK uH=false->Z)))/\uo)/\up)))/\(uw=false->False))/\(uv=false->Q (.exit 2,[u9,ua,u3,ub,uu,uc,ud,ue,uj,F,uf,uk,uy],⟨4,[.cells [ug,ug,ug] true none,I,G,H],[]⟩))) (λuL=>A/\A/\A/\A/\A/\C/\C/\C/\C/\A/\ux/\A/\N/\O/\P/\V/\uL)) (λuL=>A/\A/\A/\A/\A/\E/\E/\E/\E/\A/\u1/\A/\N/\O/\P/\V/\uL)) (λuL=>B/\B/\B/\B/\B/\B/\B/\N/\O/\P/\V/\uL)) (u0=false)) (not um) (g_ T uC 0 cd D) (g_ T uC un cd D) (g_ T true un cd D) (g_ T false un cd D) (∀J1:Nat->Value,uD) (u5=false->False) (u4=false->False)) (.int .i64 U) (ab 1 U) (ab U 12) (not (ab cm U)) (aa U cm) (bP y U) [u9,ua,u3,ub,ut,uc,ud,ue,uj,F,uf,uk,uy] (C=false) (ae .i64 uz/\Q (.normal,[u9,ua,u3,ub,uu,uc,ud,ue,uj,F,uf,uk,.int .i64 uz],⟨4,[.cells [ug,ug,ug] true none,I,G,H],[]⟩))) (.cells [ut] true none) (.func 132 [] [u3]) (.int .i64 uq) (.int .i64 u7) (not u1) (aa us us) (not (ab uq u7)) (cq .i64 ur) (bC ur) (Int.add u7 1) (g_ T true 0 cd D) (g_ T false 0 cd D) (A=false) (u2=false) (u1=false)) (.cells [.int .i64 cy,.int .i64 cm,.int .i64 cd] true none) (.cells [.bool ng,.bool lg,.str s,.int .i64 e,.int .i64 g,.str mo,.str da,.int .u8 a,.int .u8 b,.int .u8 c,.slice 14 0 n1a k1a,.slice 15 0 n2a k2a] true none) (.int .i64 y) (.ptr 18 0) (.ptr 16 0) (.ptr 17 0) (.ptr 19 0) (.int .i64 1) (.slice 14 0 M.length k1) (.slice 15 0 D.length k2) (.slice 14 0 M.length k1') (.int .i64 0) (List.getD (aQ M) (HAdd.hAdd 0 (HMul.hMul j 1)) (.tuple [])) (.bool true) (.bool false) (aa y cy) (Nat.ble D.length 1000) (Nat.beq D.length D.length) (Nat.beq D.length D.length) (mF da) (af mo []) (af da []) (ab (Neg.neg 10000000000000000) y) (ab y 10000000000000000) (Int.ofNat j) (Int.ofNat M.length) (Int.ofNat D.length)) (λ_=>by kernel_rfl) λQ' hQ=>?_;try dsimp only
   have yes:j<M.length->nR y cy cm cd mo da D (M.getD j 0)->∀J:Nat->Value,Q (.ret,[.ptr 16 0,.ptr 17 0,.ptr 18 0,.ptr 19 0,.bool true,.int .i64 1,.slice 14 0 M.length k1,.slice 15 0 D.length k2,.func 132 [] [.ptr 18 0],.int .i64 y,.slice 14 0 M.length k1',.int .i64 (Int.ofNat M.length),.any (J 0)],
    ⟨4,[.cells [.int .i64 y,.int .i64 (M.getD j 0),.int .i64 (dE (qF y cy cm cd mo da D (M.getD j 0)))] true none,.cells [.bool true] true none,.cells [.int .i64 cy,.int .i64 cm,.int .i64 cd] true none,.cells [.bool ng,.bool lg,.str s,.int .i64 e,.int .i64 g,.str mo,.str da,.int .u8 a,.int .u8 b,.int .u8 c,.slice 14 0 n1a k1a,.slice 15 0 n2a k2a] true none],[]⟩):=λhlt hpick J2=>by
    have hf:fl y cy cm cd mo da M D=some (M.getD j 0):=Ar hlt hp hpick;rw[hf]at hq;exact hq J2
   have no:¬j<M.length->Q (.exit 2,[.ptr 16 0,.ptr 17 0,.ptr 18 0,.ptr 19 0,.bool false,.int .i64 1,.slice 14 0 M.length k1,.slice 15 0 D.length k2,.func 132 [] [.ptr 18 0],.int .i64 y,.slice 14 0 M.length k1',.int .i64 (Int.ofNat M.length),.int .i64 (Int.ofNat M.length)],
    ⟨4,[.cells [.int .i64 0,.int .i64 0,.int .i64 0] true none,.cells [.bool true] true none,.cells [.int .i64 cy,.int .i64 cm,.int .i64 cd] true none,.cells [.bool ng,.bool lg,.str s,.int .i64 e,.int .i64 g,.str mo,.str da,.int .u8 a,.int .u8 b,.int .u8 c,.slice 14 0 n1a k1a,.slice 15 0 n2a k2a] true none],[]⟩):=λhge=>by
    have hf:fl y cy cm cd mo da M D=none:=zG λk hk=>hp k (by omega);rw[hf]at hq;exact hq
   have next:nR y cy cm cd mo da D (M.getD j 0)=false->∀k,k<j+1->nR y cy cm cd mo da D (M.getD k 0)=false:=λh k hk=>by
    by_cases e:k=j
    . subst e;exact h
    . exact hp k (by omega)
   by_cases hlt:j<M.length
   . rw[qT hlt];have hok:=Rw h10 hlt;have yes:=yes hlt;clear no hq hp h10;have hmon:qF y cy cm cd mo da D (M.getD j 0)=(bif aa y cy&&(!(af mo [])&&!(ab cm (M.getD j 0)))then none else g_ (mF da) (aa y cy&&(af mo [] || aa (M.getD j 0) cm)) (bif af da []then 0 else bP y (M.getD j 0)) cd D):=rfl;rw[show nR y cy cm cd mo da D (M.getD j 0)=iK (qF y cy cm cd mo da D (M.getD j 0))from rfl]at yes next;generalize qF y cy cm cd mo da D (M.getD j 0)=mm at *;generalize M.getD j 0=m at *;simp only[cq,bC,gN,kS];generalize aa y cy=E at *;generalize af mo []=Bm at *;generalize ab cm m=Lm at *;generalize af da []=Bd at *;cases E<;>cases Bm<;>cases Lm<;>cases Bd<;>simp only[zAi,Bool.false_and,Bool.and_false,Bool.true_or,Bool.false_or,zAj]at hmon<;>subst hmon<;>simp only[az,reduceCtorEq]<;>(repeat' first|exact trivial|refine⟨?_,?_⟩|intro)<;>first|contradiction|omega|assumption|(exfalso;have:=hok rfl;omega)|refine hQ _ ?_
     all_goals first
      | exact⟨_,_,VW.any (.same (.same (.same (.same (.same (.same (.same (.same (.same (.same (.same (.same (.int .nil))))))))))))) rfl,yes (by assumption) (jv [_])⟩
      | exact⟨⟨j+1,by omega,next (by first|assumption|rfl)⟩,by dsimp only;omega,VW.of_eq rfl rfl⟩
   . obtain rfl:j=M.length:=by omega
     have no2:=no hlt;simp only[az,reduceCtorEq]
     (repeat' first|exact trivial|refine⟨?_,?_⟩|intro)<;>first|omega|assumption|(exfalso;omega)|(refine hQ _ ?_;exact⟨_,_,VW.refl,no2⟩)
 . cases hv
abbrev Ue:List Nat:=[3,4,5,6,7,8,9,10,11,12,13]
def Lb(M D:List Int):cz:=iz io 2 (eb 127 UW (JK M D))
def xY(ng:Bool)(s:List UInt8)(e cy cm cd:Int)(mo da:List UInt8)(M D:List Int):Nat->Int->Bool->Option (Int×Int×Int)
 | 0,_,_=>none
 | f+1,y,ok=>bif ok then(match fl y cy cm cd mo da M D with
   | some m=>some (y,m,dE (qF y cy cm cd mo da D m))
   | none=>xY ng s e cy cm cd mo da M D f (yV ng s e (y+1) true) (yB ng s e (y+1) true))else none
def DP(y:Int)(ok:Bool):Nat:=bif ok then(10000000000000001-y).toNat+1 else 0
def cP(ng:Bool)(s:List UInt8)(e cy cm cd:Int)(mo da:List UInt8)(M D:List Int)(y:Int)(ok:Bool):Option (Int×Int×Int):=xY ng s e cy cm cd mo da M D (DP y ok+1) y ok
def wh(x:Option (Int×Int×Int)):Bool:=x.isSome
def p1(x:Option (Int×Int×Int)):Int:=(x.getD (0,0,0)).1
def p2(x:Option (Int×Int×Int)):Int:=(x.getD (0,0,0)).2.1
def p3(x:Option (Int×Int×Int)):Int:=(x.getD (0,0,0)).2.2
def Lr(M D:List Int):d9:=λvs o=>match vs,o with
 | [.ptr 16 0,.ptr 17 0,.ptr 18 0,.ptr 19 0,.bool false,.int .i64 1,.slice 14 0 n1 k1,.slice 15 0 n2 k2,.func 132 [] [.ptr 18 0],.int .i64 y,.bool ok],
   ⟨4,[.cells [.int .i64 0,.int .i64 0,.int .i64 0] true none,.cells [.bool true] true none,.cells [.int .i64 cy,.int .i64 cm,.int .i64 cd] true none,.cells [.bool ng,.bool lg,.str s,.int .i64 e,.int .i64 g,.str mo,.str da,.int .u8 a,.int .u8 b,.int .u8 c,.slice 14 0 n1' k1a,.slice 15 0 n2' k2a] true none],[]⟩=>
   some (aH [Nat.ble n1 1000,Nat.beq M.length n1,Nat.ble n2 1000,Nat.beq D.length n2,M.all (okM da),aZ ng lg s e g,Nat.ble s.length 1000,k_ s,ab (-10000000000000000) y,ab y 10000000000000000,Nat.beq n1' n1,Nat.beq n2' n2]
    (.test (wh (cP ng s e cy cm cd mo da M D y ok)) λx=>bif x then
    .all λJ=>.ret (.ret,[.ptr 16 0,.ptr 17 0,.ptr 18 0,.ptr 19 0,.bool true,.int .i64 1,.slice 14 0 n1 k1,.slice 15 0 n2 k2,.func 132 [] [.ptr 18 0],.any (J 0),.any (J 1)],
     ⟨4,[.cells [.int .i64 (p1 (cP ng s e cy cm cd mo da M D y ok)),.int .i64 (p2 (cP ng s e cy cm cd mo da M D y ok)),.int .i64 (p3 (cP ng s e cy cm cd mo da M D y ok))] true none,.cells [.bool true] true none,.cells [.int .i64 cy,.int .i64 cm,.int .i64 cd] true none,.cells [.bool ng,.bool lg,.str s,.int .i64 e,.int .i64 g,.str mo,.str da,.int .u8 a,.int .u8 b,.int .u8 c,.slice 14 0 n1' k1a,.slice 15 0 n2' k2a] true none],[]⟩)
    else .all λJ=>.ret (.exit 0,[.ptr 16 0,.ptr 17 0,.ptr 18 0,.ptr 19 0,.bool false,.int .i64 1,.slice 14 0 n1 k1,.slice 15 0 n2 k2,.func 132 [] [.ptr 18 0],.any (J 0),.bool false],o)))
 | _,_=>none
theorem cZ{M:List Int}:bw 14 (aQ M)=true:=by
 unfold bw aQ;rw[List.all_map];exact List.all_eq_true.2 λx _=>rfl
theorem ta{M:List Int}:cN (aQ M) 0 (M.length*1)=aQ M:=by
 unfold cN;rw[List.drop_zero,Nat.mul_one];exact List.take_of_length_le (by unfold aQ;rw[List.length_map];exact Nat.le_refl _)
theorem dF:(aQ M).length=M.length:=by unfold aQ;rw[List.length_map]
theorem iD(hy:y<=10000000000000000):DP (yV ng s e (y+1) true) (yB ng s e (y+1) true)<DP y true:=by
 unfold DP;cases h:yB ng s e (y+1) true with
 | true=>have:=Vy h;simp only[cond_true];omega
 | false=>simp only[zAj];omega
theorem yH{ng:Bool}{s:List UInt8}{lg:Bool}{e g cy cm cd:Int}{mo da:List UInt8}{M D:List Int}(ho:aZ ng lg s e g):∀(f f':Nat) (y:Int) (ok:Bool),y<=10000000000000000->DP y ok<f->DP y ok<f'->xY ng s e cy cm cd mo da M D f y ok=xY ng s e cy cm cd mo da M D f' y ok
 | 0,_,_,_,_,h,_=>absurd h (Nat.not_lt_zero _)
 | _+1,0,_,_,_,_,h=>absurd h (Nat.not_lt_zero _)
 | f+1,f'+1,y,ok,hy,h1,h2=>by
   unfold xY;cases ok with
   | false=>rfl
   | true=>
     rw[cond_true,cond_true];have hm:=iD (ng:=ng) (s:=s) (e:=e) hy;cases fl y cy cm cd mo da M D with
     | some m=>rfl
     | none=>exact yH ho f f' _ _ (i7 ho).2 (by omega) (by omega)
theorem ja:cP ng s e cy cm cd mo da M D y false=none:=rfl
theorem mD{m:Int}(h:fl y cy cm cd mo da M D=some m):cP ng s e cy cm cd mo da M D y true=some (y,m,dE (qF y cy cm cd mo da D m)):=by
 unfold cP xY;rw[h];rfl
theorem mJ{lg:Bool}{g:Int}(ho:aZ ng lg s e g)(hy:y<=10000000000000000)(h:fl y cy cm cd mo da M D=none):cP ng s e cy cm cd mo da M D y true=cP ng s e cy cm cd mo da M D (yV ng s e (y+1) true) (yB ng s e (y+1) true):=by
 have hm:=iD (ng:=ng) (s:=s) (e:=e) hy;unfold cP;rw[xY,h];exact yH ho _ _ _ _ (i7 ho).2 (by omega) (by omega)
def GZ:((bj (lb 83 0)).getD 0 (0,.skip)).2=lb 83 1:=by kernel_rfl
def D_:(bj (lb 83 0)).map (·.1)=[2,4]:=by kernel_rfl
theorem MH(M D:List Int):qv Tryz.prog (cH cfg V2) (Cw cfg [.cells (aQ M) false none,.cells (aQ D) false none]) (Lb M D) (lb 83 0):=by
 refine dv D_ λi hi e he st Q hw=>?_;have hi:i=0\/i=1:=by simp at hi;omega
 rcases hi with rfl|rfl
 . cases he;rw[GZ];exact b7 (cF.good rL) (by decide) rfl (Qe M D) hw
 . cases he
theorem Pl(M D:List Int):cx Tryz.prog (cH cfg V2) (Cw cfg [.cells (aQ M) false none,.cells (aQ D) false none]) (lb 83 0) 127 Ue (Lr M D):=by
 intro vs o t Q hv hq J;unfold Lr at hv;split at hv
 . rename_i n1 k1 n2 k2 y ok cy cm cd ng lg s e g mo da a b c n1' k1a n2' k2a;cases hv;replace hq:=cL hq;obtain⟨⟨h1,h2,h3,h4,h5,h6,h7,h8,h9,h10,h11,h12,-⟩,hq⟩:=hq;rw[aq]at h1 h3 h7;rw[aK]at h2 h4 h11 h12;rw[ao]at h9 h10;subst h2 h4 h11 h12;simp only[aH,Tr.wp]at hq;refine im rL rfl rfl (MH M D) (ι:={x:Int×Bool // (-10000000000000000<=x.1/\x.1<=10000000000000000)/\cP ng s e cy cm cd mo da M D y ok=cP ng s e cy cm cd mo da M D x.1 x.2}) (λx=>[.ptr 16 0,.ptr 17 0,.ptr 18 0,.ptr 19 0,.bool false,.int .i64 1,.slice 14 0 M.length k1,.slice 15 0 D.length k2,.func 132 [] [.ptr 18 0],.int .i64 x.1.1,.bool x.1.2])
    (λ_=>⟨4,[.cells [.int .i64 0,.int .i64 0,.int .i64 0] true none,.cells [.bool true] true none,.cells [.int .i64 cy,.int .i64 cm,.int .i64 cd] true none,.cells [.bool ng,.bool lg,.str s,.int .i64 e,.int .i64 g,.str mo,.str da,.int .u8 a,.int .u8 b,.int .u8 c,.slice 14 0 M.length k1a,.slice 15 0 D.length k2a] true none],[]⟩) (λx=>DP x.1.1 x.1.2) 4 (λ_=>Nat.le_refl _) (λx J=>?_) (Nat.le_refl _) (λJ=>Wk.refl ⟨⟨(y,ok),⟨h9,h10⟩,rfl⟩,J,rfl⟩) J
   obtain⟨⟨z,zk⟩,hz,hs⟩:=x;dsimp only at hz hs ⊢;refine jT (bA 11277020006142270274) (R:=λQ=>(λ(W Y:aE)(A B C E F G H I O V u1:AV)(N T:Int)(Z u0:Nat)(U:Option Int)=>(λ(u2:aE)(P:AV)(u3 u4 u5:Bool)=>(zk->Nat.ble M.length 1000/\Nat.beq M.length M.length/\Nat.beq M.length M.length/\aa T T/\Nat.ble D.length 1000/\Nat.beq D.length D.length/\ab (Neg.neg 10000000000000000) z/\ab z 10000000000000000/\List.all M (okM da)/\(iK U->(∀J1 J2:Nat->Value,Q (.ret,[B,C,A,E,V,F,G,H,P,I,AV.any (J2 13)],⟨4,[.cells [I,.int .i64 (dE U),.int .i64 (dE (qF z cy cm cd mo da D (dE U)))] true none,u2,W,Y],[]⟩)))/\(iK U=false->(∀J1:Nat->Value,u3/\and (and true (and (Nat.ble (HAdd.hAdd 0 Z) (aQ M).length) u4)) (and (Nat.ble (HAdd.hAdd 0 u0) (aQ D).length) u5)/\u4/\u5/\u3/\aZ ng lg s e g/\Nat.ble s.length 1000/\k_ s/\Q (.normal,[B,C,A,E,u1,F,G,H,P,.int .i64 (yV ng s e N true),.bool (yB ng s e N true)],⟨4,[.cells [O,O,O] true none,u2,W,Y],[]⟩))))/\(zk=false->Q (.exit 0,[B,C,A,E,u1,F,G,H,P,I,.bool zk],⟨4,[.cells [O,O,O] true none,u2,W,Y],[]⟩))) (.cells [V] true none) (.func 132 [] [A]) (ae .i64 N) (bw 14 (cN (aQ M) 0 Z)) (bw 14 (cN (aQ D) 0 u0))) (.cells [.int .i64 cy,.int .i64 cm,.int .i64 cd] true none) (.cells [.bool ng,.bool lg,.str s,.int .i64 e,.int .i64 g,.str mo,.str da,.int .u8 a,.int .u8 b,.int .u8 c,.slice 14 0 M.length k1a,.slice 15 0 D.length k2a] true none) (.ptr 18 0) (.ptr 16 0) (.ptr 17 0) (.ptr 19 0) (.int .i64 1) (.slice 14 0 M.length k1) (.slice 15 0 D.length k2) (.int .i64 z) (.int .i64 0) (.bool true) (.bool false) (Int.add z 1) (Int.ofNat M.length) (HMul.hMul M.length 1) (HMul.hMul D.length 1) (fl z cy cm cd mo da M D)) (λ_=>by kernel_rfl) λQ' hQ=>?_;try dsimp only
   have hs':=hs;rw[hs]at hq;clear hs h9 h10;cases zk with
   | false=>
     rw[ja]at hq;have hq:∀J:Nat->Value,Q (.exit 0,[.ptr 16 0,.ptr 17 0,.ptr 18 0,.ptr 19 0,.bool false,.int .i64 1,.slice 14 0 M.length k1,.slice 15 0 D.length k2,.func 132 [] [.ptr 18 0],.any (J 0),.bool false],⟨4,[.cells [.int .i64 0,.int .i64 0,.int .i64 0] true none,.cells [.bool true] true none,.cells [.int .i64 cy,.int .i64 cm,.int .i64 cd] true none,.cells [.bool ng,.bool lg,.str s,.int .i64 e,.int .i64 g,.str mo,.str da,.int .u8 a,.int .u8 b,.int .u8 c,.slice 14 0 M.length k1a,.slice 15 0 D.length k2a] true none],[]⟩):=hq;simp only[az,reduceCtorEq]
     (repeat' first|exact trivial|refine⟨?_,?_⟩|intro)<;>first|contradiction|omega|assumption|refine hQ _ ?_
     all_goals exact⟨_,_,VW.any (.same (.same (.same (.same (.same (.same (.same (.same (.same (.int (.same .nil))))))))))) rfl,hq (jv [_])⟩
   | true=>
     have yes:∀m,fl z cy cm cd mo da M D=some m->∀J:Nat->Value,Q (.ret,[.ptr 16 0,.ptr 17 0,.ptr 18 0,.ptr 19 0,.bool true,.int .i64 1,.slice 14 0 M.length k1,.slice 15 0 D.length k2,.func 132 [] [.ptr 18 0],.any (J 0),.any (J 1)],⟨4,[.cells [.int .i64 z,.int .i64 m,.int .i64 (dE (qF z cy cm cd mo da D m))] true none,.cells [.bool true] true none,.cells [.int .i64 cy,.int .i64 cm,.int .i64 cd] true none,.cells [.bool ng,.bool lg,.str s,.int .i64 e,.int .i64 g,.str mo,.str da,.int .u8 a,.int .u8 b,.int .u8 c,.slice 14 0 M.length k1a,.slice 15 0 D.length k2a] true none],[]⟩):=λm hf J2=>by
      rw[mD hf]at hq;exact hq J2
     have next:fl z cy cm cd mo da M D=none->cP ng s e cy cm cd mo da M D y ok=cP ng s e cy cm cd mo da M D (yV ng s e (z+1) true) (yB ng s e (z+1) true):=λhf=>hs'.trans (mJ h6 hz.2 hf);clear hq;have hmu:=iD (ng:=ng) (s:=s) (e:=e) hz.2;have hbn:=i7 (n:=z+1) (up:=true) h6;have hb1:bw 14 (cN (aQ M) 0 (M.length*1))=true:=by rw[ta];exact cZ
     have hb2:bw 14 (cN (aQ D) 0 (D.length*1))=true:=by rw[ta];exact cZ
     have hc1:Nat.ble (0+M.length*1) (aQ M).length=true:=by rw[dF];simp
     have hc2:Nat.ble (0+D.length*1) (aQ D).length=true:=by rw[dF];simp
     simp only[hb1,hb2,hc1,hc2,Bool.and_true,Bool.true_and];cases hf:fl z cy cm cd mo da M D with
     | some m=>
       have yes:=yes m hf;clear next;simp only[iK,dE,Option.isSome_some,Option.getD_some];simp only[az,reduceCtorEq]
       (repeat' first|exact trivial|refine⟨?_,?_⟩|intro)<;>first|contradiction|omega|assumption|refine hQ _ ?_
       all_goals exact⟨_,_,VW.any (.same (.same (.same (.same (.same (.same (.same (.same (.same (.int (.same .nil))))))))))) rfl,yes (jv [_,_])⟩
     | none=>
       have next:=next hf;clear yes;simp only[iK,dE,Option.isSome_none];simp only[az,reduceCtorEq]
       (repeat' first|exact trivial|refine⟨?_,?_⟩|intro)<;>first|contradiction|omega|assumption|refine hQ _ ?_
       all_goals exact⟨⟨(_,_),hbn,next⟩,hmu,VW.of_eq rfl rfl⟩
 . cases hv
def La(M D:List Int):cz:=iz io 0 (eb 127 Ue (Lr M D))
theorem Mr(M D:List Int):qv Tryz.prog (cH cfg V2) (Cw cfg [.cells (aQ M) false none,.cells (aQ D) false none]) (La M D) (aN 83):=by
 refine dv LT λi hi e he st Q hw=>?_;have hi:i=0\/i=1\/i=2:=by simp at hi;omega
 rcases hi with rfl|rfl|rfl
 . cases he;exact b7 (cF.good rL) (by decide) rfl (Pl M D) hw
 . cases he
 . cases he
theorem VA{x:Option (Int×Int×Int)}(h:wh x=false):p1 x=0/\p2 x=0/\p3 x=0:=by
 cases x with
 | none=>exact⟨rfl,rfl,rfl⟩
 | some u=>cases h
theorem Wx{lg:Bool}{g:Int}{a b c:Int}{k1 k2:eZ}(h1:M.length<=1000)(h2:D.length<=1000)(hA:M.all (okM da))(ho:aZ ng lg s e g)(hs:s.length<=1000)(hx:k_ s)(hy : -9223372036854775808<=cy/\cy<=9223372036854775807) :
 bt Tryz.prog cfg 83 [.agg [.bool ng,.bool lg,.str s,.int .i64 e,.int .i64 g,.str mo,.str da,.int .u8 a,.int .u8 b,.int .u8 c,.slice 14 0 M.length k1,.slice 15 0 D.length k2],.agg [.int .i64 cy,.int .i64 cm,.int .i64 cd],.bool true] [.cells (aQ M) false none,.cells (aQ D) false none] (.tuple [.agg [.int .i64 (p1 (cP ng s e cy cm cd mo da M D (yV ng s e cy true) (yB ng s e cy true))),.int .i64 (p2 (cP ng s e cy cm cd mo da M D (yV ng s e cy true) (yB ng s e cy true))),.int .i64 (p3 (cP ng s e cy cm cd mo da M D (yV ng s e cy true) (yB ng s e cy true)))],.bool (wh (cP ng s e cy cm cd mo da M D (yV ng s e cy true) (yB ng s e cy true)))]) []:=by
 refine pK rL (L:=La M D) (λx hx=>?_) (Mr M D) (bA 1014277777766) (R:=λQ=>(λ(C:AV)(G H:Bool)(B:Int)(E F:Nat)=>(λ(I N:Bool)(A:Option (Int×Int×Int))=>and (and true (and (Nat.ble (HAdd.hAdd 0 E) (aQ M).length) I)) (and (Nat.ble (HAdd.hAdd 0 F) (aQ D).length) N)/\I/\N/\ae .i64 cy/\G/\H/\k_ s/\Nat.ble M.length 1000/\Nat.beq M.length M.length/\Nat.ble D.length 1000/\Nat.beq D.length D.length/\List.all M (okM da)/\G/\H/\k_ s/\ab (Neg.neg 10000000000000000) B/\ab B 10000000000000000/\Nat.beq M.length M.length/\Nat.beq D.length D.length/\(wh A->(∀J1 J2:Nat->Value,Q (.tuple [.agg [.int .i64 (p1 A),.int .i64 (p2 A),.int .i64 (p3 A)],.bool true])))/\(wh A=false->(∀J1 J2:Nat->Value,Q (.tuple [.agg [C,C,C],.bool false])))) (bw 14 (cN (aQ M) 0 E)) (bw 14 (cN (aQ D) 0 F)) (cP ng s e cy cm cd mo da M D B (yB ng s e cy true))) (.int .i64 0) (aZ ng lg s e g) (Nat.ble s.length 1000) (yV ng s e cy true) (HMul.hMul M.length 1) (HMul.hMul D.length 1)) (λ_=>by kernel_rfl) λQ' hQ=>?_
 . simp only[List.mem_cons,List.not_mem_nil,or_false]at hx;rcases hx with rfl|rfl
   . exact ki cZ
   . exact ki cZ
 . have hb1:bw 14 (cN (aQ M) 0 (M.length*1))=true:=by rw[ta];exact cZ
   have hb2:bw 14 (cN (aQ D) 0 (D.length*1))=true:=by rw[ta];exact cZ
   have hc1:Nat.ble (0+M.length*1) (aQ M).length=true:=by rw[dF];simp
   have hc2:Nat.ble (0+D.length*1) (aQ D).length=true:=by rw[dF];simp
   have hbn:=i7 (n:=cy) (up:=true) ho;simp only[hb1,hb2,hc1,hc2,Bool.and_true,Bool.true_and];have fin:∀v,v=(.tuple [.agg [.int .i64 (p1 (cP ng s e cy cm cd mo da M D (yV ng s e cy true) (yB ng s e cy true))),.int .i64 (p2 (cP ng s e cy cm cd mo da M D (yV ng s e cy true) (yB ng s e cy true))),.int .i64 (p3 (cP ng s e cy cm cd mo da M D (yV ng s e cy true) (yB ng s e cy true)))],.bool (wh (cP ng s e cy cm cd mo da M D (yV ng s e cy true) (yB ng s e cy true)))])->Q' v:=λv hv=>hQ _ hv;generalize (cP ng s e cy cm cd mo da M D (yV ng s e cy true) (yB ng s e cy true))=r at *;have hf:=@VA r;cases hr:wh r with
   | true=>
     rw[hr]at fin;simp only[az,reduceCtorEq]
     (repeat' first|exact trivial|refine⟨?_,?_⟩|intro)<;>first|contradiction|omega|assumption|exact fin _ rfl
   | false=>
     obtain⟨e1,e2,e3⟩:=hf hr;rw[hr,e1,e2,e3]at fin;simp only[az,reduceCtorEq]
     (repeat' first|exact trivial|refine⟨?_,?_⟩|intro)<;>first|contradiction|omega|assumption|exact fin _ rfl
def gE(w:List AV):List Int:=w.map bC
theorem kA{w:List AV}(h:w.all (cq .i64)):aQ (gE w)=w:=by
 unfold aQ gE;rw[List.map_map];refine(List.map_congr_left λx hx=>?_).trans (List.map_id w);have:=List.all_eq_true.1 h x hx;cases x with
 | int k n=>cases k<;>first|rfl|cases this
 | _=>cases this
theorem vQ{w:List AV}:(gE w).length=w.length:=by unfold gE;rw[List.length_map]
def mN(da:List UInt8)(M:List Int):Bool:=M.all (okM da)
def Pt:lB:=λargs ws=>match args,ws with
 | [.agg [.bool ng,.bool lg,.str s,.int .i64 e,.int .i64 g,.str mo,.str da,.int .u8 a,.int .u8 b,.int .u8 c,.slice 14 0 n1 k1,.slice 15 0 n2 k2],.agg [.int .i64 cy,.int .i64 cm,.int .i64 cd],.bool true],[.cells w1 false none,.cells w2 false none]=>
   some (aH [w1.all (cq .i64),w2.all (cq .i64),Nat.beq w1.length n1,Nat.beq w2.length n2,Nat.ble n1 1000,Nat.ble n2 1000,mN da (gE w1),ae .i64 cy,aZ ng lg s e g,Nat.ble s.length 1000,k_ s] (.ret ((.tuple [.agg [.int .i64 (p1 (cP ng s e cy cm cd mo da (gE w1) (gE w2) (yV ng s e cy true) (yB ng s e cy true))),.int .i64 (p2 (cP ng s e cy cm cd mo da (gE w1) (gE w2) (yV ng s e cy true) (yB ng s e cy true))),.int .i64 (p3 (cP ng s e cy cm cd mo da (gE w1) (gE w2) (yV ng s e cy true) (yB ng s e cy true)))],.bool (wh (cP ng s e cy cm cd mo da (gE w1) (gE w2) (yV ng s e cy true) (yB ng s e cy true)))]),[])))
 | _,_=>none
theorem Rt{S:aR}(hS:ak Tryz.prog cfg S):ak Tryz.prog cfg (fw S 83 (fy 14 [1,1] Pt)):=by
 refine bm hS (ga dG.lv AD λargs ws t r he hr=>?_);unfold Pt at he;split at he
 . rename_i ng lg s e g mo da a b c n1 k1 n2 k2 cy cm cd w1 w2;cases he;replace hr:=aF hr;obtain⟨⟨h1,h2,h3,h4,h5,h6,h7,h8,h9,h10,h11,-⟩,hr⟩:=hr;rw[aK]at h3 h4;rw[aq]at h5 h6 h10;rw[IH]at h8;subst h3 h4;cases hr;have key:=Wx (g:=g) (mo:=mo) (da:=da) (a:=a) (b:=b) (c:=c) (k1:=k1) (k2:=k2) (cy:=cy) (cm:=cm) (cd:=cd) (M:=gE w1) (D:=gE w2) (by rw[vQ];exact h5) (by rw[vQ];exact h6) h7 h9 h10 h11 h8;rw[kA h1,kA h2,vQ,vQ]at key;exact⟨key,λx hx=>by cases hx⟩
 . cases he
def rl(ng:Bool)(s:List UInt8)(e k:Int):Prop:=bif Nat.beq (aT s 88 88) 0 then k=d8 ng s e else match s with|[c0,c1,c2,c3]=>(bif ng then 1<=-k/\nk c0 c1 c2 c3 (-k)else nk c0 c1 c2 c3 k)|_=>False
def Lu(M D:List Int)(k:Int):Prop:=∃m,m∈M/\∃d,d∈D/\d<=bP k m
theorem xy{n:Int}:yB ng s e n true->rl ng s e (yV ng s e n true)/\n<=yV ng s e n true/\∀k,rl ng s e k->n<=k->yV ng s e n true<=k:=by
 intro h;unfold yB at h;unfold yV rl;cases hx:Nat.beq (aT s 88 88) 0 with
 | true=>
   rw[hx]at h;simp only[cond_true]at h ⊢;rw[ao]at h;exact⟨trivial,h,λk hk _=>by omega⟩
 | false=>
   rw[hx,cond_false]at h;simp only[cond_false];split at h
   . rename_i c0 c1 c2 c3;simp only;unfold MK at h;unfold MV;cases ng with
     | true=>
       simp only[cond_true,zAa,ao]at h ⊢;obtain⟨h1,h2⟩:=h;cases hp:dh c0 c1 c2 c3 (ED n)with
       | none=>rw[hp]at h1;cases h1
       | some u=>
         rw[hp]at h2;simp only[dE,Option.getD_some]at h2 ⊢;obtain⟨p1,p2,p3⟩:=gw.1 hp;unfold ED at p2 p3;rw[oB]at p2 p3;refine⟨⟨by omega,by rw[show -(0-u)=u by omega];exact p1⟩,by omega,λk hk hn=>?_⟩;have:=p3 (-k) hk.2 (by have:=hk.2.2.1;omega);omega
     | false=>
       simp only[zAj]at h ⊢;cases hp:dr c0 c1 c2 c3 (kI n 0)with
       | none=>rw[hp]at h;cases h
       | some u=>
         simp only[dE,Option.getD_some];obtain⟨p1,p2,p3⟩:=gY.1 hp;rw[oB]at p2 p3;exact⟨p1,by omega,λk hk hn=>p3 k hk (by have:=hk.1;omega)⟩
   . cases h
theorem KU{n:Int}(hs:k_ s)(h:yB ng s e n true=false)(hk:rl ng s e k):k<n:=by
 unfold yB at h;unfold rl at hk;cases hx:Nat.beq (aT s 88 88) 0 with
 | true=>
   rw[hx]at h hk;simp only[cond_true]at h hk;rw[bY]at h;omega
 | false=>
   rw[hx]at h hk;simp only[cond_false]at h hk;obtain⟨c0,c1,c2,c3,rfl,_⟩:=rW hs hx;simp only at h hk;unfold MK at h;cases ng with
   | true=>
     simp only[cond_true]at h hk;cases hp:dh c0 c1 c2 c3 (ED n)with
     | none=>
       have:=qy.1 hp _ hk.2;have hb:=hk.2.2.1;unfold ED at this;rw[oB]at this;omega
     | some u=>
       rw[hp]at h;simp only[iK,dE,Option.isSome_some,Option.getD_some,Bool.true_and]at h;rw[bY]at h;obtain⟨p1,p2,p3⟩:=gw.1 hp;unfold ED at p3;rw[oB]at p3;by_cases hn:n<=k
       . have:=p3 (-k) hk.2 (by have:=hk.2.2.1;omega);omega
       . omega
   | false=>
     simp only[zAj]at h hk;cases hp:dr c0 c1 c2 c3 (kI n 0)with
     | none=>
       have:=qq.1 hp _ hk;have:=hk.1;rw[oB]at *;omega
     | some u=>rw[hp]at h;cases h
theorem xr{p:Int->Bool}{l:List Int}:iK (l.find? p)=true↔∃x,x∈l/\p x=true:=by
 unfold iK;rw[List.find?_isSome]
theorem xS(hy:y≠cy)(hd:af da []=false):iK (fl y cy cm cd mo da M D)=true↔Lu M D y:=by
 have he:aa y cy=false:=ay.mpr hy;unfold fl;rw[xr];unfold Lu nR qF RI;simp only[he,Bool.false_and,cond_false];refine exists_congr λm=>and_congr_right λ_=>?_;unfold g_;rw[xr];refine exists_congr λd=>and_congr_right λ_=>?_;unfold kO nw;rw[hd];simp only[Bool.false_and,Bool.not_false,Bool.and_true,cond_false,ao]
theorem wP{ng lg:Bool}{s:List UInt8}{e g cy cm cd:Int}{mo da:List UInt8}{M D:List Int}(ho:aZ ng lg s e g)(hx:k_ s)(hd:af da []=false)(hc:cy < -10000000000000000):∀(t:Nat) (n:Int),DP (yV ng s e n true) (yB ng s e n true)<=t->
 (wh (cP ng s e cy cm cd mo da M D (yV ng s e n true) (yB ng s e n true))=true↔∃k,rl ng s e k/\n<=k/\Lu M D k)
 | t,n,ht=>by
   cases hb:yB ng s e n true with
   | false=>
     rw[ja];refine⟨λh=>(by cases h),λh=>?_⟩;obtain⟨k,h1,h2,_⟩:=h;have:=KU hx hb h1;omega
   | true=>
     obtain⟨p1,p2,p3⟩:=xy hb;have bd:=i7 (n:=n) (up:=true) ho;have hne:yV ng s e n true≠cy:=by omega
     cases hf:fl (yV ng s e n true) cy cm cd mo da M D with
     | some m=>
       rw[mD hf];refine⟨λ_=>⟨_,p1,p2,?_⟩,λ_=>rfl⟩;rw[<-xS hne hd,hf];rfl
     | none=>
       rw[mJ ho bd.2 hf];have hm:=iD (ng:=ng) (s:=s) (e:=e) bd.2;rw[hb]at ht
       match t,ht with
       | 0,ht=>omega
       | t+1,ht=>
         rw[wP ho hx hd hc t _ (by omega)];refine exists_congr λk=>⟨λ⟨a,b,c⟩=>⟨a,by omega,c⟩,λ⟨a,b,c⟩=>⟨a,?_,c⟩⟩;have:=p3 k a b;by_cases he:k=yV ng s e n true
         . subst he;rw[<-xS hne hd,hf]at c;cases c
         . omega
theorem iy{c0 c1:UInt8}{x:Int}:∀{g:Nat},x∈aw c0 c1 g↔(1<=x/\x<=g)/\agr [c0,c1] x=true
 | 0=>by simp only[aw,List.not_mem_nil,false_iff];omega
 | g+1=>by
   rw[fW,List.mem_append,iy (g:=g)];constructor
   . rintro(⟨h1,h2⟩|h)
     . exact⟨by omega,h2⟩
     . cases ha:agr [c0,c1] ((g:Int)+1)with
       | true=>
         rw[ha]at h;simp only[cond_true,zAf]at h;subst h;exact⟨by omega,ha⟩
       | false=>rw[ha]at h;cases h
   . rintro⟨h1,h2⟩;by_cases he:x=(g:Int)+1
     . subst he;right
       rw[h2];simp
     . exact .inl ⟨by omega,h2⟩
theorem jl(y m:Int):28<=bP y m/\bP y m<=31:=Go.Proofs.YtoghlpcacfnjbaaGreatDoor.mlen_bd y m
def nq(c1 c2 c3:UInt8):Int:=bif Nat.beq c3.toNat 88 then 1 else bif Nat.beq c2.toNat 88 then 10 else bif Nat.beq c1.toNat 88 then 100 else 1000
def Ed(ng:Bool)(c0 c1 c2 c3:UInt8):Int:=bif ng&&aa (gj c0 c1 c2 c3 48) 0 then nq c1 c2 c3 else gj c0 c1 c2 c3 48
def je(ng:Bool)(s:List UInt8)(e:Int):Int:=bif Nat.beq (aT s 88 88) 0 then d8 ng s e else match s with|[c0,c1,c2,c3]=>(bif ng then -(gj c0 c1 c2 c3 57)else Ed ng c0 c1 c2 c3)|_=>0
def qE(ng:Bool)(s:List UInt8)(e:Int):Int:=bif Nat.beq (aT s 88 88) 0 then d8 ng s e else match s with|[c0,c1,c2,c3]=>(bif ng then -(Ed ng c0 c1 c2 c3)else gj c0 c1 c2 c3 57)|_=>0
theorem Jg{c0 c1 c2 c3:UInt8}(h0:cg c0)(h1:cg c1)(h2:cg c2)(h3:cg c3)(h:nk c0 c1 c2 c3 k):gj c0 c1 c2 c3 48<=k/\k<=gj c0 c1 c2 c3 57/\(gj c0 c1 c2 c3 48=0->1<=k->nq c1 c2 c3<=k):=by
 rw[dp]at h0 h1 h2 h3;obtain⟨k0,k1,k2,k3,x0,x1,x2,x3,rfl,y0,y1,y2,y3⟩:=ot h;clear h;unfold gj nq lu;unfold mt at y0 y1 y2 y3;have hb:∀(c:UInt8) (x y:Int),(bif Nat.beq c.toNat 88 then x else y)=if c.toNat=88 then x else y:=λc x y=>by
  by_cases hc:c.toNat=88
  . rw[gb hc,if_pos hc];rfl
  . rw[g7 hc,if_neg hc];rfl
 simp only[hb];have e0:c0.toNat=88\/c0.toNat≠88:=Classical.em _;have e1:c1.toNat=88\/c1.toNat≠88:=Classical.em _;have e2:c2.toNat=88\/c2.toNat≠88:=Classical.em _;have e3:c3.toNat=88\/c3.toNat≠88:=Classical.em _;rcases e1 with e1|e1<;>rcases e2 with e2|e2<;>rcases e3 with e3|e3<;>rcases e0 with e0|e0<;>simp only[e0,e1,e2,e3,if_true,if_false]<;>omega
theorem Eu(hx:k_ s)(h:rl ng s e k):je ng s e<=k/\k<=qE ng s e:=by
 unfold rl at h;unfold je qE;cases hX:Nat.beq (aT s 88 88) 0 with
 | true=>rw[hX,cond_true]at h;rw[cond_true,cond_true];omega
 | false=>
   rw[hX,cond_false]at h;obtain⟨c0,c1,c2,c3,rfl,h0,h1,h2,h3⟩:=rW hx hX;simp only[cond_false]at h ⊢;unfold Ed;cases ng with
   | true=>
     simp only[cond_true,Bool.true_and]at h ⊢;obtain⟨b1,b2,b3⟩:=Jg h0 h1 h2 h3 h.2;cases hz:aa (gj c0 c1 c2 c3 48) 0 with
     | true=>rw[al]at hz;rw[cond_true];have:=b3 hz h.1;omega
     | false=>rw[cond_false];omega
   | false=>
     simp only[cond_false,Bool.false_and]at h ⊢;obtain⟨b1,b2,b3⟩:=Jg h0 h1 h2 h3 h;omega
end Go.Ev
