import Derived.Test.YtcffhjfdlflbgaaGreatDoorP21
set_option linter.all false
open Nat renaming beq->ν,ble->ξ
open Int renaming ofNat->ο
open Option renaming getD_some->π
open Bool renaming true_and->ς
open HAdd renaming hAdd->σ
open HMul renaming hMul->τ
set_option linter.all false
set_option maxRecDepth 100000
set_option maxHeartbeats 4000000
namespace Go.Ev
open Go Go.Proofs
variable{da s mo:List UInt8}{M D:List Int}{ng:Bool}{y cy cm cd k:Int}
abbrev Oi:List Nat:=[3,4,5,6,7,8,9,10,11,12,53,54,55]
def Lc(D:List Int):cx:=iz jE 4 (d9 127 Ou (K7 D))
def Ps(y cy cm:Int)(mo:List UInt8)(m:Int):Bool:=aa y cy&&(ae mo [] || aa m cm)
def kN(y m:Int)(da:List UInt8):Int:=bif ae da []then 0 else bP y m
def k_(y cy cm cd:Int)(mo da:List UInt8)(D:List Int)(m:Int):Option Int:=
 bif aa y cy&&(!(ae mo [])&&!(ab cm m))then none else gk (mU da) (Ps y cy cm mo m) (kN y m da) cd D
def n8(y cy cm cd:Int)(mo da:List UInt8)(D:List Int)(m:Int):Bool:=za (k_ y cy cm cd mo da D m)
def ff(y cy cm cd:Int)(mo da:List UInt8)(M D:List Int):Option Int:=M.find? (n8 y cy cm cd mo da D)
def okM(da:List UInt8)(m:Int):Bool:=ae da [] || (ab 1 m&&ab m 12)
def Me(M D:List Int):dW:=λvs o=>match vs,o with
 | [.g 16 0,.g 17 0,.g 18 0,.g 19 0,.b false,.a .i64 1,.c 14 0 n1 k1,.c 15 0 n2 k2,.i 175 [] [.g 18 0],.a .i64 y,.c 14 0 n1' k1',.a .i64 n1'',.a .i64 j],
   ⟨4,[.a [.a .i64 0,.a .i64 0,.a .i64 0] true none,.a [.b true] true none,.a [.a .i64 cy,.a .i64 cm,.a .i64 cd] true none,
   .a [.b ng,.b lg,.e s,.a .i64 e,.a .i64 g,.e mo,.e da,.a .u8 a,.a .u8 b,.a .u8 c,.c 14 0 n1a k1a,.c 15 0 n2a k2a] true none],[]⟩=>
   some (aH [ξ n1 1000,ν M.length n1,ν n1' n1,aa n1'' (ο n1),aa j 0,ξ n2 1000,ν D.length n2,ab (-10000000000000000) y,ab y 10000000000000000,M.all (okM da)]
    (.d0 (za (ff y cy cm cd mo da M D)) λx=>bif x then
    .f0 λJ=>.a0 (.c,[.g 16 0,.g 17 0,.g 18 0,.g 19 0,.b true,.a .i64 1,.c 14 0 n1 k1,.c 15 0 n2 k2,.i 175 [] [.g 18 0],.a .i64 y,.c 14 0 n1' k1',.a .i64 n1'',.j (J 0)],
     ⟨4,[.a [.a .i64 y,.a .i64 (kp (ff y cy cm cd mo da M D)),.a .i64 (kp (k_ y cy cm cd mo da D (kp (ff y cy cm cd mo da M D))))] true none,.a [.b true] true none,.a [.a .i64 cy,.a .i64 cm,.a .i64 cd] true none,
   .a [.b ng,.b lg,.e s,.a .i64 e,.a .i64 g,.e mo,.e da,.a .u8 a,.a .u8 b,.a .u8 c,.c 14 0 n1a k1a,.c 15 0 n2a k2a] true none],[]⟩)
    else .a0 (.b 2,[.g 16 0,.g 17 0,.g 18 0,.g 19 0,.b false,.a .i64 1,.c 14 0 n1 k1,.c 15 0 n2 k2,.i 175 [] [.g 18 0],.a .i64 y,.c 14 0 n1' k1',.a .i64 n1'',.a .i64 n1''],o)))
 | _,_=>none
theorem DU:((bz (lb 96 1)).getD 0 (0,.skip)).2=lb 96 2:=by rfl
theorem AA:(bz (lb 96 1)).map (·.1)=[4]:=by rfl
theorem OK(M D:List Int):qI Tryz.prog (cH cfg V2) (Cw cfg [.a (aI M) false none,.a (aI D) false none]) (Lc D) (lb 96 1):=by
 refine dv AA λi hi e he st Q hw=>?_;have hi:i=0:=by grind
 subst hi;cases he;rw[DU];exact bR (cC.a0 qY) (by decide) rfl (QU (aI M) D) hw
theorem MI{j:Nat}(h:M.all (okM da))(hj:j<M.length):ae da []=false->1<=M.getD j 0/\M.getD j 0<=12:=by
 grind [List.getElem_mem,okM,aq]
theorem Tz(M D:List Int):cu Tryz.prog (cH cfg V2) (Cw cfg [.a (aI M) false none,.a (aI D) false none]) (lb 96 1) 127 Oi (Me M D):=by
 intro vs o t Q hv hq J;unfold Me at hv;split at hv
 . rename_i n1 k1 n2 k2 y n1' k1' n1'' j cy cm cd ng lg s e g mo da a b c n1a k1a n2a k2a;cases hv;replace hq:=cO hq;obtain⟨⟨h1,h2,h3,h4,h5,h6,h7,h8,h9,h10,-⟩,hq⟩:=hq;rw[al]at h1 h6;rw[aJ]at h2 h3 h7;rw[ao]at h4 h5;rw[aq]at h8 h9;subst h2 h3 h4 h5 h7;simp only[aH,Tr.wp]at hq;refine ia qY rfl rfl (OK M D) (ι:={j:Nat // j<=M.length/\∀k,k<j->n8 y cy cm cd mo da D (M.getD k 0)=false}) (λx=>[.g 16 0,.g 17 0,.g 18 0,.g 19 0,.b false,.a .i64 1,.c 14 0 M.length k1,.c 15 0 D.length k2,.i 175 [] [.g 18 0],.a .i64 y,.c 14 0 M.length k1',.a .i64 (ο M.length),.a .i64 (ο x.1)])
    (λ_=>⟨4,[.a [.a .i64 0,.a .i64 0,.a .i64 0] true none,.a [.b true] true none,.a [.a .i64 cy,.a .i64 cm,.a .i64 cd] true none,.a [.b ng,.b lg,.e s,.a .i64 e,.a .i64 g,.e mo,.e da,.a .u8 a,.a .u8 b,.a .u8 c,.c 14 0 n1a k1a,.c 15 0 n2a k2a] true none],[]⟩) (λx=>M.length-x.1) 4 (λ_=>Nat.le_refl _) (λx J=>?_) (Nat.le_refl _) (λJ=>Wk.a0 ⟨⟨0,Nat.zero_le _,λk hk=>absurd hk (Nat.not_lt_zero k)⟩,J,rfl⟩) J
   obtain⟨j,hj,hp⟩:=x;dsimp only;refine jJ (bE 111112140273353384422012140273353384006638111214027738220744220121402773822074056338120223000331112140227322022707442201214022732202270740562302000220405207422022404204) (R:=λQ=>(λ(G H:cD)(F u3 u9 ua ub uc ud ue uf ug ur ut uu:AV)(A N O P T u1 u2 uh ui:Bool)(u7 uq us:Int)=>(λ(I:cD)(uj uk uy:AV)(C V uv uw:Bool)(U uz:Int)(uA uB:Option Int)(B ul ux:Prop)=>(λ(Y:AV)(u4 u5 um uC:Bool)(un:Int)(W:List AV)(E uD:Prop)=>(λ(u0:Bool)(uE uF uG uH:Option Int)(Z uo up:Prop)=>(λ(u6:Prop)=>(λ(uK:Prop->Prop)=>(λ(uJ:Prop->Prop)=>(λ(uI:Prop->Prop)=>(uv->aS j M.length/\(uw->(A->A/\A/\A/\A/\(C->C/\C/\C/\C/\(u0->u0/\u0/\u0/\um=false/\C/\(u2->uI ((za uE->(∀J1 J2:Nat->Value,Q (.c,W,⟨4,[.a [F,Y,.a .i64 (kp uE)] true none,I,G,H],[]⟩)))/\(za uE=false->Z)))/\(ul->uh/\ui/\(u4->(u5->uI ((za uF->(∀J1 J2:Nat->Value,Q (.c,W,⟨4,[.a [F,Y,.a .i64 (kp uF)] true none,I,G,H],[]⟩)))/\(za uF=false->Z)))/\uo)/\up))/\(u6->u6/\u6/\u6/\um/\C/\uD))/\(E->E/\E/\E/\E/\E/\(u2->uJ ((za uA->(∀J1 J2:Nat->Value,Q (.c,W,⟨4,[.a [F,Y,.a .i64 (kp uA)] true none,I,G,H],[]⟩)))/\(za uA=false->Z)))/\(ul->uh/\ui/\(u4->(u5->uJ ((za uG->(∀J1 J2:Nat->Value,Q (.c,W,⟨4,[.a [F,Y,.a .i64 (kp uG)] true none,I,G,H],[]⟩)))/\(za uG=false->Z)))/\uo)/\up)))/\(B->B/\B/\B/\B/\(u2->uK ((za uB->(∀J1 J2:Nat->Value,Q (.c,W,⟨4,[.a [F,Y,.a .i64 (kp uB)] true none,I,G,H],[]⟩)))/\(za uB=false->Z)))/\(ul->uh/\ui/\(u4->(u5->uK ((za uH->(∀J1 J2:Nat->Value,Q (.c,W,⟨4,[.a [F,Y,.a .i64 (kp uH)] true none,I,G,H],[]⟩)))/\(za uH=false->Z)))/\uo)/\up)))/\(uw=false->False))/\(uv=false->Q (.b 2,[u9,ua,u3,ub,uu,uc,ud,ue,uj,F,uf,uk,uy],⟨4,[.a [ug,ug,ug] true none,I,G,H],[]⟩))) (λuL=>A/\A/\A/\A/\A/\C/\C/\C/\C/\A/\ux/\A/\N/\O/\P/\V/\uL)) (λuL=>A/\A/\A/\A/\A/\E/\E/\E/\E/\A/\u1/\A/\N/\O/\P/\V/\uL)) (λuL=>B/\B/\B/\B/\B/\B/\B/\N/\O/\P/\V/\uL)) (u0=false)) (not um) (gk T uC 0 cd D) (gk T uC un cd D) (gk T true un cd D) (gk T false un cd D) (∀J1:Nat->Value,uD) (u5=false->False) (u4=false->False)) (.a .i64 U) (ab 1 U) (ab U 12) (not (ab cm U)) (aa U cm) (bP y U) [u9,ua,u3,ub,ut,uc,ud,ue,uj,F,uf,uk,uy] (C=false) (af .i64 uz/\Q (.a,[u9,ua,u3,ub,uu,uc,ud,ue,uj,F,uf,uk,.a .i64 uz],⟨4,[.a [ug,ug,ug] true none,I,G,H],[]⟩))) (.a [ut] true none) (.i 175 [] [u3]) (.a .i64 uq) (.a .i64 u7) (not u1) (aa us us) (not (ab uq u7)) (eB .i64 ur) (dx ur) (Int.add u7 1) (gk T true 0 cd D) (gk T false 0 cd D) (A=false) (u2=false) (u1=false)) (.a [.a .i64 cy,.a .i64 cm,.a .i64 cd] true none) (.a [.b ng,.b lg,.e s,.a .i64 e,.a .i64 g,.e mo,.e da,.a .u8 a,.a .u8 b,.a .u8 c,.c 14 0 n1a k1a,.c 15 0 n2a k2a] true none) (.a .i64 y) (.g 18 0) (.g 16 0) (.g 17 0) (.g 19 0) (.a .i64 1) (.c 14 0 M.length k1) (.c 15 0 D.length k2) (.c 14 0 M.length k1') (.a .i64 0) (List.getD (aI M) (σ 0 (τ j 1)) (.d [])) (.b true) (.b false) (aa y cy) (ξ D.length 1000) (ν D.length D.length) (ν D.length D.length) (mU da) (ae mo []) (ae da []) (ab (Neg.neg 10000000000000000) y) (ab y 10000000000000000) (ο j) (ο M.length) (ο D.length)) (λ_=>by kernel_rfl) λQ' hQ=>?_;try dsimp only
   have yes:j<M.length->n8 y cy cm cd mo da D (M.getD j 0)->∀J:Nat->Value,Q (.c,[.g 16 0,.g 17 0,.g 18 0,.g 19 0,.b true,.a .i64 1,.c 14 0 M.length k1,.c 15 0 D.length k2,.i 175 [] [.g 18 0],.a .i64 y,.c 14 0 M.length k1',.a .i64 (ο M.length),.j (J 0)],
    ⟨4,[.a [.a .i64 y,.a .i64 (M.getD j 0),.a .i64 (kp (k_ y cy cm cd mo da D (M.getD j 0)))] true none,.a [.b true] true none,.a [.a .i64 cy,.a .i64 cm,.a .i64 cd] true none,.a [.b ng,.b lg,.e s,.a .i64 e,.a .i64 g,.e mo,.e da,.a .u8 a,.a .u8 b,.a .u8 c,.c 14 0 n1a k1a,.c 15 0 n2a k2a] true none],[]⟩):=λhlt hpick J2=>by
    have hf:ff y cy cm cd mo da M D=some (M.getD j 0):=sk hlt hp hpick;rw[hf]at hq;exact hq J2
   have no:¬j<M.length->Q (.b 2,[.g 16 0,.g 17 0,.g 18 0,.g 19 0,.b false,.a .i64 1,.c 14 0 M.length k1,.c 15 0 D.length k2,.i 175 [] [.g 18 0],.a .i64 y,.c 14 0 M.length k1',.a .i64 (ο M.length),.a .i64 (ο M.length)],
    ⟨4,[.a [.a .i64 0,.a .i64 0,.a .i64 0] true none,.a [.b true] true none,.a [.a .i64 cy,.a .i64 cm,.a .i64 cd] true none,.a [.b ng,.b lg,.e s,.a .i64 e,.a .i64 g,.e mo,.e da,.a .u8 a,.a .u8 b,.a .u8 c,.c 14 0 n1a k1a,.c 15 0 n2a k2a] true none],[]⟩):=λhge=>by
    have hf:ff y cy cm cd mo da M D=none:=oW λk hk=>hp k (by omega);rw[hf]at hq;exact hq
   have next:n8 y cy cm cd mo da D (M.getD j 0)=false->∀k,k<j+1->n8 y cy cm cd mo da D (M.getD k 0)=false:=λh k hk=>by
    by_cases e:k=j
    . subst e;exact h
    . exact hp k (by omega)
   by_cases hlt:j<M.length
   . rw[sW hlt];have hok:=MI h10 hlt;have yes:=yes hlt;clear no hq hp h10;have hmon:k_ y cy cm cd mo da D (M.getD j 0)=(bif aa y cy&&(!(ae mo [])&&!(ab cm (M.getD j 0)))then none else gk (mU da) (aa y cy&&(ae mo [] || aa (M.getD j 0) cm)) (bif ae da []then 0 else bP y (M.getD j 0)) cd D):=rfl;rw[show n8 y cy cm cd mo da D (M.getD j 0)=za (k_ y cy cm cd mo da D (M.getD j 0))from rfl]at yes next;generalize k_ y cy cm cd mo da D (M.getD j 0)=mm at *;generalize M.getD j 0=m at *;simp only[eB,dx,zb,abw];generalize aa y cy=E at *;generalize ae mo []=Bm at *;generalize ab cm m=Lm at *;generalize ae da []=Bd at *;cases E<;>cases Bm<;>cases Lm<;>cases Bd<;>simp only[zAi,Bool.false_and,Bool.and_false,Bool.true_or,Bool.false_or,zAj]at hmon<;>subst hmon<;>simp only[az,reduceCtorEq]<;>(repeat' first|exact trivial|refine⟨?_,?_⟩|intro)<;>first|contradiction|omega|assumption|(exfalso;have:=hok rfl;omega)|refine hQ _ ?_
     all_goals first
      | exact⟨_,_,VW.c0 (.a0 (.a0 (.a0 (.a0 (.a0 (.a0 (.a0 (.a0 (.a0 (.a0 (.a0 (.a0 (.b0 .c0))))))))))))) rfl,yes (by assumption) (jv [_])⟩
      | exact⟨⟨j+1,by omega,next (by first|assumption|rfl)⟩,by dsimp only;omega,VW.b0 rfl rfl⟩
   . obtain rfl:j=M.length:=by omega
     have no2:=no hlt;simp only[az,reduceCtorEq]
     (repeat' first|exact trivial|refine⟨?_,?_⟩|intro)<;>first|omega|assumption|(exfalso;omega)|(refine hQ _ ?_;exact⟨_,_,VW.a0,no2⟩)
 . cases hv
abbrev Kc:List Nat:=[3,4,5,6,7,8,9,10,11,12,13]
def Lb(M D:List Int):cx:=iz jE 2 (d9 127 Oi (Me M D))
def xJ(ng:Bool)(s:List UInt8)(e cy cm cd:Int)(mo da:List UInt8)(M D:List Int):Nat->Int->Bool->Option (Int×Int×Int)
 | 0,_,_=>none
 | f+1,y,ok=>bif ok then(match ff y cy cm cd mo da M D with
   | some m=>some (y,m,kp (k_ y cy cm cd mo da D m))
   | none=>xJ ng s e cy cm cd mo da M D f (yV ng s e (y+1) true) (yB ng s e (y+1) true))else none
def MZ(y:Int)(ok:Bool):Nat:=bif ok then(10000000000000001-y).toNat+1 else 0
def cJ(ng:Bool)(s:List UInt8)(e cy cm cd:Int)(mo da:List UInt8)(M D:List Int)(y:Int)(ok:Bool):Option (Int×Int×Int):=xJ ng s e cy cm cd mo da M D (MZ y ok+1) y ok
def mJ(x:Option (Int×Int×Int)):Bool:=x.isSome
def p1(x:Option (Int×Int×Int)):Int:=(x.getD (0,0,0)).1
def p2(x:Option (Int×Int×Int)):Int:=(x.getD (0,0,0)).2.1
def p3(x:Option (Int×Int×Int)):Int:=(x.getD (0,0,0)).2.2
def LB(M D:List Int):dW:=λvs o=>match vs,o with
 | [.g 16 0,.g 17 0,.g 18 0,.g 19 0,.b false,.a .i64 1,.c 14 0 n1 k1,.c 15 0 n2 k2,.i 175 [] [.g 18 0],.a .i64 y,.b ok],
   ⟨4,[.a [.a .i64 0,.a .i64 0,.a .i64 0] true none,.a [.b true] true none,.a [.a .i64 cy,.a .i64 cm,.a .i64 cd] true none,.a [.b ng,.b lg,.e s,.a .i64 e,.a .i64 g,.e mo,.e da,.a .u8 a,.a .u8 b,.a .u8 c,.c 14 0 n1' k1a,.c 15 0 n2' k2a] true none],[]⟩=>
   some (aH [ξ n1 1000,ν M.length n1,ξ n2 1000,ν D.length n2,M.all (okM da),aV ng lg s e g,ξ s.length 1000,lP s,ab (-10000000000000000) y,ab y 10000000000000000,ν n1' n1,ν n2' n2]
    (.d0 (mJ (cJ ng s e cy cm cd mo da M D y ok)) λx=>bif x then
    .f0 λJ=>.a0 (.c,[.g 16 0,.g 17 0,.g 18 0,.g 19 0,.b true,.a .i64 1,.c 14 0 n1 k1,.c 15 0 n2 k2,.i 175 [] [.g 18 0],.j (J 0),.j (J 1)],
     ⟨4,[.a [.a .i64 (p1 (cJ ng s e cy cm cd mo da M D y ok)),.a .i64 (p2 (cJ ng s e cy cm cd mo da M D y ok)),.a .i64 (p3 (cJ ng s e cy cm cd mo da M D y ok))] true none,.a [.b true] true none,.a [.a .i64 cy,.a .i64 cm,.a .i64 cd] true none,.a [.b ng,.b lg,.e s,.a .i64 e,.a .i64 g,.e mo,.e da,.a .u8 a,.a .u8 b,.a .u8 c,.c 14 0 n1' k1a,.c 15 0 n2' k2a] true none],[]⟩)
    else .f0 λJ=>.a0 (.b 0,[.g 16 0,.g 17 0,.g 18 0,.g 19 0,.b false,.a .i64 1,.c 14 0 n1 k1,.c 15 0 n2 k2,.i 175 [] [.g 18 0],.j (J 0),.b false],o)))
 | _,_=>none
theorem cz:bc 14 (aI M)=true:=by
 unfold bc aI;rw[List.all_map];exact List.all_eq_true.2 λx _=>rfl
theorem qz{M:List Int}:b_ (aI M) 0 (M.length*1)=aI M:=by
 grind [b_,aI,List.length_map]
theorem cY:(aI M).length=M.length:=by grind [aI]
theorem mC{e:Int}(hy:y<=10000000000000000):MZ (yV ng s e (y+1) true) (yB ng s e (y+1) true)<MZ y true:=by
 unfold MZ;cases h:yB ng s e (y+1) true with
 | true=>have:=WR h;grind
 | false=>simp
theorem xW{ng:Bool}{s:List UInt8}{lg:Bool}{e g cy cm cd:Int}{mo da:List UInt8}{M D:List Int}(ho:aV ng lg s e g):∀(f f':Nat) (y:Int) (ok:Bool),y<=10000000000000000->MZ y ok<f->MZ y ok<f'->xJ ng s e cy cm cd mo da M D f y ok=xJ ng s e cy cm cd mo da M D f' y ok
 | 0,_,_,_,_,h,_=>absurd h (Nat.not_lt_zero _)
 | _+1,0,_,_,_,_,h=>absurd h (Nat.not_lt_zero _)
 | f+1,f'+1,y,ok,hy,h1,h2=>by
   unfold xJ;cases ok with
   | false=>rfl
   | true=>
     rw[cond_true,cond_true];have hm:=mC (ng:=ng) (s:=s) (e:=e) hy;cases ff y cy cm cd mo da M D with
     | some m=>rfl
     | none=>exact xW ho f f' _ _ (iP ho).2 (by omega) (by omega)
theorem ii{e:Int}:cJ ng s e cy cm cd mo da M D y false=none:=rfl
theorem kK{e:Int}{m:Int}(h:ff y cy cm cd mo da M D=some m):cJ ng s e cy cm cd mo da M D y true=some (y,m,kp (k_ y cy cm cd mo da D m)):=by
 grind [cJ,xJ]
theorem kx{lg:Bool}{e g:Int}(ho:aV ng lg s e g)(hy:y<=10000000000000000)(h:ff y cy cm cd mo da M D=none):cJ ng s e cy cm cd mo da M D y true=cJ ng s e cy cm cd mo da M D (yV ng s e (y+1) true) (yB ng s e (y+1) true):=by
 have hm:=mC (ng:=ng) (s:=s) (e:=e) hy;unfold cJ;rw[xJ,h];exact xW ho _ _ _ _ (iP ho).2 (by omega) (by omega)
theorem Ak:((bz (lb 96 0)).getD 0 (0,.skip)).2=lb 96 1:=by rfl
theorem zf:(bz (lb 96 0)).map (·.1)=[2,4]:=by rfl
theorem NM(M D:List Int):qI Tryz.prog (cH cfg V2) (Cw cfg [.a (aI M) false none,.a (aI D) false none]) (Lb M D) (lb 96 0):=by
 refine dv zf λi hi e he st Q hw=>?_;have hi:i=0\/i=1:=by grind
 rcases hi with rfl|rfl
 . cases he;rw[Ak];exact bR (cC.a0 qY) (by decide) rfl (Tz M D) hw
 . cases he
theorem RJ(M D:List Int):cu Tryz.prog (cH cfg V2) (Cw cfg [.a (aI M) false none,.a (aI D) false none]) (lb 96 0) 127 Kc (LB M D):=by
 intro vs o t Q hv hq J;unfold LB at hv;split at hv
 . rename_i n1 k1 n2 k2 y ok cy cm cd ng lg s e g mo da a b c n1' k1a n2' k2a;cases hv;replace hq:=cO hq;obtain⟨⟨h1,h2,h3,h4,h5,h6,h7,h8,h9,h10,h11,h12,-⟩,hq⟩:=hq;rw[al]at h1 h3 h7;rw[aJ]at h2 h4 h11 h12;rw[aq]at h9 h10;subst h2 h4 h11 h12;simp only[aH,Tr.wp]at hq;refine ia qY rfl rfl (NM M D) (ι:={x:Int×Bool // (-10000000000000000<=x.1/\x.1<=10000000000000000)/\cJ ng s e cy cm cd mo da M D y ok=cJ ng s e cy cm cd mo da M D x.1 x.2}) (λx=>[.g 16 0,.g 17 0,.g 18 0,.g 19 0,.b false,.a .i64 1,.c 14 0 M.length k1,.c 15 0 D.length k2,.i 175 [] [.g 18 0],.a .i64 x.1.1,.b x.1.2])
    (λ_=>⟨4,[.a [.a .i64 0,.a .i64 0,.a .i64 0] true none,.a [.b true] true none,.a [.a .i64 cy,.a .i64 cm,.a .i64 cd] true none,.a [.b ng,.b lg,.e s,.a .i64 e,.a .i64 g,.e mo,.e da,.a .u8 a,.a .u8 b,.a .u8 c,.c 14 0 M.length k1a,.c 15 0 D.length k2a] true none],[]⟩) (λx=>MZ x.1.1 x.1.2) 4 (λ_=>Nat.le_refl _) (λx J=>?_) (Nat.le_refl _) (λJ=>Wk.a0 ⟨⟨(y,ok),⟨h9,h10⟩,rfl⟩,J,rfl⟩) J
   obtain⟨⟨z,zk⟩,hz,hs⟩:=x;dsimp only at hz hs ⊢;refine jJ (bE 11277020006142270274) (R:=λQ=>(λ(W Y:cD)(A B C E F G H I O V u1:AV)(N T:Int)(Z u0:Nat)(U:Option Int)=>(λ(u2:cD)(P:AV)(u3 u4 u5:Bool)=>(zk->ξ M.length 1000/\ν M.length M.length/\ν M.length M.length/\aa T T/\ξ D.length 1000/\ν D.length D.length/\ab (Neg.neg 10000000000000000) z/\ab z 10000000000000000/\List.all M (okM da)/\(za U->(∀J1 J2:Nat->Value,Q (.c,[B,C,A,E,V,F,G,H,P,I,AV.j (J2 13)],⟨4,[.a [I,.a .i64 (kp U),.a .i64 (kp (k_ z cy cm cd mo da D (kp U)))] true none,u2,W,Y],[]⟩)))/\(za U=false->(∀J1:Nat->Value,u3/\and (and true (and (ξ (σ 0 Z) (aI M).length) u4)) (and (ξ (σ 0 u0) (aI D).length) u5)/\u4/\u5/\u3/\aV ng lg s e g/\ξ s.length 1000/\lP s/\Q (.a,[B,C,A,E,u1,F,G,H,P,.a .i64 (yV ng s e N true),.b (yB ng s e N true)],⟨4,[.a [O,O,O] true none,u2,W,Y],[]⟩))))/\(zk=false->Q (.b 0,[B,C,A,E,u1,F,G,H,P,I,.b zk],⟨4,[.a [O,O,O] true none,u2,W,Y],[]⟩))) (.a [V] true none) (.i 175 [] [A]) (af .i64 N) (bc 14 (b_ (aI M) 0 Z)) (bc 14 (b_ (aI D) 0 u0))) (.a [.a .i64 cy,.a .i64 cm,.a .i64 cd] true none) (.a [.b ng,.b lg,.e s,.a .i64 e,.a .i64 g,.e mo,.e da,.a .u8 a,.a .u8 b,.a .u8 c,.c 14 0 M.length k1a,.c 15 0 D.length k2a] true none) (.g 18 0) (.g 16 0) (.g 17 0) (.g 19 0) (.a .i64 1) (.c 14 0 M.length k1) (.c 15 0 D.length k2) (.a .i64 z) (.a .i64 0) (.b true) (.b false) (Int.add z 1) (ο M.length) (τ M.length 1) (τ D.length 1) (ff z cy cm cd mo da M D)) (λ_=>by rfl) λQ' hQ=>?_;try dsimp only
   have hs':=hs;rw[hs]at hq;clear hs h9 h10;cases zk with
   | false=>
     rw[ii]at hq;have hq:∀J:Nat->Value,Q (.b 0,[.g 16 0,.g 17 0,.g 18 0,.g 19 0,.b false,.a .i64 1,.c 14 0 M.length k1,.c 15 0 D.length k2,.i 175 [] [.g 18 0],.j (J 0),.b false],⟨4,[.a [.a .i64 0,.a .i64 0,.a .i64 0] true none,.a [.b true] true none,.a [.a .i64 cy,.a .i64 cm,.a .i64 cd] true none,.a [.b ng,.b lg,.e s,.a .i64 e,.a .i64 g,.e mo,.e da,.a .u8 a,.a .u8 b,.a .u8 c,.c 14 0 M.length k1a,.c 15 0 D.length k2a] true none],[]⟩):=hq;simp only[az,reduceCtorEq]
     (repeat' first|exact trivial|refine⟨?_,?_⟩|intro)<;>first|contradiction|omega|assumption|refine hQ _ ?_
     all_goals exact⟨_,_,VW.c0 (.a0 (.a0 (.a0 (.a0 (.a0 (.a0 (.a0 (.a0 (.a0 (.b0 (.a0 .c0))))))))))) rfl,hq (jv [_])⟩
   | true=>
     have yes:∀m,ff z cy cm cd mo da M D=some m->∀J:Nat->Value,Q (.c,[.g 16 0,.g 17 0,.g 18 0,.g 19 0,.b true,.a .i64 1,.c 14 0 M.length k1,.c 15 0 D.length k2,.i 175 [] [.g 18 0],.j (J 0),.j (J 1)],⟨4,[.a [.a .i64 z,.a .i64 m,.a .i64 (kp (k_ z cy cm cd mo da D m))] true none,.a [.b true] true none,.a [.a .i64 cy,.a .i64 cm,.a .i64 cd] true none,.a [.b ng,.b lg,.e s,.a .i64 e,.a .i64 g,.e mo,.e da,.a .u8 a,.a .u8 b,.a .u8 c,.c 14 0 M.length k1a,.c 15 0 D.length k2a] true none],[]⟩):=λm hf J2=>by
      rw[kK hf]at hq;exact hq J2
     have next:ff z cy cm cd mo da M D=none->cJ ng s e cy cm cd mo da M D y ok=cJ ng s e cy cm cd mo da M D (yV ng s e (z+1) true) (yB ng s e (z+1) true):=λhf=>hs'.trans (kx h6 hz.2 hf);clear hq;have hmu:=mC (ng:=ng) (s:=s) (e:=e) hz.2;have hbn:=iP (n:=z+1) (up:=true) h6;have hb1:bc 14 (b_ (aI M) 0 (M.length*1))=true:=by rw[qz];exact cz
     have hb2:bc 14 (b_ (aI D) 0 (D.length*1))=true:=by rw[qz];exact cz
     have hc1:ξ (0+M.length*1) (aI M).length=true:=by rw[cY];simp
     have hc2:ξ (0+D.length*1) (aI D).length=true:=by rw[cY];simp
     simp only[hb1,hb2,hc1,hc2,Bool.and_true,ς];cases hf:ff z cy cm cd mo da M D with
     | some m=>
       have yes:=yes m hf;clear next;simp only[za,kp,Option.isSome_some,π];simp only[az,reduceCtorEq]
       (repeat' first|exact trivial|refine⟨?_,?_⟩|intro)<;>first|contradiction|omega|assumption|refine hQ _ ?_
       all_goals exact⟨_,_,VW.c0 (.a0 (.a0 (.a0 (.a0 (.a0 (.a0 (.a0 (.a0 (.a0 (.b0 (.a0 .c0))))))))))) rfl,yes (jv [_,_])⟩
     | none=>
       have next:=next hf;clear yes;simp only[za,kp,Option.isSome_none];simp only[az,reduceCtorEq]
       (repeat' first|exact trivial|refine⟨?_,?_⟩|intro)<;>first|contradiction|omega|assumption|refine hQ _ ?_
       all_goals exact⟨⟨(_,_),hbn,next⟩,hmu,VW.b0 rfl rfl⟩
 . cases hv
def La(M D:List Int):cx:=iz jE 0 (d9 127 Kc (LB M D))
theorem NU(M D:List Int):qI Tryz.prog (cH cfg V2) (Cw cfg [.a (aI M) false none,.a (aI D) false none]) (La M D) (aL 96):=by
 refine dv CQ λi hi e he st Q hw=>?_;have hi:i=0\/i=1\/i=2:=by grind
 rcases hi with rfl|rfl|rfl
 . cases he;exact bR (cC.a0 qY) (by decide) rfl (RJ M D) hw
 . cases he
 . cases he
theorem PK{x:Option (Int×Int×Int)}(h:mJ x=false):p1 x=0/\p2 x=0/\p3 x=0:=by
 cases x with
 | none=>exact⟨rfl,rfl,rfl⟩
 | some u=>cases h
theorem Uu{lg:Bool}{e g:Int}{a b c:Int}{k1 k2:fg}(h1:M.length<=1000)(h2:D.length<=1000)(hA:M.all (okM da))(ho:aV ng lg s e g)(hs:s.length<=1000)(hx:lP s)(hy : -9223372036854775808<=cy/\cy<=9223372036854775807) :
 bu Tryz.prog cfg 96 [.h [.b ng,.b lg,.e s,.a .i64 e,.a .i64 g,.e mo,.e da,.a .u8 a,.a .u8 b,.a .u8 c,.c 14 0 M.length k1,.c 15 0 D.length k2],.h [.a .i64 cy,.a .i64 cm,.a .i64 cd],.b true] [.a (aI M) false none,.a (aI D) false none] (.d [.h [.a .i64 (p1 (cJ ng s e cy cm cd mo da M D (yV ng s e cy true) (yB ng s e cy true))),.a .i64 (p2 (cJ ng s e cy cm cd mo da M D (yV ng s e cy true) (yB ng s e cy true))),.a .i64 (p3 (cJ ng s e cy cm cd mo da M D (yV ng s e cy true) (yB ng s e cy true)))],.b (mJ (cJ ng s e cy cm cd mo da M D (yV ng s e cy true) (yB ng s e cy true)))]) []:=by
 refine lF qY (L:=La M D) (λx hx=>?_) (NU M D) (bE 1014277777766) (R:=λQ=>(λ(C:AV)(G H:Bool)(B:Int)(E F:Nat)=>(λ(I N:Bool)(A:Option (Int×Int×Int))=>and (and true (and (ξ (σ 0 E) (aI M).length) I)) (and (ξ (σ 0 F) (aI D).length) N)/\I/\N/\af .i64 cy/\G/\H/\lP s/\ξ M.length 1000/\ν M.length M.length/\ξ D.length 1000/\ν D.length D.length/\List.all M (okM da)/\G/\H/\lP s/\ab (Neg.neg 10000000000000000) B/\ab B 10000000000000000/\ν M.length M.length/\ν D.length D.length/\(mJ A->(∀J1 J2:Nat->Value,Q (.d [.h [.a .i64 (p1 A),.a .i64 (p2 A),.a .i64 (p3 A)],.b true])))/\(mJ A=false->(∀J1 J2:Nat->Value,Q (.d [.h [C,C,C],.b false])))) (bc 14 (b_ (aI M) 0 E)) (bc 14 (b_ (aI D) 0 F)) (cJ ng s e cy cm cd mo da M D B (yB ng s e cy true))) (.a .i64 0) (aV ng lg s e g) (ξ s.length 1000) (yV ng s e cy true) (τ M.length 1) (τ D.length 1)) (λ_=>by rfl) λQ' hQ=>?_
 . grind [iu,cz]
 . have hb1:bc 14 (b_ (aI M) 0 (M.length*1))=true:=by rw[qz];exact cz
   have hb2:bc 14 (b_ (aI D) 0 (D.length*1))=true:=by rw[qz];exact cz
   have hc1:ξ (0+M.length*1) (aI M).length=true:=by rw[cY];simp
   have hc2:ξ (0+D.length*1) (aI D).length=true:=by rw[cY];simp
   have hbn:=iP (n:=cy) (up:=true) ho;simp only[hb1,hb2,hc1,hc2,Bool.and_true,ς];have fin:∀v,v=(.d [.h [.a .i64 (p1 (cJ ng s e cy cm cd mo da M D (yV ng s e cy true) (yB ng s e cy true))),.a .i64 (p2 (cJ ng s e cy cm cd mo da M D (yV ng s e cy true) (yB ng s e cy true))),.a .i64 (p3 (cJ ng s e cy cm cd mo da M D (yV ng s e cy true) (yB ng s e cy true)))],.b (mJ (cJ ng s e cy cm cd mo da M D (yV ng s e cy true) (yB ng s e cy true)))])->Q' v:=λv hv=>hQ _ hv;generalize (cJ ng s e cy cm cd mo da M D (yV ng s e cy true) (yB ng s e cy true))=r at *;have hf:=@PK r;cases hr:mJ r<;>simp_all [az]
def d7(w:List AV):List Int:=w.map dx
theorem gV{w:List AV}(h:w.all (eB .i64)):aI (d7 w)=w:=by
 unfold aI d7;rw[List.map_map];refine(List.map_congr_left λx hx=>?_).trans (List.map_id w);have:=List.all_eq_true.1 h x hx;cases x with
 | a k n=>cases k<;>first|rfl|cases this
 | _=>cases this
theorem ad9{w:List AV}:(d7 w).length=w.length:=by grind [d7]
def jY(da:List UInt8)(M:List Int):Bool:=M.all (okM da)
def Oy:aav:=λ
 | [.h [.b ng,.b lg,.e s,.a .i64 e,.a .i64 g,.e mo,.e da,.a .u8 a,.a .u8 b,.a .u8 c,.c 14 0 n1 k1,.c 15 0 n2 k2],.h [.a .i64 cy,.a .i64 cm,.a .i64 cd],.b true],[.a w1 false none,.a w2 false none]=>
   some (aH [w1.all (eB .i64),w2.all (eB .i64),ν w1.length n1,ν w2.length n2,ξ n1 1000,ξ n2 1000,jY da (d7 w1),af .i64 cy,aV ng lg s e g,ξ s.length 1000,lP s] (.a0 ((.d [.h [.a .i64 (p1 (cJ ng s e cy cm cd mo da (d7 w1) (d7 w2) (yV ng s e cy true) (yB ng s e cy true))),.a .i64 (p2 (cJ ng s e cy cm cd mo da (d7 w1) (d7 w2) (yV ng s e cy true) (yB ng s e cy true))),.a .i64 (p3 (cJ ng s e cy cm cd mo da (d7 w1) (d7 w2) (yV ng s e cy true) (yB ng s e cy true)))],.b (mJ (cJ ng s e cy cm cd mo da (d7 w1) (d7 w2) (yV ng s e cy true) (yB ng s e cy true)))]),[])))
 | _,_=>none
theorem Mb{S:aQ}(hS:ak Tryz.prog cfg S):ak Tryz.prog cfg (eQ S 96 (fl 14 [1,1] Oy)):=by
 refine bm hS (fW eb.lv Az λargs ws t r he hr=>?_);unfold Oy at he;split at he
 . rename_i ng lg s e g mo da a b c n1 k1 n2 k2 cy cm cd w1 w2;cases he;replace hr:=aF hr;obtain⟨⟨h1,h2,h3,h4,h5,h6,h7,h8,h9,h10,h11,-⟩,hr⟩:=hr;rw[aJ]at h3 h4;rw[al]at h5 h6 h10;rw[LT]at h8;subst h3 h4;cases hr;have key:=Uu (g:=g) (mo:=mo) (da:=da) (a:=a) (b:=b) (c:=c) (k1:=k1) (k2:=k2) (cy:=cy) (cm:=cm) (cd:=cd) (M:=d7 w1) (D:=d7 w2) (by rw[ad9];omega) (by rw[ad9];omega) h7 h9 h10 h11 h8;grind [gV,ad9]
 grind
def mK(ng:Bool)(s:List UInt8)(e k:Int):Prop:=bif ν (eC s 88 88) 0 then k=dY ng s e else match s with|[c0,c1,c2,c3]=>(bif ng then 1<=-k/\nS c0 c1 c2 c3 (-k)else nS c0 c1 c2 c3 k)|_=>False
def LM(M D:List Int)(k:Int):Prop:=∃m,m∈M/\∃d,d∈D/\d<=bP k m
theorem yE{e n:Int}:yB ng s e n true->mK ng s e (yV ng s e n true)/\n<=yV ng s e n true/\∀k,mK ng s e k->n<=k->yV ng s e n true<=k:=by
 intro h;unfold yB at h;unfold yV mK;cases hx:ν (eC s 88 88) 0 with
 | true=>
   grind [aq]
 | false=>
   rw[hx,cond_false]at h;simp only[cond_false];split at h
   . rename_i c0 c1 c2 c3;simp only;unfold I2 at h;unfold KM;cases ng with
     | true=>
       simp only[cond_true,zAa,aq]at h ⊢;obtain⟨h1,h2⟩:=h;cases hp:cV c0 c1 c2 c3 (Ao n)with
       | none=>rw[hp]at h1;cases h1
       | some u=>
         rw[hp]at h2;simp only[kp,π]at h2 ⊢;obtain⟨p1,p2,p3⟩:=fb.1 hp;unfold Ao at p2 p3;rw[kP]at p2 p3;refine⟨⟨by omega,by grind⟩,by omega,λk hk hn=>?_⟩;have:=p3 (-k) hk.2 (by have:=hk.2.2.1;omega);omega
     | false=>
       simp only[zAj]at h ⊢;cases hp:c_ c0 c1 c2 c3 (kh n 0)with
       | none=>rw[hp]at h;cases h
       | some u=>
         simp only[kp,π];obtain⟨p1,p2,p3⟩:=gF.1 hp;rw[kP]at p2 p3;exact⟨p1,by omega,λk hk hn=>p3 k hk (by have:=hk.1;omega)⟩
   grind
theorem Jj{e n:Int}(hs:lP s)(h:yB ng s e n true=false)(hk:mK ng s e k):k<n:=by
 unfold yB at h;unfold mK at hk;cases hx:ν (eC s 88 88) 0 with
 | true=>
   grind [bF]
 | false=>
   rw[hx]at h hk;simp only[cond_false]at h hk;obtain⟨c0,c1,c2,c3,rfl,_⟩:=sV hs hx;simp only at h hk;unfold I2 at h;cases ng with
   | true=>
     simp only[cond_true]at h hk;cases hp:cV c0 c1 c2 c3 (Ao n)with
     | none=>
       have:=nu.1 hp _ hk.2;have hb:=hk.2.2.1;grind [Ao,kP]
     | some u=>
       rw[hp]at h;simp only[za,kp,Option.isSome_some,π,ς]at h;rw[bF]at h;obtain⟨p1,p2,p3⟩:=fb.1 hp;unfold Ao at p3;rw[kP]at p3;by_cases hn:n<=k
       . have:=p3 (-k) hk.2 (by have:=hk.2.2.1;omega);omega
       omega
   | false=>
     simp only[zAj]at h hk;cases hp:c_ c0 c1 c2 c3 (kh n 0)with
     | none=>
       have:=nJ.1 hp _ hk;have:=hk.1;rw[kP]at *;omega
     | some u=>rw[hp]at h;cases h
theorem kJ{p:Int->Bool}{l:List Int}:za (l.find? p)=true↔∃x,x∈l/\p x=true:=by
 grind [za]
theorem xK(hy:y≠cy)(hd:ae da []=false):za (ff y cy cm cd mo da M D)=true↔LM M D y:=by
 have he:aa y cy=false:=aw.mpr hy;simp_all [ff,kJ,LM,n8,k_,Ps,gk,abU,kN,aq]
theorem zg{ng lg:Bool}{s:List UInt8}{e g cy cm cd:Int}{mo da:List UInt8}{M D:List Int}(ho:aV ng lg s e g)(hx:lP s)(hd:ae da []=false)(hc:cy < -10000000000000000):∀(t:Nat) (n:Int),MZ (yV ng s e n true) (yB ng s e n true)<=t->
 (mJ (cJ ng s e cy cm cd mo da M D (yV ng s e n true) (yB ng s e n true))=true↔∃k,mK ng s e k/\n<=k/\LM M D k)
 | t,n,ht=>by
   cases hb:yB ng s e n true with
   | false=>
     rw[ii];refine⟨λh=>(by cases h),λh=>?_⟩;obtain⟨k,h1,h2,_⟩:=h;have:=Jj hx hb h1;omega
   | true=>
     obtain⟨p1,p2,p3⟩:=yE hb;have bd:=iP (n:=n) (up:=true) ho;have hne:yV ng s e n true≠cy:=by omega
     cases hf:ff (yV ng s e n true) cy cm cd mo da M D with
     | some m=>
       rw[kK hf];refine⟨λ_=>⟨_,p1,p2,?_⟩,λ_=>rfl⟩;rw[<-xK hne hd,hf];rfl
     | none=>
       rw[kx ho bd.2 hf];have hm:=mC (ng:=ng) (s:=s) (e:=e) bd.2;rw[hb]at ht
       match t,ht with
       | 0,ht=>omega
       | t+1,ht=>
         rw[zg ho hx hd hc t _ (by omega)];refine exists_congr λk=>⟨λ⟨a,b,c⟩=>⟨a,by omega,c⟩,λ⟨a,b,c⟩=>⟨a,?_,c⟩⟩;have:=p3 k a b;by_cases he:k=yV ng s e n true
         . subst he;rw[<-xK hne hd,hf]at c;cases c
         omega
theorem iG{c0 c1:UInt8}{x:Int}:∀{g:Nat},x∈ay c0 c1 g↔(1<=x/\x<=g)/\agr [c0,c1] x=true
 | 0=>by grind [ay]
 | g+1=>by
   rw[aam,List.mem_append,iG (g:=g)];grind
theorem mr(y m:Int):28<=bP y m/\bP y m<=31:=Go.Proofs.YtcffhjfdlflbgaaGreatDoor.mlen_bd y m
theorem ago{m0 m1 d0 d1:UInt8}:LM (ay m0 m1 12) (ay d0 d1 31) k↔∃m,m∈ay m0 m1 12/\ay d0 d1 (bP k m).toNat≠[]:=by
 unfold LM;refine exists_congr λm=>and_congr_right λ_=>?_;have hb:=mr k m;constructor
 . rintro⟨d,hd,hle⟩ hn;have:d∈ay d0 d1 (bP k m).toNat:=iG.2 ⟨⟨(iG.1 hd).1.1,by omega⟩,(iG.1 hd).2⟩;grind
 . intro hn;obtain⟨d,hd⟩:=List.exists_mem_of_ne_nil _ hn;have:=iG.1 hd;exact⟨d,iG.2 ⟨⟨this.1.1,by omega⟩,this.2⟩,by omega⟩
def nT(c1 c2 c3:UInt8):Int:=bif ν c3.toNat 88 then 1 else bif ν c2.toNat 88 then 10 else bif ν c1.toNat 88 then 100 else 1000
def Fd(ng:Bool)(c0 c1 c2 c3:UInt8):Int:=bif ng&&aa (gu c0 c1 c2 c3 48) 0 then nT c1 c2 c3 else gu c0 c1 c2 c3 48
def jR(ng:Bool)(s:List UInt8)(e:Int):Int:=bif ν (eC s 88 88) 0 then dY ng s e else match s with|[c0,c1,c2,c3]=>(bif ng then -(gu c0 c1 c2 c3 57)else Fd ng c0 c1 c2 c3)|_=>0
def Vf(ng:Bool)(s:List UInt8)(e:Int):Int:=bif ν (eC s 88 88) 0 then dY ng s e else match s with|[c0,c1,c2,c3]=>(bif ng then -(Fd ng c0 c1 c2 c3)else gu c0 c1 c2 c3 57)|_=>0
theorem Ml{c0 c1 c2 c3:UInt8}(h0:fC c0)(h1:fC c1)(h2:fC c2)(h3:fC c3)(h:nS c0 c1 c2 c3 k):gu c0 c1 c2 c3 48<=k/\k<=gu c0 c1 c2 c3 57/\(gu c0 c1 c2 c3 48=0->1<=k->nT c1 c2 c3<=k):=by
 grind [abJ,gu,nT,lL,mt,gm]
theorem Kx{e:Int}(hx:lP s)(h:mK ng s e k):jR ng s e<=k/\k<=Vf ng s e:=by
 unfold mK at h;unfold jR Vf;cases hX:ν (eC s 88 88) 0 with
 | true=>grind
 | false=>
   rw[hX,cond_false]at h;obtain⟨c0,c1,c2,c3,rfl,h0,h1,h2,h3⟩:=sV hx hX;simp only[cond_false]at h ⊢;unfold Fd;cases ng with
   | true=>
     simp only[cond_true,ς]at h ⊢;obtain⟨b1,b2,b3⟩:=Ml h0 h1 h2 h3 h.2;cases hz:aa (gu c0 c1 c2 c3 48) 0<;>grind [ao]
   | false=>
     simp_all [Ml]
end Go.Ev
