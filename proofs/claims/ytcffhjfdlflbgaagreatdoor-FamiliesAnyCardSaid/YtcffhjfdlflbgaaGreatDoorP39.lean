import Derived.Test.YtcffhjfdlflbgaaGreatDoorP38
set_option linter.all false
open HAdd renaming hAdd->ν
open List renaming getD->ξ
open Int renaming ofNat->ο
open Nat renaming ble->π,beq->ς
open Bool renaming and_true->σ
set_option linter.all false
set_option maxRecDepth 100000
set_option maxHeartbeats 4000000
namespace Go.Ev
open Go Go.Proofs
variable{v:AV}{S:aQ}{n:Nat}{ea la:Bool}{L:List It}{K:fg}
def wG:dP:=λ
 | [.h [.b ng,.b lg,.e s,.a .i64 e,.a .i64 g,.e mo,.e da,.a .u8 a,.a .u8 b,.a .u8 c]]=>some (aH [fL ng lg s e g mo da a b c] (.a0 (vR (aP ng s e mo da) (bq ng s e mo da))))
 | _=>none
def CE:dP:=λ
 | [.h [.b ng,.b lg,.e s,.a .i64 e,.a .i64 g,.e mo,.e da,.a .u8 a,.a .u8 b,.a .u8 c]]=>some (aH [fL ng lg s e g mo da a b c,aa (aR mo) 0] (.a0 (.a .i64 (dq mo da))))
 | _=>none
def Gv:aQ:=d5 (d5 (d5 (d5 gZ 34 wG) 86 BN) 87 s9) 47 YD
noncomputable def xg(w:List AV)(n:Nat):Bool:=@decide (dp (acw w)=w/\(acw w).length=n) (Classical.propDecidable _)
noncomputable def FC:aav:=λ
 | [.h (.a .u8 k::.b false::.b false::.e []::.a .i64 0::.a .i64 0::.e []::.e []::.a .u8 0::.a .u8 0::.a .u8 0::.a .u8 0::.b false::.b false::.e []::.a .i64 0::.a .i64 0::.e []::.e []::.a .u8 0::.a .u8 0::.a .u8 0::.a .u8 0::.b false::.b false::.e []::.a .i64 0::.a .i64 0::.e []::.e []::.a .u8 0::.a .u8 0::.a .u8 0::.c 14 0 n K::.b ea::.b la::[]),.a .i64 i],[.a w false none]=>some (aH [xg w n,aS i.toNat n,ab 0 i,π n 200,nD ((acw w).getD i.toNat fP)] (.a0 (vS (W2 ea la (acw w) i.toNat),[])))
 | _,_=>none
def NI:aQ:=d5 gZ 34 wG
theorem aku(ng lg:Bool)(s:List UInt8)(e g:Int)(mo da:List UInt8)(a b c:Int){Q:EQ->Prop}:gG Q (bT Gv jE [] 33 [.h [.b ng,.b lg,.e s,.a .i64 e,.a .i64 g,.e mo,.e da,.a .u8 a,.a .u8 b,.a .u8 c]]) (bE 1020061000647006102020700640)=((λ(A B C E F G H I N O P T Z:AV)(U V u0:Bool)(W Y:Int)=>(λ(u2:cD)(u1 u3 u4:List AV)=>(U->V/\aV ng lg s e g/\ab 1 g/\kY W 0 0/\kY Y 0 0/\Q (.h u1,⟨2,[.a u1 true none,u2],[]⟩))/\(U=false->V/\π mo.length 1000/\π da.length 1000/\(u0->Q (.h u3,⟨2,[.a u3 true none,.a [G,H,I,N,O,P,T,A,A,A] true none],[]⟩))/\(u0=false->fL ng lg s e g mo da a b c/\Q (.h u4,⟨3,[.a [C,.a .i64 (aP ng s e mo da),C,.a .i64 (bq ng s e mo da)] true none,.a u4 true none,u2],[]⟩)))) (.a [G,H,I,N,O,P,T,.a .u8 a,.a .u8 b,.a .u8 c] true none) [.a .u8 3,.f,F,F,E,B,B,E,E,A,A,A,Z,C,.a .i64 (iO W 0 0),C,.a .i64 (iD Y 0 0)] [.a .u8 2,.f,G,H,I,N,O,P,T,A,A,A,A,C,B,C,B] [Z,.c 16 0 1 (fg.b 1),F,F,E,B,B,E,E,A,A,A,A,C,B,C,B]) (.a .u8 0) (.a .i64 0) (.a .i8 0) (.e []) (.b false) (.b ng) (.b lg) (.e s) (.a .i64 e) (.a .i64 g) (.e mo) (.e da) (.a .u8 1) (not (ab g 0)) (π s.length 1000) (aa (cond (eA ((s++mo)++da)) 1 0) 1) (jI ng s e g) (jL ng s e g)):=by rfl
theorem afG{f:Nat}{e:dP}{args:List AV}{t:Tr AV}(h:ak Tryz.prog cfg (d5 gZ f e))(he:e args=some t)(hv:t.b0=some v)(hc:nC (nX 14 (Cw cfg []) ⟨0,[],[]⟩ 20) args ⟨[],[],true⟩=some (args,⟨[],[],true⟩))(hm:kG 14 [] 20 v=some v):bu Tryz.prog cfg f args [] v []:=by
 have rb:∀{R S:Type} {t:Tr R} {K:R->Tr S} {a:R} {s:S},t.b0=some a->(K a).b0=some s->(t.h0 K).b0=some s:=λ{R S t K a s} h1 h2=>by
  induction t with
  | a0 b=>cases h1;exact h2
  | c0=>cases h1
  | d0 b k ih=>exact ih b h1
  | e0 i k ih=>exact ih i h1
  | f0 k=>cases h1
 have hg:tD Tryz.prog cfg f (fl 14 [] (plainW e)):=h f _ (by simp[d5,eQ]);intro D m w hi hok;refine((hg (Cw cfg []) args ⟨0,[],[]⟩ (lu true ((t.h0 λv=>.a0 (v,[])).h0 (TT 14 14 (Cw cfg []) ⟨0,[],[]⟩))) (v,⟨0,[],[]⟩) ?_ ?_).1 D m w hi hok).a0 λV w' ⟨D',m',h1,h2,h3,_⟩=>⟨D',m',h1,h2,h3⟩
 . grind [fl,plainW,ob]
 . refine rb (rb hv rfl) ?_;show(aT (kG 14 [] 20 v) _).b0=_;rw[hm];rfl
theorem ahh(hS:ak Tryz.prog cfg S):ak Tryz.prog cfg (d5 S 34 wG):=au hS λargs t v he hv=>by
 unfold wG at he;split at he
 . rename_i ng lg s e g mo da a b c;cases he;obtain⟨⟨h1,-⟩,hv⟩:=aF hv;cases hv;obtain⟨h6,i1,i2,i3,i4,h0,hx,rfl⟩:=ye.1 h1;obtain⟨p1,-,p3,p4,p5,-,-⟩:=aaj h0 hx h6;refine afG (amt aW) rfl ?_ rfl rfl;show(aH [agm s e,H4 mo,H4 da,kY (dY ng s e) (XR mo) (XR da)] _).b0=_;rw[p1,p3,p4,p5];rfl
 grind
theorem anf(hS:ak Tryz.prog cfg S):ak Tryz.prog cfg (d5 S 36 CE):=au hS λargs t v he hv=>by
 unfold CE at he;split at he
 . rename_i ng lg s e g mo da a b c;cases he;obtain⟨⟨h1,h2,-⟩,hv⟩:=aF hv;cases hv;rw[ao]at h2;obtain⟨h6,i1,i2,i3,i4,h0,hx,rfl⟩:=ye.1 h1;obtain⟨lm,ld,hds⟩:=aaX h0;obtain⟨-,-,p3,-⟩:=aaj h0 hx h6;refine nF aW ai (bE 1038114702024200140140) (R:=λQ=>(λ(C E F:Bool)(G:Int)(H:Prop)=>(λ(A I:Bool)=>(λ(B:Prop)=>(C->Q (.a .i64 3))/\(C=false->(E->Q (.a .i64 1))/\(E=false->F/\(A->A/\A/\F/\A/\A/\(I->Q (.a .i64 0))/\(I=false->H))/\(B->B/\B/\B/\B/\H)))) (A=false)) (ab 50 G) (ab G 57)) (not (ae da [])) (ae mo []) (aS 0 mo.length) (ο (UInt8.toNat (ξ mo 0 (UInt8.ofNat 0)))) (Q (.a .i64 2))) (λ_=>by rfl) λQ' hQ=>?_;try dsimp only
   cases hd:ae da []<;>cases hm:ae mo []
   . grind [dq]
   . grind
   . have hs:=aaU h0 hx hm h2;rcases x5 p3 with rfl|⟨x,y,rfl,hxy⟩
     . cases hm
     . have:ab 50 (ο x.toNat)=false:=by
        rw[bF];change 1<=ko x y/\ko x y<=12 at hs;grind [ko,dB]
       simp_all [dq,aS]
   grind [dq]
 grind
theorem afg:ec tab 33=some (dH 33,aL 33):=by rfl
theorem afb:ak Tryz.prog cfg Gv:=Ue (UJ (amn (ahh aW)))
theorem ajW(hS:ak Tryz.prog cfg S):ak Tryz.prog cfg (eQ S 33 (fl 14 [] rE)):=by
 refine bm hS (fW eb.lv Az λargs ws t r he hr=>?_);unfold rE at he;split at he
 . rename_i ng lg s e g mo da a b c;cases he;replace hr:=aF hr;obtain⟨⟨h1,-⟩,hr⟩:=hr;obtain⟨n1,n2,n3⟩:=aej (x:=⟨ng,lg,s,e,g,mo,da,a,b,c⟩) h1;obtain⟨_,_,_,_,_,_,h0⟩:=yn.1 h1;have hY:=(dC (Cc h0) dE).1;have hg0:=agN h0;dsimp only at n1 n2 n3;change (Tr.b0 (bif ab 1 g then _ else _))=_ at hr;cases hg:ab 1 g with
   | true=>
     rw[hg]at hr;cases hr;obtain⟨s1,s2,-⟩:=ahZ hY (aq.mp hg);have k1:kY (jI ng s e g) 0 0=true:=by unfold kY;rw[bX.2 s1];rfl
     have k2:kY (jL ng s e g) 0 0=true:=by unfold kY;rw[bX.2 s2];rfl
     have j0:ab g 0=false:=by grind [aq]
     refine⟨abj afb (L:=jE) afg (by simp) ai (λ_=>aku ng lg s e g mo da a b c) λQ' hQ=>?_,λx hx=>by grind⟩;dsimp only;simp only[j0,n1,hY,hg,k1,k2,Bool.not_false,true_imp_iff,reduceCtorEq,false_imp_iff,and_true,true_and];exact hQ _ (dL.a0 rfl rfl rfl rfl)
   | false=>
     rw[hg]at hr;have j0:ab g 0=true:=by grind [bF]
     change (Tr.b0 (bif cK s g mo da then _ else _))=_ at hr;cases hn:cK s g mo da with
     | true=>
       rw[hn]at hr;cases hr;have hE:=qd h1 hn;have hl:cR 14 (.a (aab 0 (aP ng s e mo da) 0 (bq ng s e mo da)) true none):=⟨rfl,λi hi=>by grind [aab,HL,bw,aC]⟩;obtain⟨_,_,_,_,_,_,hx,rfl⟩:=ye.1 hE;refine⟨abj afb (L:=jE) afg (by simp) ai (λ_=>aku ng lg s e 0 mo da a b c) λQ' hQ=>?_,λx hx=>by rw[List.mem_singleton.1 hx];exact hl⟩;dsimp only;simp only[j0,n1,n2,n3,hE,hx,cond_false,Bool.not_true,Bool.not_false,true_imp_iff,reduceCtorEq,false_imp_iff,and_true,true_and,show aa 0 0=true from rfl,show aa 0 1=false from rfl];exact hQ _ (dL.c0 (k:=2) rfl rfl hl rfl)
     | false=>
       rw[hn]at hr;cases hr;have hz:g=0:=by grind [aq]
       subst hz;unfold cK at hn;rw[show aa 0 0=true from rfl,σ,Bool.not_eq_false']at hn;refine⟨abj afb (L:=jE) afg (by simp) ai (λ_=>aku ng lg s e 0 mo da a b c) λQ' hQ=>?_,λx hx=>by grind⟩;dsimp only;simp only[j0,n1,n2,n3,hn,cond_true,Bool.not_true,Bool.not_false,true_imp_iff,reduceCtorEq,false_imp_iff,and_true,true_and,show aa 0 0=true from rfl,show aa 1 1=true from rfl];exact hQ _ (dL.a0 rfl rfl rfl rfl)
 grind
theorem afH{w:List AV}:xg w n=true↔dp (acw w)=w/\(acw w).length=n:=@decide_eq_true_iff _ (Classical.propDecidable _)
theorem akF:ak Tryz.prog cfg NI:=ahh aW
theorem QM{k:Int}{j:Nat}(hj:j<L.length)(hn:L.length<=200)(h5:nD (L.getD j fP)):bu Tryz.prog cfg 35 [.h (fS k (.c 14 0 L.length K) ea la),.a .i64 (ο j)] [.a (dp L) false none] (vS (W2 ea la L j)) []:=by
 refine ns akF dT ai (bE 10058810510054227022400331005881051005422702240100588105100542270224004224010058810510054227022400331005881051005422702240100588105100542270224004224002006400200062777777700) (R:=λQ=>(λ(C E G N u3:AV)(u1 u2:Int)(u0:Nat)(A B F:Prop)=>(λ(u4:AV)(H O P:Bool)(u5:Nat)=>(λ(u6:AV)(T:Bool)(u7:Nat)(I u8 u9:Prop)=>(λ(ua:AV)(ub:Nat)=>(λ(uc:AV)(U:List UInt8)(ud:Nat)=>(λ(ue:AV)(V:Int)(uf:Nat)=>(λ(ug:AV)(uh:Nat)=>(λ(ui:AV)(W:List UInt8)(uj:Nat)=>(λ(uk:AV)(Y:List UInt8)(ul:Nat)=>(λ(Z um uo:AV)(un:Nat)=>(λ(up:AV)(uq:Nat)(ur us ut:Prop)=>(λ(uu:AV)(uv:Nat)(uw:Prop)=>(λ(ux:AV)(uy:Nat)=>(λ(uz:AV)(uA:Nat)=>(λ(uB:AV)(uC:Nat)=>(λ(uD:AV)(uE:Nat)=>(λ(uF:AV)(uG:Nat)=>(λ(uH:AV)(uI:Nat)=>(λ(uJ:AV)(uK:Nat)=>(λ(uL uN:AV)(uM:Nat)=>(λ(uO uP:AV)(uQ uR:Prop)=>(λ(uS:Prop)=>(λ(uT:Prop->Prop)=>aS j L.length/\Sn u4/\Sn u6/\Iq ua/\eB .i64 uc/\eB .i64 ue/\Iq ug/\Iq ui/\eB .u8 uk/\eB .u8 um/\eB .u8 up/\Sn uu/\Sn ux/\Sn uz/\Iq uB/\eB .i64 uD/\eB .i64 uF/\Iq uH/\Iq uJ/\eB .u8 uL/\eB .u8 uO/\eB .u8 uP/\fL T (KK u6) U V (dx ue) W Y (dx uk) (dx um) (dx up)/\(KK uu->fL (KK ux) (KK uz) (C9 uB) (dx uD) (dx uF) (C9 uH) (C9 uJ) (dx uL) (dx uO) (dx uP)/\(ea->ea/\ea/\(O->(A->uT (I->uQ))/\(B->B/\B/\B/\B/\B/\B/\uQ))/\(u9->uS))/\(F->F/\F/\uS))/\(KK uu=false->(ea->ea/\ea/\(O->(A->uT (I->us))/\(B->B/\B/\B/\B/\B/\B/\us))/\(u9->uw))/\(F->F/\F/\uw))) (λuU=>A/\A/\A/\A/\H/\A/\A/\u8/\uU)) ((A->A/\A/\A/\A/\H/\A/\A/\ur/\(I->uR))/\(B->B/\B/\B/\B/\B/\B/\uR))) (ξ (dp L) uM C) (ξ (dp L) (ν uM 1) C) (Q (.h [N,G,E,uN])) (Q (.h [E,Z,E,uN]))) (ξ (dp L) uK C) (.a .i64 (bq (KK ux) (C9 uB) (dx uD) (C9 uH) (C9 uJ))) (ν uK 1)) (ξ (dp L) uI C) (ν uI 1)) (ξ (dp L) uG C) (ν uG 1)) (ξ (dp L) uE C) (ν uE 1)) (ξ (dp L) uC C) (ν uC 1)) (ξ (dp L) uA C) (ν uA 1)) (ξ (dp L) uy C) (ν uy 1)) (ξ (dp L) uv C) (ν uv 1)) (ξ (dp L) uq C) (ν uq 1) ((A->A/\A/\A/\A/\H/\A/\A/\ur/\(I->ut))/\(B->B/\B/\B/\B/\B/\B/\ut))) (ξ (dp L) un C) (ν un 1) (P->Q (.h [E,Z,u3,G])) (Q (.h [N,G,E,uo])) (Q (.h [E,Z,E,uo]))) (.a .i64 (aP T U V W Y)) (ξ (dp L) ul C) (.a .i64 (bq T U V W Y)) (ν ul 1)) (ξ (dp L) uj C) (C9 ui) (ν uj 1)) (ξ (dp L) uh C) (C9 ug) (ν uh 1)) (ξ (dp L) uf C) (ν uf 1)) (ξ (dp L) ud C) (dx uc) (ν ud 1)) (ξ (dp L) ub C) (C9 ua) (ν ub 1)) (ξ (dp L) u7 C) (ν u7 1)) (ξ (dp L) u5 C) (KK u4) (ν u5 1) (P=false) (P->Q (.h [N,G,u3,G])) (O=false)) (ξ (dp L) u0 C) (af .i64 u2) (aa u1 0) (aa u1 u2) (ν u0 1)) (.d []) (.a .i8 0) (.a .i64 0) (.a .i8 (Neg.neg 1)) (.a .i8 1) (ο j) (Int.sub (ο L.length) 1) (ν 0 (HMul.hMul j 21)) la (la=false) (ea=false)) (λ_=>by kernel_rfl) (hi:=(by rfl)) λQ' hQ=>?_;have kk:∀(a:IntKind) (n:Int),eB a (.a a n)=true:=λa n=>by cases a<;>rfl
 have ib:∀b:Bool,Sn (.b b)=true:=λ_=>rfl;have is:∀s:List UInt8,Iq (.e s)=true:=λ_=>rfl;have bo:∀b:Bool,KK (.b b)=b:=λ_=>rfl;have st:∀s:List UInt8,C9 (.e s)=s:=λ_=>rfl;have io:∀(a:IntKind) (n:Int),dx (.a a n)=n:=λ_ _=>rfl;have j2:=aU.2 hj;have j4:af .i64 (Int.sub (ο L.length) 1)=true:=by grind [aE,eH,eE]
 have e0:ς j 0=aa (ο j) 0:=by rfl
 have e1:ς (j+1) L.length=aa (ο j) (Int.sub (ο L.length) 1):=by
  grind [aJ,ao]
 obtain⟨f0,f1,f2,f3,f4,f5,f6,f7,f8,f9,f10,f11,f12,f13,f14,f15,f16,f17,f18,f19,f20⟩:=ac3 hj;unfold vS W2 kW oB mw at hQ;rw[e0,e1]at hQ;unfold nD gN at h5;dsimp only;generalize L.getD j fP=x at *;simp only[f0,f1,f2,f3,f4,f5,f6,f7,f8,f9,f10,f11,f12,f13,f14,f15,f16,f17,f18,f19,f20,kk,ib,is,bo,st,io,j2,j4,true_and,and_true,true_imp_iff,reduceCtorEq,false_imp_iff];clear f0 f1 f2 f3 f4 f5 f6 f7 f8 f9 f10 f11 f12 f13 f14 f15 f16 f17 f18 f19 f20 kk ib is bo st io e0 e1;generalize aa (ο j) 0=i0 at *;generalize aa (ο j) (Int.sub (ο L.length) 1)=il at *;rw[zAa]at h5;obtain⟨h5,h6⟩:=h5;rw[h5];generalize fL x.t.ng x.t.lg x.t.s x.t.e x.t.g x.t.mo x.t.da x.t.a x.t.b x.t.c=ex at *;generalize x.r=xr at *;cases ea<;>cases la<;>cases i0<;>cases il<;>cases xr<;>simp at hQ h6 ⊢<;>simp_all
theorem anQ(hS:ak Tryz.prog cfg S):ak Tryz.prog cfg (eQ S 35 (fl 14 [21] FC)):=by
 refine bm hS (fW eb.lv Az λargs ws t r he hr=>?_);unfold FC at he;split at he
 . rename_i k n K ea la i w;cases he;replace hr:=aF hr;obtain⟨⟨h1,h2,h3,h4,h5,-⟩,hr⟩:=hr;cases hr;obtain⟨f1,rfl⟩:=afH.1 h1;obtain⟨j,rfl⟩:∃j:Nat,i=ο j:=⟨i.toNat,by grind [aq]⟩;refine⟨?_,λx hx=>by grind⟩;have:=QM (k:=k) (ea:=ea) (la:=la) (K:=K) (aU.1 h2) (by simp_all) h5;rw[f1]at this;exact this
 grind
noncomputable def vO:aQ:=eQ (eQ (d5 gZ 36 CE) 33 (fl 14 [] rE)) 35 (fl 14 [21] FC)
theorem aaL:∀{L:List It},acw (dp L)=L
 | []=>rfl
 | x::xs=>by simp only[dp,acw];rw[aaL]
theorem ahB:xg (dp L) L.length=true:=afH.2 ⟨by rw[aaL],by rw[aaL]⟩
theorem aea:ak Tryz.prog cfg vO:=anQ (ajW (anf aW))
theorem alC{mo da:List UInt8}:af .u8 (dq mo da)=true:=by
 unfold dq;cases ae mo []<;>cases ae da []<;>rfl
theorem ahp:(bz (aL 8)).map (·.1)=[0]:=by rfl
noncomputable def wX(w:List AV)(n i:Nat):List Bool:=[true&&(π (0+n*21) w.length&&bc 14 (b_ w 0 (n*21))),xg (b_ w 0 (n*21)) n,aS i n,π n 200,nD ((acw (b_ w 0 (n*21))).getD i fP)]
theorem agZ{i:Nat}(h:i<L.length)(hn:L.length<=200)(he:nD (L.getD i fP)):Tk (wX (dp L) L.length i):=by
 unfold wX;rw[qi,lU,ahB,aaL];exact⟨by rw[Bool.true_and,σ,al,lh];omega,rfl,aU.2 h,al.mpr hn,he,trivial⟩
theorem rL(w:List AV)(n i:Nat)(K1:fg)(J:Nat->Value)(ea la:Bool){Q:VQ->Prop}:∀(ac:Ac),∃D,gG Q (rT vO jE [.a w false none] 8 0 139 [1,5,6,7] [.g 15 0,.f,(w6 4 1 [ie 4 n K1 ea la] ac).1,iV i] J (w6 4 1 [ie 4 n K1 ea la] ac).2) D=ba n i (aS i n/\nE (tg (wF w i)) (nE (wX w n i) (nk 4 ac (nR i (Q (.a,[.g 15 0,.f,(ij 4 (rC (W2 ea la (acw (b_ w 0 (n*21))) i)) [.a (dp [jQ (wF w i)]) true none] (w6 4 1 [ie 4 n K1 ea la] ac)).1,iX i],(ij 4 (rC (W2 ea la (acw (b_ w 0 (n*21))) i)) [.a (dp [jQ (wF w i)]) true none] (w6 4 1 [ie 4 n K1 ea la] ac)).2)))))) (Q (.b 0,[.g 15 0,.f,(w6 4 1 [ie 4 n K1 ea la] ac).1,iV i],(w6 4 1 [ie 4 n K1 ea la] ac).2))
 | none=>⟨bE 1120522070006666277777770040,by kernel_rfl⟩
 | some (m,cs)=>⟨bE 112252022070006666277777770040,by kernel_rfl⟩
def DV(L:List It)(ea la:Bool):dW:=λvs o=>match vs with
 | [.g 15 0,.f,.f,.a .i64 i]=>s7 o λk1 m K1 ea1 la1=>aH [ς m L.length,aa i 0,aa k1 4,bQ ea1 ea,bQ la1 la] (.a0 (.b 0,[.g 15 0,.f,.c 16 0 L.length (.a 0),.a .i64 (ο L.length)],⟨2,[.a (bh (km ea la L L.length)) true (some 4),.a (fS 4 (.c 14 0 L.length K1) ea la) true none],[]⟩))
 | _=>none
theorem aoy(h:nI 4 ea la L):cu Tryz.prog (cH cfg vO) (Cw cfg [.a (dp L) false none]) (lb 8 0) 139 [1,5,6,7] (DV L ea la):=by
 intro vs o t Q hv hq J;unfold DV at hv;split at hv
 . obtain⟨k1,m,K1,ea1,la1,rfl,rfl⟩:=aec hv;replace hq:=cO hq;obtain⟨⟨h1,h2,h3,h7,h8,-⟩,hq⟩:=hq;rw[aJ]at h1;rw[ao]at h2 h3;replace h7:=yl h7;replace h8:=yl h8;subst h1 h2 h3 h7 h8;refine WK aea rfl rfl (abX (by decide)) (ea:=ea1) (la:=la1) (P:=[_,_]) (T:=λe=>[e]) (λ_=>rfl) (λ_ _=>rfl) (λi hi J Q hX hE=>?_) (by rw[af7 h.n1];exact hq) J;obtain⟨D,hD⟩:=@rL (dp L) L.length i K1 J ea1 la1 Q (fF (km ea1 la1 L i));refine cg (hD.mpr (abi hi (λhl=>?_) hE));have n2:=h.n2;rw[qi,aaL];exact⟨aU.2 hl,mz (mz (abE (by rw[N2];omega) (aaH hl (by omega) (hX hl _))) (agZ hl n2 (ahr (h.it i hl)))) (afB hl).1⟩
 . cases hv
def xf(b:Bool)(X Y:Prop):Prop:=fk (not b) (rp 3 (not b) true (b=false/\X)) (rp 3 (not b) false (b/\Y))
def eR:Bool->Bool->Bool->Bool->Nat->Prop->Prop->Prop
 | true,true,i0,il,n,W,U=>fk (not i0) (rp 2 (not i0) true (sh true n (not i0/\i0=false/\fk il U W))) (rp 3 (not i0) false (i0/\U))
 | true,false,i0,_,_,W,U=>xf i0 W U
 | false,true,_,il,n,W,U=>sh true n (fk il U W)
 | false,false,_,_,_,W,_=>W
theorem amd{r i0 il:Bool}{U W:Prop}(hn:n<=1000)(hU:(!r&&(!(ea&&i0)&&!(la&&il)))=false->U)(hW:(!r&&(!(ea&&i0)&&!(la&&il)))->W):xf r (eR ea la i0 il n W U) U:=by
 have hl:=@aeY true n True hn trivial;unfold sh yT at hl;cases r<;>cases ea<;>cases la<;>cases i0<;>cases il<;>simp_all [xf,fk,rp,eR,sh,yT]
noncomputable def tV(w:List AV)(n i:Nat)(ea la:Bool)(x:It)(lf:List AV->List cD->Prop):Prop:=nE [gN x.f,aa (aR x.f.mo) 0,af .u8 (dq x.f.mo x.f.da)] (nE (wX w n i) (lf (cU x (W2 ea la (acw (b_ w 0 (n*21))) i)) []))
noncomputable def Le(w:List AV)(n i m:Nat)(ea la:Bool)(lf:List AV->List cD->Prop):Prop:=aS i n/\nE (tg (wF w i)) (xf (jQ (wF w i)).r (eR ea la (aa (ο i) 0) (aa (ο i) (Int.sub (ο n) 1)) n (tW (jQ (wF w i)) m lf) (tV w n i ea la (jQ (wF w i)) lf)) (tV w n i ea la (jQ (wF w i)) lf))
theorem rM(w:List AV)(s0 s1 s2 s3 s4 s5:cD)(n i:Nat)(K1:fg)(J:Nat->Value){Q:VQ->Prop}:∀(ac:Ac) (ea la:Bool),∃D,gG Q (rT vO jE [.a w false none] 8 0 139 [1,5,6,7] [.g 15 0,(w6 17 7 [s5,s4,s3,s2,s1,s0,ie 3 n K1 ea la] ac).1,.f,iV i] J (w6 17 7 [s5,s4,s3,s2,s1,s0,ie 3 n K1 ea la] ac).2) D=ba n i (Le w n i (16+(w6 17 7 [s5,s4,s3,s2,s1,s0,ie 3 n K1 ea la] ac).2.n) ea la λc D=>nk 17 ac (nR i (Q (.a,[.g 15 0,(ij 17 c (D++[.a (dp [jQ (wF w i)]) true none]) (w6 17 7 [s5,s4,s3,s2,s1,s0,ie 3 n K1 ea la] ac)).1,.f,iX i],(ij 17 c (D++[.a (dp [jQ (wF w i)]) true none]) (w6 17 7 [s5,s4,s3,s2,s1,s0,ie 3 n K1 ea la] ac)).2)))) (Q (.b 0,[.g 15 0,(w6 17 7 [s5,s4,s3,s2,s1,s0,ie 3 n K1 ea la] ac).1,.f,iV i],(w6 17 7 [s5,s4,s3,s2,s1,s0,ie 3 n K1 ea la] ac).2))
 | none,true,true=>⟨bE 112052207666670566230033120522076666700062300533120512054120542006120522076666700643020200520243020020245277777770040,by kernel_rfl⟩
 | none,true,false=>⟨bE 112052207666670566230033120522076666700062300533120512054120542000630200520243020020245277777770040,by kernel_rfl⟩
 | none,false,true=>⟨bE 1120522076666705662300331205120541205420061205220766667006452063020020245277777770040,by kernel_rfl⟩
 | none,false,false=>⟨bE 1120522076666705662300331205120541205420005663020020245277777770040,by kernel_rfl⟩
 | some (m,cs),true,true=>⟨bE 112252022076666705662300331225202207666670006230053312252012252041225204200612252022076666700643020200520243020020245277777770040,by kernel_rfl⟩
 | some (m,cs),true,false=>⟨bE 1122520220766667056623003312252022076666700062300533122520122520412252042000630200520243020020245277777770040,by kernel_rfl⟩
 | some (m,cs),false,true=>⟨bE 11225202207666670566230033122520122520412252042006122520220766667006452063020020245277777770040,by kernel_rfl⟩
 | some (m,cs),false,false=>⟨bE 112252022076666705662300331225201225204122520420005663020020245277777770040,by kernel_rfl⟩
def D5(L:List It)(ea la:Bool):dW:=λvs o=>match vs with
 | [.g 15 0,.f,.f,.a .i64 i]=>s7 o λk1 m K1 ea1 la1=>aH [ς m L.length,aa i 0,aa k1 3,bQ ea1 ea,bQ la1 la] (.a0 (.b 0,[.g 15 0,.c 22 0 L.length (.a 0),.f,.a .i64 (ο L.length)],⟨8,[.a (aaf ea la L L.length) true (some 17),qb ea la L L.length 5,qb ea la L L.length 4,qb ea la L L.length 3,qb ea la L L.length 2,qb ea la L L.length 1,qb ea la L L.length 0,.a (fS 3 (.c 14 0 L.length K1) ea la) true none],[]⟩))
 | _=>none
theorem aqo(h:nI 3 ea la L)(h5:L.length<=6):cu Tryz.prog (cH cfg vO) (Cw cfg [.a (dp L) false none]) (lb 8 0) 139 [1,5,6,7] (D5 L ea la):=by
 intro vs o t Q hv hq J;unfold D5 at hv;split at hv
 . obtain⟨k1,m,K1,ea1,la1,rfl,rfl⟩:=aec hv;replace hq:=cO hq;obtain⟨⟨h1,h2,h3,h7,h8,-⟩,hq⟩:=hq;rw[aJ]at h1;rw[ao]at h2 h3;replace h7:=yl h7;replace h8:=yl h8;subst h1 h2 h3 h7 h8;refine aju aea rfl rfl (ea:=ea1) (la:=la1) h5 (abX (by decide)) (P:=[_]) (T:=λe=>[_,e]) (λ_=>rfl) (λ_ _=>rfl) (λi hi J Q hX hE=>?_) (by obtain⟨m,hm⟩:∃m,L.length=m+1:=⟨L.length-1,by have:=h.n1;omega⟩;rw[hm]at hq ⊢;exact hq) J;obtain⟨D,hD⟩:=@rM (dp L) (qb ea1 la1 L i 0) (qb ea1 la1 L i 1) (qb ea1 la1 L i 2) (qb ea1 la1 L i 3) (qb ea1 la1 L i 4) (qb ea1 la1 L i 5) L.length i K1 J Q (wU ea1 la1 L i) ea1 la1;refine cg (hD.mpr (abi hi (λhl=>?_) hE));obtain⟨k1,k2⟩:=afB hl;unfold Le tV;rw[k2,qi,aaL,show aa (ο i) (Int.sub (ο L.length) 1)=ς (i+1) L.length by grind [aJ,ao]];refine⟨aU.2 hl,mz (amd (by omega) (λhd=>?_) λhd=>?_) k1⟩
   . obtain⟨u1,u2,u3⟩:=ah9 h hl hd;exact mz (mz (adV (by omega) (aaH hl (by omega) (hX _ [] hl (afv (P:=True) hd).1 (afv hd).2 _))) (agZ hl h.n2 u3)) (bs:=[_,_,_]) ⟨u1,u2,alC,trivial⟩
   . exact ajt (afr h hl).1 hd λc B h0 h1=>adV (by omega) (aaH hl (by omega) (hX c B hl h0 h1 _))
 . cases hv
noncomputable def zn:aQ:=eQ (eQ gZ 14 (fl 14 [21] sI)) 37 (fl 14 [4] FN)
def F9(L:List It)(ea la:Bool):cx:=iz jE 0 (d9 139 [1,5,6,7] (DV L ea la))
def Ga(L:List It)(ea la:Bool):cx:=iz jE 0 (d9 139 [1,5,6,7] (D5 L ea la))
theorem Pf(w:List AV)(L:List It)(ea la:Bool)(n:Nat)(K:fg){Q:EQ->Prop}:gG Q (bT zn (F9 L ea la) [.a w false none] 8 [.h (fS 4 (.c 14 0 n K) ea la)]) (bE 177002200205226666)=((λ(A B C F O:AV)(E N:Nat)=>(λ(H P:List AV)(T:Nat)=>(λ(I:List AV)=>(λ(G:List Rn)=>and true (and (π (ν 0 N) w.length) (bc 14 P))/\abk P n 4 ea la/\ς n E/\bQ ea ea/\bQ la la/\(∀J1:Nat->Value,and true (and (π (ν 0 T) H.length) (bc 14 I))/\eJ I/\ς G.length E/\π 1 E/\π E 900/\aeK G/\Q (.d [.c 18 0 1 (fg.b 1),C],⟨4,[.a [.a .u8 1,.c 17 0 (pP G) (fg.a 0),F,F,B,C,C,B,B,A,A,A,A,O,C,O,C] true none,.a (bh (cA G E)) true (some 4),.a H true (some 4),.a [.a .u8 4,F,F,B,C,C,B,B,A,A,A,A,F,F,B,C,C,B,B,A,A,A,A,F,F,B,C,C,B,B,A,A,A,.c 14 0 E K,.b ea,.b la] true none],[]⟩))) (g8 I)) (b_ H 0 T)) (bh (km ea la L E)) (b_ w 0 N) (HMul.hMul E 4)) (.a .u8 0) (.e []) (.a .i64 0) (.b false) (.a .i8 0) L.length (HMul.hMul n 21)):=by rfl
theorem Ph(w:List AV)(L:List It)(ea la:Bool)(n:Nat)(K:fg){Q:EQ->Prop}:gG Q (bT zn (Ga L ea la) [.a w false none] 8 [.h (fS 3 (.c 14 0 n K) ea la)]) (bE 1002200205226666)=((λ(A C E F:AV)(B G:Nat)=>(λ(H:List AV)=>and true (and (π (ν 0 G) w.length) (bc 14 H))/\abk H n 3 ea la/\ς n B/\bQ ea ea/\bQ la la/\(∀J1:Nat->Value,Q (.d [.c 22 0 B (fg.a 0),E],⟨8,[.a (aaf ea la L B) true (some 17),qb ea la L B 5,qb ea la L B 4,qb ea la L B 3,qb ea la L B 2,qb ea la L B 1,qb ea la L B 0,.a [.a .u8 3,F,F,C,E,E,C,C,A,A,A,A,F,F,C,E,E,C,C,A,A,A,A,F,F,C,E,E,C,C,A,A,A,.c 14 0 B K,.b ea,.b la] true none],[]⟩))) (b_ w 0 G)) (.a .u8 0) (.e []) (.a .i64 0) (.b false) L.length (HMul.hMul n 21)):=by rfl
theorem acM:ec tab 8=some (dH 8,aL 8):=by rfl
theorem aii:ak Tryz.prog cfg zn:=al9 (anl aW)
theorem alI(h:nI 4 ea la L)(h5:L.length<=6):eJ (bh (km ea la L L.length))/\aeK (km ea la L L.length)/\cA (km ea la L L.length) L.length=rF (km ea la L L.length):=by
 obtain⟨-,-,hc,hi⟩:=aef h h5;have e:cA (km ea la L L.length) L.length=cA (km ea la L L.length) (km ea la L L.length).length:=by rw[N2]
 refine⟨adX hi,List.all_eq_true.2 λx hx=>ao.mpr (hc x hx),e.trans (am0 λx hx=>?_)⟩;obtain⟨i,hi',rfl⟩:=List.mem_map.1 hx;have hb:=ahL (h.it i (List.mem_range.1 hi'));have hc:=hc _ hx;unfold W2 kW at hc ⊢;constructor<;>grind
theorem Q2{ea la:Bool}{L:List It}{K:fg}(h:nI 4 ea la L)(h5:L.length<=6):bu Tryz.prog cfg 8 [.h (fS 4 (.c 14 0 L.length K) ea la)] [.a (dp L) false none] (.d [.c 16 0 1 (.b 1),.a .i64 0]) [.a (ft 1 (.c 15 0 (rF (km ea la L L.length)).length (.a 0)) gL 0 0 0 0 0) true none,.a (bh (rF (km ea la L L.length))) true (some 4)]:=by
 obtain⟨o1,o2,o3⟩:=alI h h5;refine abj aii (L:=F9 L ea la) acM (by simp) (dv ahp λi hi e he st Q hw=>?_) (λ_=>Pf (dp L) L ea la L.length K) λQ' hQ=>?_
 . have hi:i=0:=by grind
   subst hi;cases he;exact adh (bR (cC.a0 aea) (by decide) rfl (aoy h) hw)
 . try dsimp only
   have n1:=h.n1;have hB:abk (dp L) L.length 4 ea la=true:=rd.2 ⟨L,rfl,rfl,h⟩;have hl:(km ea la L L.length).length=L.length:=N2;have hw4:b_ (bh (km ea la L L.length)) 0 (L.length*4)=bh (km ea la L L.length):=by
    grind [b_,kC]
   have l1:π (0+L.length*21) (dp L).length=true:=by rw[al,lh];omega
   have l2:π (0+L.length*4) (bh (km ea la L L.length)).length=true:=by grind [al,kC]
   have l3:ς L.length L.length=true:=aJ.mpr rfl;have l4:∀b:Bool,bQ b b=true:=λb=>by cases b<;>rfl
   have l5:ς (km ea la L L.length).length L.length=true:=aJ.mpr hl;have l6:π 1 L.length=true:=al.mpr n1;have l7:π L.length 900=true:=al.mpr (by omega);have l8:pP (km ea la L L.length)=(rF (km ea la L L.length)).length:=by grind [pP]
   rw[qi,lU,hw4,ma,mZ,hB,l1,l2,l3,o1,o2,o3,l5,l6,l7,l8];simp only[l4,σ,true_and,and_true,true_imp_iff,reduceCtorEq,false_imp_iff];exact(λ_=>hQ _ (dL.fw dT (k:=1) (x:=gL) (p:=0) (a:=0) (b:=0) (c:=0) (d:=0) (kd:=2) (kf:=3) (by decide) (by decide) (by decide) rfl rfl sR))
theorem aqc{news:List cD}(h:nI 3 ea la L)(h5:L.length<=6)(hv:dL [.a (dp L) false none] v news (.d [.c 22 0 L.length (.a 0),.a .i64 0],ahJ ea la L (.a (fS 3 (.c 14 0 L.length K) ea la) true none) L.length)):bu Tryz.prog cfg 8 [.h (fS 3 (.c 14 0 L.length K) ea la)] [.a (dp L) false none] v news:=by
 refine abj aii (L:=Ga L ea la) acM (by simp) (dv ahp λi hi e he st Q hw=>?_) (λ_=>Ph (dp L) L ea la L.length K) λQ' hQ=>?_
 . have hi:i=0:=by grind
   subst hi;cases he;exact adh (bR (cC.a0 aea) (by decide) rfl (aqo h h5) hw)
 . try dsimp only
   have n1:=h.n1;have hB:abk (dp L) L.length 3 ea la=true:=rd.2 ⟨L,rfl,rfl,h⟩;have l1:π (0+L.length*21) (dp L).length=true:=by rw[al,lh];omega
   have l3:ς L.length L.length=true:=aJ.mpr rfl;have l4:∀b:Bool,bQ b b=true:=λb=>by cases b<;>rfl
   rw[qi,lU,hB,l1,l3];simp only[l4,σ,true_and,and_true,true_imp_iff,reduceCtorEq,false_imp_iff];refine λ_=>hQ _ ?_;obtain⟨m,hm⟩:∃m,L.length=m+1:=⟨L.length-1,by omega⟩;have hv':=hv;rw[hm,aeX,<-hm]at hv';exact hv'
def Ct:dP:=λ
 | [.h [.b ng,.b lg,.e s,.a .i64 e,.a .i64 g,.e mo,.e da,.a .u8 a,.a .u8 b,.a .u8 c]]=>some (aH [wa ng lg s e g mo da a b c] (.a0 (.a .i64 0)))
 | _=>none
def rW:aQ:=d5 (d5 (eQ (d5 gZ 34 wG) 33 (fl 14 [] rE)) 46 Ct) 21 aiH
section
variable(x y:Da)(c:Nat){Q:FQ->Prop}
theorem O5(z:Bool):gG Q (fT rW (S0 z) 8 [.h (acB x (Un z c))]) (bE 11414205625666666666666666666666)=tS z x Q:=by cases z<;>kernel_rfl
theorem OG(z:Bool):gG Q (fT rW (S0 z) 8 [.h (ra (sZ 1 x) (sZ 1 y) (Un z c))]) (bE 16205626632200066666666666666666666)=(dJ 1 x/\dJ 1 y/\not (ab (jM 1 x 1 y) 0)=false/\gN x/\gN y/\Q (j7 z 0 (jc x) 0 (iQ y))):=by cases z<;>kernel_rfl
theorem OO(z:Bool):gG Q (fT rW (S0 z) 8 [.h (ra (sZ 1 x) (sZ 2 y) (Un z c))]) (bE 100620662200066666666666666666666)=(dJ 1 x/\dJ 2 y/\gN x/\Q (j7 z 0 (jc x) 1 0)):=by cases z<;>kernel_rfl
theorem OZ(z:Bool):gG Q (fT rW (S0 z) 8 [.h (ra (sZ 1 x) (sZ 3 y) (Un z c))]) (bE 100620662200066666666666666666666)=(dJ 1 x/\dJ 3 y/\gN x/\Q (nw z 5 gL 0 0 (jc x) 1 0)):=by cases z<;>kernel_rfl
theorem O1(z:Bool):gG Q (fT rW (S0 z) 8 [.h (ra (sZ 2 x) (sZ 1 y) (Un z c))]) (bE 162000662200066666666666666666666)=(dJ 2 x/\dJ 1 y/\gN y/\Q (j7 z (-1) 0 0 (iQ y))):=by cases z<;>kernel_rfl
theorem O3(z:Bool):gG Q (fT rW (S0 z) 8 [.h (ra (sZ 3 x) (sZ 1 y) (Un z c))]) (bE 100052000662200066666666666666666666)=(dJ 3 x/\dJ 1 y/\gN y/\Q (nw z 4 gL 0 (-1) 0 0 (iQ y))):=by cases z<;>kernel_rfl
end
theorem amj(hS:ak Tryz.prog cfg S):ak Tryz.prog cfg (d5 S 46 Ct):=au hS λargs t v he hv=>by
 unfold Ct at he;split at he
 . cases he;obtain⟨⟨h1,-⟩,hv⟩:=aF hv;cases hv;obtain⟨h6,i1,_,_,_,_,h0⟩:=yn.1 h1;have n1:=al.mpr h6;refine afG (aeN aW) rfl ?_ rfl rfl;show(aH [π _ 1000,af .i64 _] _).b0=_;rw[n1,i1,h0];rfl
 grind
theorem act:ak Tryz.prog cfg rW:=agM (amj (ajW (ahh aW)))
theorem agx{x:Da}(h:dJ 1 x):gN x=true:=by
 simp_all [dJ,aa,gN]
section
variable{x y:Da}{z:Bool}{c:Nat}
def zT(h:dF x):=ajA (z:=z) (c:=c) act acM (λx Q=>O5 x c z) h
theorem Rj(hk:dJ 1 x)(hl:dJ 1 y)(hp:jM 1 x 1 y=0):bu Tryz.prog cfg 8 [.h (ra (sZ 1 x) (sZ 1 y) (Un z c))] (S0 z) (j7 z 0 (jc x) 0 (iQ y)).1 (j7 z 0 (jc x) 0 (iQ y)).2:=zd act jb acM (by simp) (λQ=>OG x y c z) λQ hQ=>⟨hk,hl,by rw[hp];rfl,agx hk,agx hl,hQ⟩
theorem Rk(hk:dJ 1 x)(hl:dJ 2 y):bu Tryz.prog cfg 8 [.h (ra (sZ 1 x) (sZ 2 y) (Un z c))] (S0 z) (j7 z 0 (jc x) 1 0).1 (j7 z 0 (jc x) 1 0).2:=zd act jb acM (by simp) (λQ=>OO x y c z) λQ hQ=>⟨hk,hl,agx hk,hQ⟩
theorem Rp(hk:dJ 1 x)(hl:dJ 3 y):bu Tryz.prog cfg 8 [.h (ra (sZ 1 x) (sZ 3 y) (Un z c))] (S0 z) (nw z 5 gL 0 0 (jc x) 1 0).1 (nw z 5 gL 0 0 (jc x) 1 0).2:=zd act jb acM (by simp) (λQ=>OZ x y c z) λQ hQ=>⟨hk,hl,agx hk,hQ⟩
theorem Rq(hk:dJ 2 x)(hl:dJ 1 y):bu Tryz.prog cfg 8 [.h (ra (sZ 2 x) (sZ 1 y) (Un z c))] (S0 z) (j7 z (-1) 0 0 (iQ y)).1 (j7 z (-1) 0 0 (iQ y)).2:=zd act jb acM (by simp) (λQ=>O1 x y c z) λQ hQ=>⟨hk,hl,agx hl,hQ⟩
theorem Rr(hk:dJ 3 x)(hl:dJ 1 y):bu Tryz.prog cfg 8 [.h (ra (sZ 3 x) (sZ 1 y) (Un z c))] (S0 z) (nw z 4 gL 0 (-1) 0 0 (iQ y)).1 (nw z 4 gL 0 (-1) 0 0 (iQ y)).2:=zd act jb acM (by simp) (λQ=>O3 x y c z) λQ hQ=>⟨hk,hl,agx hl,hQ⟩
end
def af0(b:Nat)(ea la:Bool)(L:List It)(i:Nat):List AV:=
 bif mf ea la L i then(bif ab 1 (L.getD i fP).f.g then ft 3 .f gL 1 0 (bf (jI (L.getD i fP).f.ng (L.getD i fP).f.s (L.getD i fP).f.e (L.getD i fP).f.g)) 0 (bf (jL (L.getD i fP).f.ng (L.getD i fP).f.s (L.getD i fP).f.e (L.getD i fP).f.g+1)-1)
  else bif fy (L.getD i fP).f then ft 1 (.c (b+i) 0 1 (.b 1)) gL 0 0 0 0 0
  else ft 2 .f ⟨(L.getD i fP).f.ng,(L.getD i fP).f.lg,(L.getD i fP).f.s,(L.getD i fP).f.e,0,(L.getD i fP).f.mo,(L.getD i fP).f.da,0,0,0⟩ 0 0 0 0 0)
 else ft 3 .f gL (dq (L.getD i fP).f.mo (L.getD i fP).f.da) (W2 ea la L i).a (W2 ea la L i).b (W2 ea la L i).c (W2 ea la L i).d
def aeF(b:Nat)(ea la:Bool)(L:List It):Nat->List AV
 | 0=>[]
 | n+1=>aeF b ea la L n++af0 b ea la L n
theorem af4{b k j:Nat}{ρ:List (Nat×Nat)}{ea la:Bool}{L:List It}:∀{n:Nat},(∀i,i<n->To b ρ (16+i)=some (j+i))->yw (kG b ρ 20) (aaf ea la L n)=some (aeF j ea la L n)
 | 0,_=>rfl
 | n+1,h=>rB (af4 (k:=k) λi hi=>h i (by omega)) (by
   grind [abl,af0,acY,aa2])
def aia(ea la:Bool)(L:List It)(rw:Bool)(g:Option Nat):List cD:=[.a (aeF 15 ea la L L.length) rw g,qb ea la L L.length 5,qb ea la L L.length 4,qb ea la L L.length 3,qb ea la L L.length 2,qb ea la L L.length 1,qb ea la L L.length 0]
theorem dL.oo{rw:Bool}{g:Option Nat}{C:fg}{k:Nat}{os:List cD}(hk:k=7\/k=8)(hn:k<n)(h5:L.length<=6)(h0:os.getD (n-1-k) .b=.a (aaf ea la L L.length) rw g)(h1:∀i,i<6->os.getD (n-1-(1+i)) .b=qb ea la L L.length i):dL [.a (dp L) false none] (.d [.c 21 0 L.length C,.a .i64 0]) (aia ea la L rw g) (.d [.c (15+k) 0 L.length C,.a .i64 0],⟨n,os,[]⟩):=by
 have hv':kG ((Cw cfg [.a (dp L) false none]).lo+0) (eM (Cw cfg [.a (dp L) false none]).lo 0 [1,2,3,4,5,6,k]) 20 (.d [.c (15+k) 0 L.length C,.a .i64 0])=some (.d [.c 21 0 L.length C,.a .i64 0]):=by
  rcases hk with rfl|rfl<;>rfl
 have hm:∀i,i<L.length->To 15 (eM 15 0 [1,2,3,4,5,6,k]) (16+i)=some (15+i):=λi hi=>by
  rcases(by omega:i=0\/i=1\/i=2\/i=3\/i=4\/i=5)with rfl|rfl|rfl|rfl|rfl|rfl<;>rcases hk with rfl|rfl<;>rfl
 refine(oX eb.lv (C:=Cw cfg [.a (dp L) false none]) (st:=⟨.c0 (.d [.c (15+k) 0 L.length C,.a .i64 0]) .b0 .b0,1,⟨n,os,[]⟩,[],none⟩) (kb:=0) (sel:=[1,2,3,4,5,6,k]) (ts':=.c0 (.d [.c 21 0 L.length C,.a .i64 0]) .b0 .b0) (o':=⟨7,aia ea la L rw g,[]⟩) (B6 dT) (Nat.zero_le _) (λs hs=>?_) (by simp;omega) (λp hp=>by grind) rfl rfl rfl (λi hi=>absurd hi (Nat.not_lt_zero i)) (λt ht=>?_) ?_ (λd hd=>by grind) (λi hi=>by grind)).b0 λs hs=>?_
 . grind
 . have sl:∀i,i<6->WD 15 (eM 15 0 [1,2,3,4,5,6,k]) (os.getD (n-1-(1+i)) .b) (qb ea la L L.length i):=λi hi=>.inl ⟨(h1 i hi).symm,by grind [fK]⟩;have:t=0\/t=1\/t=2\/t=3\/t=4\/t=5\/t=6:=by grind
   rcases this with rfl|rfl|rfl|rfl|rfl|rfl|rfl
   . exact sl 0 (by decide)
   . exact sl 1 (by decide)
   . exact sl 2 (by decide)
   . exact sl 3 (by decide)
   . exact sl 4 (by decide)
   . exact sl 5 (by decide)
   . exact .inr ⟨_,_,_,_,h0,af4 (k:=0) hm,rfl⟩
 . grind [xB,ob]
 . rw[hs];exact⟨rfl,rfl⟩
theorem wt{ea la:Bool}{L:List It}{K:fg}(h:nI 3 ea la L)(h5:L.length<=6):bu Tryz.prog cfg 8 [.h (fS 3 (.c 14 0 L.length K) ea la)] [.a (dp L) false none] (.d [.c 21 0 L.length (.a 0),.a .i64 0]) (aia ea la L true (some 17)):=by
 refine aqc h h5 ?_;have n1:=h.n1;obtain⟨m,hm⟩:∃m,L.length=m+1:=⟨L.length-1,by omega⟩;rw[show ahJ ea la L (.a (fS 3 (.c 14 0 L.length K) ea la) true none) L.length=⟨8,[.a (aaf ea la L L.length) true (some 17),qb ea la L L.length 5,qb ea la L L.length 4,qb ea la L L.length 3,qb ea la L L.length 2,qb ea la L L.length 1,qb ea la L L.length 0,.a (fS 3 (.c 14 0 L.length K) ea la) true none],[]⟩by rw[hm];rfl];exact dL.oo (.inl rfl) (by decide) h5 rfl λi hi=>by rcases(by omega:i=0\/i=1\/i=2\/i=3\/i=4\/i=5)with rfl|rfl|rfl|rfl|rfl|rfl<;>rfl
theorem aiS{cs vs:List AV}(h:cs.length=vs.length):JL cs 0 vs=vs:=by
 cases cs<;>exact aeC h
theorem afN:∀{a b:List AV},dM a->dM b->dM (a++b)=true
 | [],_,_,h=>h
 | v::a,b,h,h'=>by
   rw[dM,zAa]at h;show(KU v&&dM (a++b))=true;rw[h.1,afN h.2 h'];rfl
theorem ael{ea la:Bool}{L:List It}:∀{n:Nat},dM (aaf ea la L n)=true
 | 0=>rfl
 | n+1=>afN ael (by
   unfold abl;cases mf ea la L n<;>cases ab 1 (L.getD n fP).f.g<;>cases fy (L.getD n fP).f<;>rfl)
theorem alr:ak Tryz.prog cfg Hc:=ajV aW
theorem Q9{ea la:Bool}{L:List It}{K:fg}(h:nI 3 ea la L)(h5:L.length<=6):bu Tryz.prog cfg 7 [.h (fS 3 (.c 14 0 L.length K) ea la)] [.a (dp L) false none] (.d [.c 21 0 L.length (.b L.length),.a .i64 0]) (aia ea la L true none):=by
 refine abj alr (L:=Gf L ea la) abc (by simp) (dv afR λi hi e he st Q hw=>?_) (λ_=>Pn (dp L) L ea la L.length K) λQ' hQ=>?_
 . have hi:i=0:=by grind
   subst hi;cases he;exact adh (bR (cC.a0 aj0) (by decide) rfl (aog h h5) hw)
 . try dsimp only
   have n1:=h.n1;have hB:abk (dp L) L.length 3 ea la=true:=rd.2 ⟨L,rfl,rfl,h⟩;have hl:(aaf ea la L L.length).length=L.length*17:=adr;have hT:List.take (L.length*17) (List.drop 0 (aaf ea la L L.length))=aaf ea la L L.length:=by grind
   have l1:π (0+L.length*21) (dp L).length=true:=by rw[al,lh];omega
   have l3:ς L.length L.length=true:=aJ.mpr rfl;have l4:∀b:Bool,bQ b b=true:=λb=>by cases b<;>rfl
   have l5:aa (ο L.length) 0=false:=by grind [aw]
   have l6:π L.length L.length=true:=al.mpr (Nat.le_refl _);have l7:π L.length 10000=true:=al.mpr (by omega);rw[qi,lU,hB,l1,l3,hT];simp only[l4,l5,l6,l7,hl,aa0,σ,true_and,and_true,true_imp_iff,reduceCtorEq,false_imp_iff];have hz:∀z:List AV,z.length=17->(mX z L.length).length=L.length*17:=λz hz=>by rw[zu,hz]
   have l8:π (0+L.length*17) (L.length*17)=true:=by simp
   rw[aiS (by simp_all),hz _ rfl,l8,ael];refine λ_=>⟨rfl,rfl,rfl,hQ _ (dL.oo (.inr rfl) (by decide) h5 rfl λi hi=>by rcases(by omega:i=0\/i=1\/i=2\/i=3\/i=4\/i=5)with rfl|rfl|rfl|rfl|rfl|rfl<;>rfl)⟩
end Go.Ev
