import Derived.Test.YtcffhjfdlflbgaaGreatDoorP21
set_option linter.all false
open Nat renaming ble->ν,beq->ξ,le_trans->υ
open Option renaming getD_some->ο
open Bool renaming true_and->π,and_true->ς
open HAdd renaming hAdd->σ
open HMul renaming hMul->τ
set_option linter.all false
set_option maxRecDepth 100000
set_option maxHeartbeats 4000000
namespace Go.Ev
open Go Go.Proofs
variable{M D:List Int}{ng lg:Bool}{s mo da:List UInt8}{y cy cm cd g a b c k:Int}{S:aQ}
abbrev Kc:List Nat:=[3,4,5,6,7,8,9,10,11,12,13]
def Lb(M D:List Int):cx:=iz jE 2 (d9 127 Oi (Me M D))
def xJ(ng:Bool)(s:List UInt8)(e cy cm cd:Int)(mo da:List UInt8)(M D:List Int):Nat->Int->Bool->Option (Int×Int×Int)
 | 0,_,_=>none
 | f+1,y,ok=>bif ok then(match ff y cy cm cd mo da M D with
   | some m=>some (y,m,kp (k_ y cy cm cd mo da D m))
   | none=>xJ ng s e cy cm cd mo da M D f (yV ng s e (y+1) true) (yB ng s e (y+1) true))else none
def MZ(y:Int)(ok:Bool):Nat:=bif ok then(10000000000000001-y).toNat+1 else 0
def jb(ng:Bool)(s:List UInt8)(e cy cm cd:Int)(mo da:List UInt8)(M D:List Int)(y:Int)(ok:Bool):Option (Int×Int×Int):=xJ ng s e cy cm cd mo da M D (MZ y ok+1) y ok
def mJ(x:Option (Int×Int×Int)):Bool:=x.isSome
def p1(x:Option (Int×Int×Int)):Int:=(x.getD (0,0,0)).1
def p2(x:Option (Int×Int×Int)):Int:=(x.getD (0,0,0)).2.1
def p3(x:Option (Int×Int×Int)):Int:=(x.getD (0,0,0)).2.2
def LB(M D:List Int):dW:=λvs o=>match vs,o with
 | [.h 16 0,.h 17 0,.h 18 0,.h 19 0,.b false,.a .i64 1,.c 14 0 n1 k1,.c 15 0 n2 k2,.i 175 [] [.h 18 0],.a .i64 y,.b ok],
   ⟨4,[.a [.a .i64 0,.a .i64 0,.a .i64 0] true none,.a [.b true] true none,.a [.a .i64 cy,.a .i64 cm,.a .i64 cd] true none,.a [.b ng,.b lg,.e s,.a .i64 e,.a .i64 g,.e mo,.e da,.a .u8 a,.a .u8 b,.a .u8 c,.c 14 0 n1' k1a,.c 15 0 n2' k2a] true none],[]⟩=>
   some (aH [ν n1 1000,ξ M.length n1,ν n2 1000,ξ D.length n2,M.all (okM da),aV ng lg s e g,ν s.length 1000,lP s,ab (-10000000000000000) y,ab y 10000000000000000,ξ n1' n1,ξ n2' n2]
    (.d0 (mJ (jb ng s e cy cm cd mo da M D y ok)) λx=>bif x then
    .e0 λJ=>.a0 (.c,[.h 16 0,.h 17 0,.h 18 0,.h 19 0,.b true,.a .i64 1,.c 14 0 n1 k1,.c 15 0 n2 k2,.i 175 [] [.h 18 0],.j (J 0),.j (J 1)],
     ⟨4,[.a [.a .i64 (p1 (jb ng s e cy cm cd mo da M D y ok)),.a .i64 (p2 (jb ng s e cy cm cd mo da M D y ok)),.a .i64 (p3 (jb ng s e cy cm cd mo da M D y ok))] true none,.a [.b true] true none,.a [.a .i64 cy,.a .i64 cm,.a .i64 cd] true none,.a [.b ng,.b lg,.e s,.a .i64 e,.a .i64 g,.e mo,.e da,.a .u8 a,.a .u8 b,.a .u8 c,.c 14 0 n1' k1a,.c 15 0 n2' k2a] true none],[]⟩)
    else .e0 λJ=>.a0 (.b 0,[.h 16 0,.h 17 0,.h 18 0,.h 19 0,.b false,.a .i64 1,.c 14 0 n1 k1,.c 15 0 n2 k2,.i 175 [] [.h 18 0],.j (J 0),.b false],o)))
 | _,_=>none
theorem cz{M:List Int}:bc 14 (aI M)=true:=by
 unfold bc aI;rw[List.all_map];exact List.all_eq_true.2 λx _=>rfl
theorem qz{M:List Int}:b_ (aI M) 0 (M.length*1)=aI M:=by
 grind [b_,aI,List.length_map]
theorem cY:(aI M).length=M.length:=by grind [aI]
theorem mC{e:Int}(hy:y<=10000000000000000):MZ (yV ng s e (y+1) true) (yB ng s e (y+1) true)<MZ y true:=by
 unfold MZ;cases h:yB ng s e (y+1) true with
 | true=>have:=WR h;grind
 | false=>simp
theorem xW{ng:Bool}{s:List UInt8}{lg:Bool}{e g cy cm cd:Int}{mo da:List UInt8}{M D:List Int}(ho:aV ng lg s e g):∀(f f':Nat) (y:Int) (ok:Bool),y<=10000000000000000->MZ y ok<f->MZ y ok<f'->xJ ng s e cy cm cd mo da M D f y ok=xJ ng s e cy cm cd mo da M D f' y ok
 | 0,_,_,_,_,h,_=>absurd h (Nat.not_lt_zero _)
 | _+1,0,_,_,_,_,h=>absurd h (Nat.not_lt_zero _)
 | f+1,f'+1,y,ok,hy,h1,h2=>by
   unfold xJ;cases ok with
   | false=>rfl
   | true=>
     rw[cond_true,cond_true];have hm:=mC (ng:=ng) (s:=s) (e:=e) hy;cases ff y cy cm cd mo da M D with
     | some m=>rfl
     | none=>exact xW ho f f' _ _ (iP ho).2 δ δ
theorem ii{e:Int}:jb ng s e cy cm cd mo da M D y false=none:=rfl
theorem kK{e:Int}{m:Int}(h:ff y cy cm cd mo da M D=some m):jb ng s e cy cm cd mo da M D y true=some (y,m,kp (k_ y cy cm cd mo da D m)):=by
 grind [jb,xJ]
theorem kx{e:Int}(ho:aV ng lg s e g)(hy:y<=10000000000000000)(h:ff y cy cm cd mo da M D=none):jb ng s e cy cm cd mo da M D y true=jb ng s e cy cm cd mo da M D (yV ng s e (y+1) true) (yB ng s e (y+1) true):=by
 have hm:=mC (ng:=ng) (s:=s) (e:=e) hy;unfold jb;rw[xJ,h];exact xW ho _ _ _ _ (iP ho).2 δ δ
theorem Ak:((bz (lb 96 0)).getD 0 (0,.skip)).2=lb 96 1:=κ
theorem zf:(bz (lb 96 0)).map (·.1)=[2,4]:=κ
theorem NM(M D:List Int):qI Tryz.prog (cH cfg V2) (Cw cfg [.a (aI M) false none,.a (aI D) false none]) (Lb M D) (lb 96 0):=by
 refine dv zf λi hi e he st Q hw=>?_;have hi:i=0\/i=1:=η
 rcases hi with rfl|rfl
 . cases he;rw[Ak];exact bR (cC.a0 qY) ζ rfl (Tz M D) hw
 . cases he
theorem RJ(M D:List Int):cu Tryz.prog (cH cfg V2) (Cw cfg [.a (aI M) false none,.a (aI D) false none]) (lb 96 0) 127 Kc (LB M D):=by
 intro vs o t Q hv hq J;unfold LB at hv;split at hv
 . rename_i n1 k1 n2 k2 y ok cy cm cd ng lg s e g mo da a b c n1' k1a n2' k2a;cases hv;replace hq:=cO hq;obtain⟨⟨h1,h2,h3,h4,h5,h6,h7,h8,h9,h10,h11,h12,-⟩,hq⟩:=hq;rw[al]at h1 h3 h7;rw[aJ]at h2 h4 h11 h12;rw[aq]at h9 h10;subst h2 h4 h11 h12;simp only[aH,Tr.wp]at hq;refine ia qY rfl rfl (NM M D) (ι:={x:Int×Bool // (-10000000000000000<=x.1/\x.1<=10000000000000000)/\jb ng s e cy cm cd mo da M D y ok=jb ng s e cy cm cd mo da M D x.1 x.2}) (λx=>[.h 16 0,.h 17 0,.h 18 0,.h 19 0,.b false,.a .i64 1,.c 14 0 M.length k1,.c 15 0 D.length k2,.i 175 [] [.h 18 0],.a .i64 x.1.1,.b x.1.2])
    (λ_=>⟨4,[.a [.a .i64 0,.a .i64 0,.a .i64 0] true none,.a [.b true] true none,.a [.a .i64 cy,.a .i64 cm,.a .i64 cd] true none,.a [.b ng,.b lg,.e s,.a .i64 e,.a .i64 g,.e mo,.e da,.a .u8 a,.a .u8 b,.a .u8 c,.c 14 0 M.length k1a,.c 15 0 D.length k2a] true none],[]⟩) (λx=>MZ x.1.1 x.1.2) 4 (λ_=>Nat.le_refl _) (λx J=>?_) (Nat.le_refl _) (λJ=>Wk.a0 ⟨⟨(y,ok),⟨h9,h10⟩,rfl⟩,J,rfl⟩) J
   obtain⟨⟨z,zk⟩,hz,hs⟩:=x;dsimp only at hz hs ⊢;refine jJ (bE 11277020006142270274) (R:=λQ=>(λ(W Y:cD)(A B C E F G H I O V u1:AV)(N T:Int)(Z u0:Nat)(U:Option Int)=>(λ(u2:cD)(P:AV)(u3 u4 u5:Bool)=>(zk->ν M.length 1000/\ξ M.length M.length/\ξ M.length M.length/\aa T T/\ν D.length 1000/\ξ D.length D.length/\ab (Neg.neg 10000000000000000) z/\ab z 10000000000000000/\List.all M (okM da)/\(za U->(∀J1 J2:Nat->Value,Q (.c,[B,C,A,E,V,F,G,H,P,I,AV.j (J2 13)],⟨4,[.a [I,.a .i64 (kp U),.a .i64 (kp (k_ z cy cm cd mo da D (kp U)))] true none,u2,W,Y],[]⟩)))/\(za U=false->(∀J1:Nat->Value,u3/\and (and true (and (ν (σ 0 Z) (aI M).length) u4)) (and (ν (σ 0 u0) (aI D).length) u5)/\u4/\u5/\u3/\aV ng lg s e g/\ν s.length 1000/\lP s/\Q (.a,[B,C,A,E,u1,F,G,H,P,.a .i64 (yV ng s e N true),.b (yB ng s e N true)],⟨4,[.a [O,O,O] true none,u2,W,Y],[]⟩))))/\(zk=false->Q (.b 0,[B,C,A,E,u1,F,G,H,P,I,.b zk],⟨4,[.a [O,O,O] true none,u2,W,Y],[]⟩))) (.a [V] true none) (.i 175 [] [A]) (af .i64 N) (bc 14 (b_ (aI M) 0 Z)) (bc 14 (b_ (aI D) 0 u0))) (.a [.a .i64 cy,.a .i64 cm,.a .i64 cd] true none) (.a [.b ng,.b lg,.e s,.a .i64 e,.a .i64 g,.e mo,.e da,.a .u8 a,.a .u8 b,.a .u8 c,.c 14 0 M.length k1a,.c 15 0 D.length k2a] true none) (.h 18 0) (.h 16 0) (.h 17 0) (.h 19 0) (.a .i64 1) (.c 14 0 M.length k1) (.c 15 0 D.length k2) (.a .i64 z) (.a .i64 0) (.b true) (.b false) (Int.add z 1) (Int.ofNat M.length) (τ M.length 1) (τ D.length 1) (ff z cy cm cd mo da M D)) (λ_=>by rfl) λQ' hQ=>?_;try dsimp only
   have hs':=hs;rw[hs]at hq;clear hs h9 h10;cases zk with
   | false=>
     rw[ii]at hq;have hq:∀J:Nat->Value,Q (.b 0,[.h 16 0,.h 17 0,.h 18 0,.h 19 0,.b false,.a .i64 1,.c 14 0 M.length k1,.c 15 0 D.length k2,.i 175 [] [.h 18 0],.j (J 0),.b false],⟨4,[.a [.a .i64 0,.a .i64 0,.a .i64 0] true none,.a [.b true] true none,.a [.a .i64 cy,.a .i64 cm,.a .i64 cd] true none,.a [.b ng,.b lg,.e s,.a .i64 e,.a .i64 g,.e mo,.e da,.a .u8 a,.a .u8 b,.a .u8 c,.c 14 0 M.length k1a,.c 15 0 D.length k2a] true none],[]⟩):=hq;simp only[az,reduceCtorEq]
     (repeat' first|exact trivial|refine⟨?_,?_⟩|intro)<;>first|contradiction|omega|assumption|refine hQ _ ?_
     all_goals exact⟨_,_,VW.c0 (.a0 (.a0 (.a0 (.a0 (.a0 (.a0 (.a0 (.a0 (.a0 (.b0 (.a0 .c0))))))))))) rfl,hq (jv [_])⟩
   | true=>
     have yes:∀m,ff z cy cm cd mo da M D=some m->∀J:Nat->Value,Q (.c,[.h 16 0,.h 17 0,.h 18 0,.h 19 0,.b true,.a .i64 1,.c 14 0 M.length k1,.c 15 0 D.length k2,.i 175 [] [.h 18 0],.j (J 0),.j (J 1)],⟨4,[.a [.a .i64 z,.a .i64 m,.a .i64 (kp (k_ z cy cm cd mo da D m))] true none,.a [.b true] true none,.a [.a .i64 cy,.a .i64 cm,.a .i64 cd] true none,.a [.b ng,.b lg,.e s,.a .i64 e,.a .i64 g,.e mo,.e da,.a .u8 a,.a .u8 b,.a .u8 c,.c 14 0 M.length k1a,.c 15 0 D.length k2a] true none],[]⟩):=λm hf J2=>by
      rw[kK hf]at hq;exact hq J2
     have next:ff z cy cm cd mo da M D=none->jb ng s e cy cm cd mo da M D y ok=jb ng s e cy cm cd mo da M D (yV ng s e (z+1) true) (yB ng s e (z+1) true):=λhf=>hs'.trans (kx h6 hz.2 hf);clear hq;have hmu:=mC (ng:=ng) (s:=s) (e:=e) hz.2;have hbn:=iP (n:=z+1) (up:=true) h6;have hb1:bc 14 (b_ (aI M) 0 (M.length*1))=true:=by rw[qz];exact cz
     have hb2:bc 14 (b_ (aI D) 0 (D.length*1))=true:=by rw[qz];exact cz
     have hc1:ν (0+M.length*1) (aI M).length=true:=by rw[cY];simp
     have hc2:ν (0+D.length*1) (aI D).length=true:=by rw[cY];simp
     simp only[hb1,hb2,hc1,hc2,ς,π];cases hf:ff z cy cm cd mo da M D with
     | some m=>
       have yes:=yes m hf;clear next;simp only[za,kp,Option.isSome_some,ο];simp only[az,reduceCtorEq]
       (repeat' first|exact trivial|refine⟨?_,?_⟩|intro)<;>first|contradiction|omega|assumption|refine hQ _ ?_
       all_goals exact⟨_,_,VW.c0 (.a0 (.a0 (.a0 (.a0 (.a0 (.a0 (.a0 (.a0 (.a0 (.b0 (.a0 .c0))))))))))) rfl,yes (jv [_,_])⟩
     | none=>
       have next:=next hf;clear yes;simp only[za,kp,Option.isSome_none];simp only[az,reduceCtorEq]
       (repeat' first|exact trivial|refine⟨?_,?_⟩|intro)<;>first|contradiction|omega|assumption|refine hQ _ ?_
       all_goals exact⟨⟨(_,_),hbn,next⟩,hmu,VW.b0 rfl rfl⟩
 . cases hv
def La(M D:List Int):cx:=iz jE 0 (d9 127 Kc (LB M D))
theorem NU(M D:List Int):qI Tryz.prog (cH cfg V2) (Cw cfg [.a (aI M) false none,.a (aI D) false none]) (La M D) (aL 96):=by
 refine dv CQ λi hi e he st Q hw=>?_;have hi:i=0\/i=1\/i=2:=η
 rcases hi with rfl|rfl|rfl
 . cases he;exact bR (cC.a0 qY) ζ rfl (RJ M D) hw
 . cases he
 . cases he
theorem PK{x:Option (Int×Int×Int)}(h:mJ x=false):p1 x=0/\p2 x=0/\p3 x=0:=by
 cases x with
 | none=>exact⟨rfl,rfl,rfl⟩
 | some u=>cases h
theorem Uu{e:Int}{k1 k2:fg}(h1:M.length<=1000)(h2:D.length<=1000)(hA:M.all (okM da))(ho:aV ng lg s e g)(hs:s.length<=1000)(hx:lP s)(hy : -9223372036854775808<=cy/\cy<=9223372036854775807) :
 bu Tryz.prog cfg 96 [.g [.b ng,.b lg,.e s,.a .i64 e,.a .i64 g,.e mo,.e da,.a .u8 a,.a .u8 b,.a .u8 c,.c 14 0 M.length k1,.c 15 0 D.length k2],.g [.a .i64 cy,.a .i64 cm,.a .i64 cd],.b true] [.a (aI M) false none,.a (aI D) false none] (.d [.g [.a .i64 (p1 (jb ng s e cy cm cd mo da M D (yV ng s e cy true) (yB ng s e cy true))),.a .i64 (p2 (jb ng s e cy cm cd mo da M D (yV ng s e cy true) (yB ng s e cy true))),.a .i64 (p3 (jb ng s e cy cm cd mo da M D (yV ng s e cy true) (yB ng s e cy true)))],.b (mJ (jb ng s e cy cm cd mo da M D (yV ng s e cy true) (yB ng s e cy true)))]) []:=by
 refine lF qY (L:=La M D) (λx hx=>?_) (NU M D) (bE 1014277777766) (R:=λQ=>(λ(C:AV)(G H:Bool)(B:Int)(E F:Nat)=>(λ(I N:Bool)(A:Option (Int×Int×Int))=>and (and true (and (ν (σ 0 E) (aI M).length) I)) (and (ν (σ 0 F) (aI D).length) N)/\I/\N/\af .i64 cy/\G/\H/\lP s/\ν M.length 1000/\ξ M.length M.length/\ν D.length 1000/\ξ D.length D.length/\List.all M (okM da)/\G/\H/\lP s/\ab (Neg.neg 10000000000000000) B/\ab B 10000000000000000/\ξ M.length M.length/\ξ D.length D.length/\(mJ A->(∀J1 J2:Nat->Value,Q (.d [.g [.a .i64 (p1 A),.a .i64 (p2 A),.a .i64 (p3 A)],.b true])))/\(mJ A=false->(∀J1 J2:Nat->Value,Q (.d [.g [C,C,C],.b false])))) (bc 14 (b_ (aI M) 0 E)) (bc 14 (b_ (aI D) 0 F)) (jb ng s e cy cm cd mo da M D B (yB ng s e cy true))) (.a .i64 0) (aV ng lg s e g) (ν s.length 1000) (yV ng s e cy true) (τ M.length 1) (τ D.length 1)) (λ_=>by rfl) λQ' hQ=>?_
 . grind [iu,cz]
 . have hb1:bc 14 (b_ (aI M) 0 (M.length*1))=true:=by rw[qz];exact cz
   have hb2:bc 14 (b_ (aI D) 0 (D.length*1))=true:=by rw[qz];exact cz
   have hc1:ν (0+M.length*1) (aI M).length=true:=by rw[cY];simp
   have hc2:ν (0+D.length*1) (aI D).length=true:=by rw[cY];simp
   have hbn:=iP (n:=cy) (up:=true) ho;simp only[hb1,hb2,hc1,hc2,ς,π];have fin:∀v,v=(.d [.g [.a .i64 (p1 (jb ng s e cy cm cd mo da M D (yV ng s e cy true) (yB ng s e cy true))),.a .i64 (p2 (jb ng s e cy cm cd mo da M D (yV ng s e cy true) (yB ng s e cy true))),.a .i64 (p3 (jb ng s e cy cm cd mo da M D (yV ng s e cy true) (yB ng s e cy true)))],.b (mJ (jb ng s e cy cm cd mo da M D (yV ng s e cy true) (yB ng s e cy true)))])->Q' v:=λv hv=>hQ _ hv;generalize (jb ng s e cy cm cd mo da M D (yV ng s e cy true) (yB ng s e cy true))=r at *;have hf:=@PK r;cases hr:mJ r<;>simp_all [az]
def d7(w:List AV):List Int:=w.map dx
theorem gV{w:List AV}(h:w.all (eB .i64)):aI (d7 w)=w:=by
 unfold aI d7;rw[List.map_map];refine(List.map_congr_left λx hx=>?_).trans (List.map_id w);have:=List.all_eq_true.1 h x hx;cases x with
 | a k n=>cases k<;>first|rfl|cases this
 | _=>cases this
theorem ad9{w:List AV}:(d7 w).length=w.length:=by grind [d7]
def jY(da:List UInt8)(M:List Int):Bool:=M.all (okM da)
def Oy:aav:=λ
 | [.g [.b ng,.b lg,.e s,.a .i64 e,.a .i64 g,.e mo,.e da,.a .u8 a,.a .u8 b,.a .u8 c,.c 14 0 n1 k1,.c 15 0 n2 k2],.g [.a .i64 cy,.a .i64 cm,.a .i64 cd],.b true],[.a w1 false none,.a w2 false none]=>
   some (aH [w1.all (eB .i64),w2.all (eB .i64),ξ w1.length n1,ξ w2.length n2,ν n1 1000,ν n2 1000,jY da (d7 w1),af .i64 cy,aV ng lg s e g,ν s.length 1000,lP s] (.a0 ((.d [.g [.a .i64 (p1 (jb ng s e cy cm cd mo da (d7 w1) (d7 w2) (yV ng s e cy true) (yB ng s e cy true))),.a .i64 (p2 (jb ng s e cy cm cd mo da (d7 w1) (d7 w2) (yV ng s e cy true) (yB ng s e cy true))),.a .i64 (p3 (jb ng s e cy cm cd mo da (d7 w1) (d7 w2) (yV ng s e cy true) (yB ng s e cy true)))],.b (mJ (jb ng s e cy cm cd mo da (d7 w1) (d7 w2) (yV ng s e cy true) (yB ng s e cy true)))]),[])))
 | _,_=>none
theorem Mb(hS:ak Tryz.prog cfg S):ak Tryz.prog cfg (eQ S 96 (fl 14 [1,1] Oy)):=by
 refine bm hS (fW gR.lv Az λargs ws t r he hr=>?_);unfold Oy at he;split at he
 . rename_i ng lg s e g mo da a b c n1 k1 n2 k2 cy cm cd w1 w2;cases he;replace hr:=aF hr;obtain⟨⟨h1,h2,h3,h4,h5,h6,h7,h8,h9,h10,h11,-⟩,hr⟩:=hr;rw[aJ]at h3 h4;rw[al]at h5 h6 h10;rw[LT]at h8;subst h3 h4;cases hr;have key:=Uu (g:=g) (mo:=mo) (da:=da) (a:=a) (b:=b) (c:=c) (k1:=k1) (k2:=k2) (cy:=cy) (cm:=cm) (cd:=cd) (M:=d7 w1) (D:=d7 w2) (by rw[ad9];omega) (by rw[ad9];omega) h7 h9 h10 h11 h8;grind [gV,ad9]
 grind
def mK(ng:Bool)(s:List UInt8)(e k:Int):Prop:=bif ξ (dT s 88 88) 0 then k=dY ng s e else match s with|[c0,c1,c2,c3]=>(bif ng then 1<=-k/\nS c0 c1 c2 c3 (-k)else nS c0 c1 c2 c3 k)|_=>False
def LM(M D:List Int)(k:Int):Prop:=∃m,m∈M/\∃d,d∈D/\d<=bP k m
theorem yE{e n:Int}:yB ng s e n true->mK ng s e (yV ng s e n true)/\n<=yV ng s e n true/\∀k,mK ng s e k->n<=k->yV ng s e n true<=k:=by
 intro h;unfold yB at h;unfold yV mK;cases hx:ξ (dT s 88 88) 0 with
 | true=>
   grind [aq]
 | false=>
   rw[hx,cond_false]at h;simp only[cond_false];split at h
   . rename_i c0 c1 c2 c3;simp only;unfold I2 at h;unfold KM;cases ng with
     | true=>
       simp only[cond_true,zAa,aq]at h ⊢;obtain⟨h1,h2⟩:=h;cases hp:cV c0 c1 c2 c3 (Ao n)with
       | none=>rw[hp]at h1;cases h1
       | some u=>
         rw[hp]at h2;simp only[kp,ο]at h2 ⊢;obtain⟨p1,p2,p3⟩:=fb.1 hp;unfold Ao at p2 p3;rw[kP]at p2 p3;refine⟨⟨by omega,by grind⟩,by omega,λk hk hn=>?_⟩;have:=p3 (-k) hk.2 (by have:=hk.2.2.1;omega);omega
     | false=>
       simp only[zAj]at h ⊢;cases hp:c_ c0 c1 c2 c3 (kh n 0)with
       | none=>rw[hp]at h;cases h
       | some u=>
         simp only[kp,ο];obtain⟨p1,p2,p3⟩:=gF.1 hp;rw[kP]at p2 p3;exact⟨p1,by omega,λk hk hn=>p3 k hk (by have:=hk.1;omega)⟩
   grind
theorem Jj{e n:Int}(hs:lP s)(h:yB ng s e n true=false)(hk:mK ng s e k):k<n:=by
 unfold yB at h;unfold mK at hk;cases hx:ξ (dT s 88 88) 0 with
 | true=>
   grind [bF]
 | false=>
   rw[hx]at h hk;simp only[cond_false]at h hk;obtain⟨c0,c1,c2,c3,rfl,_⟩:=sV hs hx;simp only at h hk;unfold I2 at h;cases ng with
   | true=>
     simp only[cond_true]at h hk;cases hp:cV c0 c1 c2 c3 (Ao n)with
     | none=>
       have:=nu.1 hp _ hk.2;have hb:=hk.2.2.1;grind [Ao,kP]
     | some u=>
       rw[hp]at h;simp only[za,kp,Option.isSome_some,ο,π]at h;rw[bF]at h;obtain⟨p1,p2,p3⟩:=fb.1 hp;unfold Ao at p3;rw[kP]at p3;by_cases hn:n<=k
       . have:=p3 (-k) hk.2 (by have:=hk.2.2.1;omega);omega
       omega
   | false=>
     simp only[zAj]at h hk;cases hp:c_ c0 c1 c2 c3 (kh n 0)with
     | none=>
       have:=nJ.1 hp _ hk;have:=hk.1;rw[kP]at *;omega
     | some u=>rw[hp]at h;cases h
theorem kJ{p:Int->Bool}{l:List Int}:za (l.find? p)=true↔∃x,x∈l/\p x=true:=by
 grind [za]
theorem xK(hy:y≠cy)(hd:ae da []=false):za (ff y cy cm cd mo da M D)=true↔LM M D y:=by
 have he:aa y cy=false:=aw.mpr hy;simp_all [ff,kJ,LM,Y4,k_,Ps,gk,abU,kN,aq]
theorem zg{ng lg:Bool}{s:List UInt8}{e g cy cm cd:Int}{mo da:List UInt8}{M D:List Int}(ho:aV ng lg s e g)(hx:lP s)(hd:ae da []=false)(hc:cy < -10000000000000000):∀(t:Nat) (n:Int),MZ (yV ng s e n true) (yB ng s e n true)<=t->
 (mJ (jb ng s e cy cm cd mo da M D (yV ng s e n true) (yB ng s e n true))=true↔∃k,mK ng s e k/\n<=k/\LM M D k)
 | t,n,ht=>by
   cases hb:yB ng s e n true with
   | false=>
     rw[ii];refine⟨λh=>(by cases h),λh=>?_⟩;obtain⟨k,h1,h2,_⟩:=h;have:=Jj hx hb h1;omega
   | true=>
     obtain⟨p1,p2,p3⟩:=yE hb;have bd:=iP (n:=n) (up:=true) ho;have hne:yV ng s e n true≠cy:=δ
     cases hf:ff (yV ng s e n true) cy cm cd mo da M D with
     | some m=>
       rw[kK hf];refine⟨λ_=>⟨_,p1,p2,?_⟩,λ_=>rfl⟩;rw[<-xK hne hd,hf];rfl
     | none=>
       rw[kx ho bd.2 hf];have hm:=mC (ng:=ng) (s:=s) (e:=e) bd.2;rw[hb]at ht
       match t,ht with
       | 0,ht=>omega
       | t+1,ht=>
         rw[zg ho hx hd hc t _ δ];refine exists_congr λk=>⟨λ⟨a,b,c⟩=>⟨a,by omega,c⟩,λ⟨a,b,c⟩=>⟨a,?_,c⟩⟩;have:=p3 k a b;by_cases he:k=yV ng s e n true
         . subst he;rw[<-xK hne hd,hf]at c;cases c
         omega
theorem iG{c0 c1:UInt8}{x:Int}:∀{g:Nat},x∈ay c0 c1 g↔(1<=x/\x<=g)/\agr [c0,c1] x=true
 | 0=>by grind [ay]
 | g+1=>by
   rw[aam,List.mem_append,iG (g:=g)];grind
theorem mr(y m:Int):28<=bP y m/\bP y m<=31:=Go.Proofs.YtcffhjfdlflbgaaGreatDoor.mlen_bd y m
theorem ago{m0 m1 d0 d1:UInt8}:LM (ay m0 m1 12) (ay d0 d1 31) k↔∃m,m∈ay m0 m1 12/\ay d0 d1 (bP k m).toNat≠[]:=by
 unfold LM;refine exists_congr λm=>and_congr_right λ_=>?_;have hb:=mr k m;constructor
 . rintro⟨d,hd,hle⟩ hn;have:d∈ay d0 d1 (bP k m).toNat:=iG.2 ⟨⟨(iG.1 hd).1.1,by omega⟩,(iG.1 hd).2⟩;grind
 . intro hn;obtain⟨d,hd⟩:=List.exists_mem_of_ne_nil _ hn;have:=iG.1 hd;exact⟨d,iG.2 ⟨⟨this.1.1,by omega⟩,this.2⟩,by omega⟩
def nT(c1 c2 c3:UInt8):Int:=bif ξ c3.toNat 88 then 1 else bif ξ c2.toNat 88 then 10 else bif ξ c1.toNat 88 then 100 else 1000
def Fd(ng:Bool)(c0 c1 c2 c3:UInt8):Int:=bif ng&&aa (gu c0 c1 c2 c3 48) 0 then nT c1 c2 c3 else gu c0 c1 c2 c3 48
def jR(ng:Bool)(s:List UInt8)(e:Int):Int:=bif ξ (dT s 88 88) 0 then dY ng s e else match s with|[c0,c1,c2,c3]=>(bif ng then -(gu c0 c1 c2 c3 57)else Fd ng c0 c1 c2 c3)|_=>0
def Zi(ng:Bool)(s:List UInt8)(e:Int):Int:=bif ξ (dT s 88 88) 0 then dY ng s e else match s with|[c0,c1,c2,c3]=>(bif ng then -(Fd ng c0 c1 c2 c3)else gu c0 c1 c2 c3 57)|_=>0
theorem Ml{c0 c1 c2 c3:UInt8}(h0:fC c0)(h1:fC c1)(h2:fC c2)(h3:fC c3)(h:nS c0 c1 c2 c3 k):gu c0 c1 c2 c3 48<=k/\k<=gu c0 c1 c2 c3 57/\(gu c0 c1 c2 c3 48=0->1<=k->nT c1 c2 c3<=k):=by
 grind [abJ,gu,nT,lL,mt,rY]
theorem Kx{e:Int}(hx:lP s)(h:mK ng s e k):jR ng s e<=k/\k<=Zi ng s e:=by
 unfold mK at h;unfold jR Zi;cases hX:ξ (dT s 88 88) 0 with
 | true=>grind
 | false=>
   rw[hX,cond_false]at h;obtain⟨c0,c1,c2,c3,rfl,h0,h1,h2,h3⟩:=sV hx hX;simp only[cond_false]at h ⊢;unfold Fd;cases ng with
   | true=>
     simp only[cond_true,π]at h ⊢;obtain⟨b1,b2,b3⟩:=Ml h0 h1 h2 h3 h.2;cases hz:aa (gu c0 c1 c2 c3 48) 0<;>grind [ao]
   | false=>
     simp_all [Ml]
noncomputable def V3:aQ:=eQ V2 96 (fl 14 [1,1] Oy)
theorem G0:ak Tryz.prog cfg V3:=Mb qY
def Co(s:List UInt8)(g:Nat):List Int:=match s with|[c0,c1]=>ay c0 c1 g|_=>[]
def qK(ng:Bool)(s:List UInt8)(e:Int)(mo da:List UInt8):Bool:=mJ (jb ng s e (-9223372036854775808) 0 0 mo da (Co mo 12) (Co da 31) (yV ng s e (-9223372036854775808) true) (yB ng s e (-9223372036854775808) true))
def bW(ng lg:Bool)(s:List UInt8)(e g:Int)(mo da:List UInt8)(a b c:Int):Int:=
 bif aa (nH ng lg s e g mo da a b c) 0 then(bif ae da []then 0 else bif qK ng s e mo da then 0 else 8)else nH ng lg s e g mo da a b c
def tx:dP:=λ
 | [.g [.b ng,.b lg,.e s,.a .i64 e,.a .i64 g,.e mo,.e da,.a .u8 a,.a .u8 b,.a .u8 c]]=>some (aH [ν s.length 1000,ν mo.length 1000,ν da.length 1000,af .i64 e,af .i64 g,af .u8 a,af .u8 b,af .u8 c] (.a0 (.a .i64 (bW ng lg s e g mo da a b c))))
 | _=>none
theorem GF{c:UInt8}{d:Int}(h:c.toNat=88\/(c.toNat:Int)=48+d)(h0:0<=d)(h1:d<=9):fC c=true:=by
 rw[dD];omega
theorem oi{g:Nat}(hg:g<=99)(h:eW s g):∃c0 c1,s=[c0,c1]/\fC c0/\fC c1/\ay c0 c1 g≠[]:=by
 unfold eW at h;obtain⟨k,hk,ha⟩:=List.any_eq_true.1 h;rw[List.mem_range]at hk
 match s,ha with
 | [c0,c1],ha=>
   have hi:=Gu.1 ha;refine⟨c0,c1,rfl,GF hi.1 δ δ,GF hi.2 δ δ,λhn=>?_⟩;have:((k:Int)+1)∈ay c0 c1 g:=iG.2 ⟨by omega,ha⟩;grind
 | [],ha=>simp[agr]at ha
 | [_],ha=>simp[agr]at ha
 | _::_::_::_,ha=>simp[agr]at ha
theorem Mr{e:Int}(h:aV ng lg s e g):lP s=true:=by
 unfold aV at h;rw[zAc]at h;unfold lP;by_cases hx:dT s 88 88=0
 . rw[rY hx];rfl
 . rw[ic hx,Bool.false_or];have h4:s.length=4:=δ
   have hm:=(XB s).2 h.1
   match s,h4,hm with
   | [c0,c1,c2,c3],_,hm=>
     simp only[Go.Proofs.YtcffhjfdlflbgaaGreatDoor.mskB,List.all_cons,List.all_nil,ς,zAa,zAc,Go.Proofs.YtcffhjfdlflbgaaGreatDoor.mb]at hm;simp only[zAa,dD];exact⟨of_decide_eq_true hm.1,of_decide_eq_true hm.2.1,of_decide_eq_true hm.2.2.1,of_decide_eq_true hm.2.2.2⟩
theorem dC{e:Int}(h:nH ng lg s e g mo da a b c=0)(hc:0<=errMk a b c (dq mo da)):aV ng lg s e g/\lP s/\¬(0<g/\ae mo []=false)/\(ae mo []=false/\aR mo=0->eW mo 12=true)/\(ae da []=false->ae mo []=false/\aR mo=0/\eW da 31=true):=by
 have hn:=CF mo;grind [nH,oc,Mr]
theorem dE{a b c n:Int}:0<=errMk a b c n:=by grind [errMk]
theorem adC{e:Int}(h:nH ng lg s e g mo da a b c=0)(hd:ae da []=false) :
 ∃m0 m1 d0 d1,mo=[m0,m1]/\da=[d0,d1]/\fC m0/\fC m1/\fC d0/\fC d1/\ay m0 m1 12≠[]/\ay d0 d1 31≠[]/\aR mo=0/\aV ng lg s e g/\lP s/\g=0:=by
 obtain⟨h1,h2,h3,h4,h5⟩:=dC h dE;obtain⟨k1,k2,k3⟩:=h5 hd;obtain⟨m0,m1,rfl,a1,a2,a3⟩:=oi ζ (h4 ⟨k1,k2⟩);obtain⟨d0,d1,rfl,b1,b2,b3⟩:=oi ζ k3;grind [aV]
theorem oL{M:List Int}:d7 (aI M)=M:=by
 unfold d7 aI;rw[List.map_map];exact List.map_id' M
theorem ow{M:List Int}:(aI M).all (eB .i64)=true:=by
 unfold aI;rw[List.all_map];exact List.all_eq_true.2 λx _=>rfl
theorem pk{c0 c1:UInt8}:jY da (ay c0 c1 12)=true:=by
 grind [jY,iG,okM,aq]
theorem zQ{e:Int}(hs:s.length<=140737488351232)(hmo:mo.length<=140737488351232)(hda:da.length<=140737488351232)(he : -9223372036854775808<=e/\e<=9223372036854775807)(hg : -9223372036854775808<=g/\g<=9223372036854775807)(ha:0<=a/\a<=255)(hb:0<=b/\b<=255)(hc:0<=c/\c<=255) :
 bu Tryz.prog cfg 42 [.g [.b ng,.b lg,.e s,.a .i64 e,.a .i64 g,.e mo,.e da,.a .u8 a,.a .u8 b,.a .u8 c]] [] (.a .i64 (bW ng lg s e g mo da a b c)) []:=by
 unfold bW;cases hE:aa (nH ng lg s e g mo da a b c) 0 with
 | false=>
   refine jD G0 ai (bE 1777006) (R:=λQ=>(λ(A:Int)=>ν s.length 140737488351232/\ν mo.length 140737488351232/\ν da.length 140737488351232/\af .i64 e/\af .i64 g/\af .u8 a/\af .u8 b/\af .u8 c/\not (aa A 0)/\Q (.a .i64 A)) (nH ng lg s e g mo da a b c)) (λ_=>by rfl) λQ' hQ=>?_;simp_all [az]
 | true=>
   rw[cond_true];cases hd:ae da []with
   | true=>
     refine jD G0 ai (bE 12032277006) (R:=λQ=>ν s.length 140737488351232/\ν mo.length 140737488351232/\ν da.length 140737488351232/\af .i64 e/\af .i64 g/\af .u8 a/\af .u8 b/\af .u8 c/\not (aa (nH ng lg s e g mo da a b c) 0)=false/\ae da []/\Q (.a .i64 0)) (λ_=>by rfl) λQ' hQ=>?_;simp_all [az]
   | false=>
     have hE':=ao.mp hE;obtain⟨m0,m1,d0,d1,rfl,rfl,h0,h1,h2,h3,k1,k2,hse,ho,hx,hg0⟩:=adC hE' hd;have ln:s.length<=1000:=υ (Wi ho) ζ;have n1:gU (ay m0 m1 12)=false:=by grind [gU]
     have n2:gU (ay d0 d1 31)=false:=by grind [gU]
     refine jD G0 ai (bE 11407022770563002205300225322700200056663227002006) (R:=λQ=>(λ(C:Bool)(G H:List Int)(E F:List UInt8)=>(λ(I N:Nat)=>(λ(O P:Nat)=>(λ(A B:List AV)=>(λ(T:Bool)=>(λ(U:Prop->Prop)=>U (not (aa (nH ng lg s e g E F a b c) 0)=false/\(ν s.length 1000/\af .i64 e/\af .i64 g/\af .u8 a/\af .u8 b/\af .u8 c/\not (aa (aR E) 0)=false/\fC m0/\fC m1/\gU G=false/\fC d0/\fC d1/\gU H=false/\and (and true (and (ν (σ 0 O) (List.length (aI G))) (bc 14 A))) (and (ν (σ 0 P) (List.length (aI H))) (bc 14 B))/\List.all A (eB .i64)/\List.all B (eB .i64)/\ξ A.length I/\ξ B.length N/\ν I 1000/\ν N 1000/\jY F (d7 A)/\aV ng lg s e g/\ν s.length 1000/\lP s/\(T->Q (.a .i64 8))/\(T=false->Q (.a .i64 0))))) (λu0=>C/\af .i64 e/\af .i64 g/\af .u8 a/\af .u8 b/\af .u8 c/\u0)) (not (mJ (jb ng s e (Neg.neg 9223372036854775808) 0 0 E F (d7 A) (d7 B) (yV ng s e (Neg.neg 9223372036854775808) true) (yB ng s e (Neg.neg 9223372036854775808) true))))) (b_ (aI G) 0 O) (b_ (aI H) 0 P)) (τ I 1) (τ N 1)) (dG G) (dG H)) (ν s.length 140737488351232) (ay m0 m1 12) (ay d0 d1 31) [m0,m1] [d0,d1]) (λ_=>by kernel_rfl) λQ' hQ=>?_;try dsimp only
     rw[cond_false]at hQ;have w1:b_ (aI (ay m0 m1 12)) 0 (dG (ay m0 m1 12)*1)=aI (ay m0 m1 12):=qz;have w2:b_ (aI (ay d0 d1 31)) 0 (dG (ay d0 d1 31)*1)=aI (ay d0 d1 31):=qz;have l1:dG (ay m0 m1 12)=(ay m0 m1 12).length:=rfl;have l2:dG (ay d0 d1 31)=(ay d0 d1 31).length:=rfl;have z1:=eV m0 m1 12;have z2:=eV d0 d1 31;have hF:qK ng s e [m0,m1] [d0,d1]=mJ (jb ng s e (-9223372036854775808) 0 0 [m0,m1] [d0,d1] (ay m0 m1 12) (ay d0 d1 31) (yV ng s e (-9223372036854775808) true) (yB ng s e (-9223372036854775808) true)):=rfl;rw[hF]at hQ;have aM:jY [d0,d1] (ay m0 m1 12)=true:=pk;have aX:∀M:List Int,ν (0+M.length*1) M.length=true:=λM=>by simp
     simp only[l1,l2,@qz,oL,ow,cY,cz,aM,aX,ς,π];generalize mJ (jb ng s e (-9223372036854775808) 0 0 [m0,m1] [d0,d1] (ay m0 m1 12) (ay d0 d1 31) (yV ng s e (-9223372036854775808) true) (yB ng s e (-9223372036854775808) true))=r at *;rw[ao]at hE;clear hF aM w1 w2 hE';generalize nH ng lg s e g [m0,m1] [d0,d1] a b c=er at *;generalize aR [m0,m1]=se at *;generalize ay m0 m1 12=M at *;generalize ay d0 d1 31=D at *;have h8:r=false->Q' (.a .i64 8):=λh=>hQ _ (by rw[h];rfl);have h9:r->Q' (.a .i64 0):=λh=>hQ _ (by rw[h];rfl);clear hQ;simp only[az,reduceCtorEq]
     (repeat' first|exact trivial|refine⟨?_,?_⟩|intro)<;>first|contradiction|omega|assumption|(exact h8 (by assumption))|(exact h9 (by assumption))
theorem G9(hS:ak Tryz.prog cfg S):ak Tryz.prog cfg (aK S 42 tx):=au hS λargs t v he hv=>by
 unfold tx at he;split at he
 . cases he;obtain⟨⟨h1,h2,h3,h4,h5,h6,h7,h8,-⟩,hv⟩:=aF hv;rw[al]at h1 h2 h3;rw[aE]at h4 h5 h6 h7 h8;simp only[eH,eE]at h4 h5 h6 h7 h8;cases hv;exact zQ (υ h1 ζ) (υ h2 ζ) (υ h3 ζ) h4 h5 h6 h7 h8
 grind
theorem gA{a b c d:Int}:bA a b c d=0↔(a=0\/a = -1/\b=0)/\(c=0\/c=1/\d=0)/\(a<c\/a=c/\b<=d):=by
 have h1:=xF a b c d;grind [bA,cw]
theorem aik{d e f h:Int}(hq:bA a b c d=0)(hr:bA e f g h=0)(hd:d<=9223372036854775807)(hh:h<=9223372036854775807) :
 (0<In a b c d e f g h\/vz a b c d e f g h=true)↔(0<=gc c d e f\/ada a b c d e f g h=true):=by
 have k1:=gA.1 hq;have k2:=gA.1 hr;have c1:=xF a b e f;have c2:=xF c d g h;have c3:=xF e f a b;have c4:=xF c d e f;have c5:=xF e f c d;have c6:=xF a b g h;have t1:=@Hr c d;have t2:=@Hr g h;have e1:cw c d=0:=t1.2 η;have e2:cw g h=0:=t2.2 η;have hR:0<In a b c d e f g h↔(e<a\/a=e/\f<b)\/(a=e/\b=f)/\(g<c\/c=g/\h<d):=by
  clear c3 c4 c5 c6 t1 t2 e1 e2 hq hr k1 k2;unfold In;split<;>omega
 have l3:gc e f a b<0↔(e<a\/e=a/\f<b):=by clear c1 c2 c4 c5 c6 t1 t2 e1 e2 hq hr k1 k2 hR;omega
 have l3':0<=gc e f a b↔¬(e<a\/e=a/\f<b):=by rw[<-l3];omega
 have l4:0<=gc c d e f↔(e<c\/e=c/\f<=d):=by clear c1 c2 c3 c5 c6 t1 t2 e1 e2 hq hr k1 k2 hR l3 l3';omega
 have l5:gc e f c d<=0↔(e<c\/e=c/\f<=d):=by clear c1 c2 c3 c4 c6 t1 t2 e1 e2 hq hr k1 k2 hR l3 l3' l4;omega
 have l6:gc a b g h<=0↔(a<g\/a=g/\b<=h):=by clear c1 c2 c3 c4 c5 t1 t2 e1 e2 hq hr k1 k2 hR l3 l3' l4 l5;omega
 rw[hR];simp only[vz,ada,aat,abv,cP,s6,zAc,hq,hr,e1,e2,true_and,l3,l3',l4,l5,l6];clear hq hr hR t1 t2 e1 e2 l3 l3' l4 l5 l6 c1 c2 c3 c4 c5 c6;obtain⟨ha,hc,hac⟩:=k1;obtain⟨he,hg,heg⟩:=k2;rcases ha with rfl|⟨rfl,rfl⟩<;>rcases hc with rfl|⟨rfl,rfl⟩<;>rcases he with rfl|⟨rfl,rfl⟩<;>rcases hg with rfl|⟨rfl,rfl⟩<;>simp(config:={ decide:=true }) only[true_and,and_true,false_and,and_false,true_or,or_true,false_or,or_false,ne_eq,not_true_eq_false,not_false_eq_true,iff_true,true_iff,iff_false,false_iff]at hac heg ⊢<;>omega
end Go.Ev
