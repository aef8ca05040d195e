import Derived.Test.YtoghlpcacfnjbaaGreatDoorP44
set_option linter.all false
set_option maxRecDepth 100000
set_option maxHeartbeats 4000000
namespace Go.Ev
open Go Go.Proofs
variable{ng lg:Bool}{s mo da:List UInt8}{e b c y d g x z p:Int}{S:aQ}
noncomputable def SXf:aQ:=eQ (bb (bb (bb gZ 88 SO) 89 So) 90 Qb) 19 (fl 14 [4] ZY)
def fL(R:List Rn):Rn:=⟨(R.getD 0 fo).a,(R.getD 0 fo).b,(R.getD (R.length-1) fo).c,(R.getD (R.length-1) fo).d⟩
def Wc(ng:Bool)(s:List UInt8)(e:Int)(mo da:List UInt8):Rn:=⟨0,iO (p1 (fG ng s e mo da)) (p2 (fG ng s e mo da)) (p3 (fG ng s e mo da)),0,iD (p1 (fF ng s e mo da)) (p2 (fF ng s e mo da)) (p3 (fF ng s e mo da))⟩
def Dm(r:Rn):AV:=.e [.h [.a .i8 (rA r),.a .i64 (rB r),.a .i8 (rC r),.a .i64 (rD r)],.a .i64 0]
def jF(k:Int)(ng:Bool)(s:List UInt8)(e:Int)(mo da:List UInt8)(a b c d:Int):Rn:=bif aa k 2 then Wc ng s e mo da else⟨a,b,c,d⟩
def Ir(k:Int)(ng:Bool)(s:List UInt8)(e:Int)(mo da:List UInt8):Bool:=bif aa k 2 then Nat.ble 1 (aP ng s e mo da).length else aa k 3 || (aa k 4 || aa k 5)
def YU:kS:=λargs ws=>match args,ws with
 | [.h [.a .u8 k,.c 14 0 n K,.b ng,.b lg,.d s,.a .i64 e,.a .i64 g,.d mo,.d da,.a .u8 x,.a .u8 y,.a .u8 z,.a .u8 p,.a .i8 a,.a .i64 b,.a .i8 c,.a .i64 d]],[.a w false none]=>some (aH [Nat.ble s.length 1000,Nat.ble mo.length 1000,Nat.ble da.length 1000,af .i64 e,af .i64 g,af .i64 b,af .i64 d,af .i8 a,af .i8 c,af .u8 x,af .u8 y,af .u8 z,af .u8 p,aa k 1,eJ w,Nat.beq (g8 w).length n,Nat.ble 1 n,Nat.ble n 4,aa (dr k n (jo (g8 w)) (dZ ng lg s e g mo da x y z) p (sZ a b c d) (bW ng lg s e g mo da x y z) g (bo (s++mo++da)) (mZ x y z) (dN a b c d p) (bA a b c d) a c) 0] (.a0 (Dm (fL (g8 w)),[])))
 | [.h [.a .u8 k,.f,.b ng,.b lg,.d s,.a .i64 e,.a .i64 g,.d mo,.d da,.a .u8 x,.a .u8 y,.a .u8 z,.a .u8 p,.a .i8 a,.a .i64 b,.a .i8 c,.a .i64 d]],[]=>some (aH [Nat.ble s.length 1000,Nat.ble mo.length 1000,Nat.ble da.length 1000,af .i64 e,af .i64 g,af .i64 b,af .i64 d,af .i8 a,af .i8 c,af .u8 x,af .u8 y,af .u8 z,af .u8 p,Ir k ng s e mo da,aa (dr k 0 0 (dZ ng lg s e g mo da x y z) p (sZ a b c d) (bW ng lg s e g mo da x y z) g (bo (s++mo++da)) (mZ x y z) (dN a b c d p) (bA a b c d) a c) 0] (.a0 (Dm (jF k ng s e mo da a b c d),[])))
 | _,_=>none
theorem xg:ak Tryz.prog cfg SXf:=Uc (Qk (SP (SR aW)))
theorem Jq:∀{R:List Rn} {i:Nat},i<R.length->(bh R).getD (i*4) (.e [])=.a .i8 (R.getD i fo).a/\(bh R).getD (i*4+1) (.e [])=.a .i64 (R.getD i fo).b/\(bh R).getD (i*4+2) (.e [])=.a .i8 (R.getD i fo).c/\(bh R).getD (i*4+3) (.e [])=.a .i64 (R.getD i fo).d
 | [],i,h=>absurd h (Nat.not_lt_zero i)
 | c::C,0,_=>⟨rfl,rfl,rfl,rfl⟩
 | c::C,i+1,h=>by
   have ih:=@Jq C i (by simpa using h);rw[show(i+1)*4=i*4+1+1+1+1 by omega];exact ih
theorem AS{a m:Int}(hE:bW ng lg s e 0 mo da a b c=0)(hX:bo (s++mo++da))(h:f_ ng s e mo da y m d):af .i64 y/\jU ng s e mo da y m d/\PW mo da y m d/\cM mo m=m/\cD da d=d:=by
 have ok:=rW hE hX h;have bd:=ju.1 ok;obtain⟨ho,hx,_⟩:=dC (gq hE) dE;have ne:∀{l:List UInt8},l≠[]->ae l []=false:=λ{l} h=>by
  cases l with
  | nil=>exact absurd rfl h
  | cons=>rfl
 have hc:cM mo m=m/\cD da d=d/\(ae mo []\/1<=m)/\(ae da []\/1<=d):=by
  unfold cM cD;rcases gH hE h with⟨rfl,rfl,rfl,rfl⟩|⟨k1,rfl,rfl,_,_,k5,k6⟩|⟨k1,_,k3,⟨rfl,rfl⟩|⟨k4,k5,k6⟩⟩
  . exact⟨rfl,rfl,.inl rfl,.inl rfl⟩
  . rw[ne k1];exact⟨rfl,rfl,.inr (by omega),.inl rfl⟩
  . rw[ne k1];exact⟨rfl,rfl,.inr k3.1,.inl rfl⟩
  . rw[ne k1,ne k4];exact⟨rfl,rfl,.inr k3.1,.inr k5⟩
 refine⟨?_,(Be ho hx).2 ⟨m,d,h,.inr rfl,.inr rfl⟩,Hj.2 ⟨?_,hc.2.2.1,bd.2.1,hc.2.2.2⟩,hc.1,hc.2.1⟩
 . rw[aE];simp only[eH,eE];omega
 . rw[hc.1,hc.2.1];exact ok
theorem ZD{ng lg:Bool}{s:List UInt8}{e g:Int}{mo da:List UInt8}{x y z p a b c d:Int}(h1:Nat.ble s.length 1000)(h2:Nat.ble mo.length 1000)(h3:Nat.ble da.length 1000)(h4:af .i64 e)(h5:af .i64 g)(h6:af .i64 b)(h7:af .i64 d)(h8:af .i8 a)(h9:af .i8 c)(ha:af .u8 x)(hb:af .u8 y)(hc:af .u8 z)(hd:af .u8 p){K:fg}{R:List Rn}(hi:eJ (bh R))(hn:1<=R.length)(hm:R.length<=4)(hf:aa (dr 1 R.length (jo R) (dZ ng lg s e g mo da x y z) p (sZ a b c d) (bW ng lg s e g mo da x y z) g (bo (s++mo++da)) (mZ x y z) (dN a b c d p) (bA a b c d) a c) 0):bu Tryz.prog cfg 6 [.h [.a .u8 1,.c 14 0 R.length K,.b ng,.b lg,.d s,.a .i64 e,.a .i64 g,.d mo,.d da,.a .u8 x,.a .u8 y,.a .u8 z,.a .u8 p,.a .i8 a,.a .i64 b,.a .i8 c,.a .i64 d]] [.a (bh R) false none] (Dm (fL R)) []:=by
 refine ns xg fu ai (bE 10002270070566661042277777556) (R:=λQ=>(λ(A B G:AV)(C:Int)(F:Nat)=>(λ(H I:AV)(E:List AV)(N:Nat)=>(λ(O:Int)(P:Nat)=>(λ(U V:AV)(T:Bool)=>and true (and (Nat.ble (HAdd.hAdd 0 F) (bh R).length) (bc 14 E))/\Nat.ble s.length 1000/\Nat.ble mo.length 1000/\Nat.ble da.length 1000/\af .i64 e/\af .i64 g/\af .i64 b/\af .i64 d/\af .i8 a/\af .i8 c/\af .u8 x/\af .u8 y/\af .u8 z/\af .u8 p/\eJ E/\Nat.beq (List.length (g8 E)) R.length/\Nat.ble R.length 1000/\(T->Q (.e [.h [G,B,G,B],.a .i64 O]))/\(T=false->aS 0 R.length/\bC .i8 H/\bC .i64 I/\af .i64 C/\ab 0 C/\aS N R.length/\bC .i8 U/\bC .i64 V/\Q (.e [.h [.a .i8 (aK H),.a .i64 (aK I),.a .i8 (aK U),.a .i64 (aK V)],B]))) (List.getD (bh R) P A) (List.getD (bh R) (HAdd.hAdd P 1) A) (not (aa O 0))) (dr 1 R.length (jo (g8 E)) (dZ ng lg s e g mo da x y z) p (sZ a b c d) (bW ng lg s e g mo da x y z) g (bo ((s++mo)++da)) (mZ x y z) (dN a b c d p) (bA a b c d) a c) (HAdd.hAdd (HAdd.hAdd 0 (HMul.hMul N 4)) 2)) (List.getD (bh R) 0 A) (List.getD (bh R) 1 A) (b_ (bh R) 0 F) C.toNat) (.e []) (.a .i64 0) (.a .i8 0) (Int.sub (Int.ofNat R.length) 1) (HMul.hMul R.length 4)) (λ_=>by kernel_rfl) (hi:=(by simp[aC,bw,Dm])) λQ' hQ=>?_;try dsimp only
 unfold Dm fL at hQ;try dsimp only
 rw[l_,iJ];have l1:Nat.ble (0+R.length*4) (bh R).length=true:=al.mpr (by rw[kz];omega);have l2:=@ij R;have l3:Nat.beq R.length R.length=true:=aJ.mpr rfl;have l4:=al.mpr (show R.length<=1000 by omega);have g0:(bh R).getD 0 (.e [])=.a .i8 (R.getD 0 fo).a/\(bh R).getD 1 (.e [])=.a .i64 (R.getD 0 fo).b:=⟨(@Jq R 0 hn).1,(@Jq R 0 hn).2.1⟩;have gn:(bh R).getD (0+(R.length-1)*4+2) (.e [])=.a .i8 (R.getD (R.length-1) fo).c/\(bh R).getD (0+(R.length-1)*4+2+1) (.e [])=.a .i64 (R.getD (R.length-1) fo).d:=by
  rw[Nat.zero_add];exact(@Jq R (R.length-1) (by omega)).2.2
 have eS:Int.sub (Int.ofNat R.length) 1=((R.length-1:Nat):Int):=by show(R.length:Int)-1=_;omega
 have i1:af .i64 ((R.length-1:Nat):Int)=true:=by rw[aE];simp only[eH,eE];omega
 have i2:ab 0 ((R.length-1:Nat):Int)=true:=by rw[aq];omega
 have i3:aS (R.length-1) R.length=true:=by rw[qy];omega
 have i4:aS 0 R.length=true:=by rw[qy];omega
 have k8:∀n:Int,bC .i8 (.a .i8 n)=true:=λ_=>rfl;have k6:∀n:Int,bC .i64 (.a .i64 n)=true:=λ_=>rfl;have kI:∀k (n:Int),aK (.a k n)=n:=λ_ _=>rfl;rw[eS,show Int.toNat ((R.length-1:Nat):Int)=R.length-1 from rfl];simp only[h1,h2,h3,h4,h5,h6,h7,h8,h9,ha,hb,hc,hd,hi,hf,l1,l2,l3,l4,g0.1,g0.2,gn.1,gn.2,i1,i2,i3,i4,k8,k6,kI,Bool.and_self,Bool.or_true,Bool.not_true,reduceCtorEq,zAh];exact hQ
theorem ZZ{a:Int}(h1:Nat.ble s.length 1000)(h2:Nat.ble mo.length 1000)(h3:Nat.ble da.length 1000)(h4:af .i64 e)(h5:af .i64 g)(h6:af .i64 b)(h7:af .i64 d)(h8:af .i8 a)(h9:af .i8 c)(ha:af .u8 x)(hb:af .u8 y)(hc:af .u8 z)(hd:af .u8 p)(hm:Ir 2 ng s e mo da)(hf:aa (dr 2 0 0 (dZ ng lg s e g mo da x y z) p (sZ a b c d) (bW ng lg s e g mo da x y z) g (bo (s++mo++da)) (mZ x y z) (dN a b c d p) (bA a b c d) a c) 0):bu Tryz.prog cfg 6 [.h [.a .u8 2,.f,.b ng,.b lg,.d s,.a .i64 e,.a .i64 g,.d mo,.d da,.a .u8 x,.a .u8 y,.a .u8 z,.a .u8 p,.a .i8 a,.a .i64 b,.a .i8 c,.a .i64 d]] [] (Dm (Wc ng s e mo da)) []:=by
 obtain⟨_,_,_,hE,hg,hX,_⟩:=QW (ao.mp hf);rw[hX]at hf;subst hg;have hy:∃k,mK ng s e k:=by
  obtain⟨ho,hx,_⟩:=dC (gq hE) dE;have hm:Nat.ble 1 (aP ng s e mo da).length=true:=hm;rw[al]at hm;exact⟨_,((fy hx).1 (List.getElem_mem hm)).1⟩
 obtain⟨⟨f1,-⟩,l1,-⟩:=FO hE hX hy;obtain⟨a1,a2,a3,a4,a5⟩:=AS hE hX f1;obtain⟨c1,c2,c3,c4,c5⟩:=AS hE hX l1;have hE:=ao.mpr hE;refine nF xg ai (bE 155277027005627702700562702700062702705666663227702766) (R:=λQ=>(λ(T:AV)(A B C E F G H O P:Bool)(N:Int)=>(λ(I:Bool)=>(λ(U:Prop->Prop)=>A/\B/\C/\E/\af .i64 b/\af .i64 d/\af .i8 a/\af .i8 c/\F/\G/\H/\af .u8 p/\not (aa (dr 2 0 0 (dZ ng lg s e 0 mo da x y z) p (sZ a b c d) N 0 (bo ((s++mo)++da)) (mZ x y z) (dN a b c d p) (bA a b c d) a c) 0)=false/\U (I/\U (I/\U (af .i64 (p1 (fG ng s e mo da))/\I/\or (not O) (PW mo da (p1 (fG ng s e mo da)) (p2 (fG ng s e mo da)) (p3 (fG ng s e mo da)))/\O/\U (af .i64 (p1 (fF ng s e mo da))/\I/\or (not P) (PW mo da (p1 (fF ng s e mo da)) (p2 (fF ng s e mo da)) (p3 (fF ng s e mo da)))/\P/\Q (.e [.h [T,.a .i64 (iO (p1 (fG ng s e mo da)) (cM mo (p2 (fG ng s e mo da))) (cD da (p3 (fG ng s e mo da)))),T,.a .i64 (iD (p1 (fF ng s e mo da)) (cM mo (p2 (fF ng s e mo da))) (cD da (p3 (fF ng s e mo da))))],.a .i64 0])))))) (λu0=>A/\B/\C/\E/\F/\G/\H/\u0)) (aa N 0)) (.a .i8 0) (Nat.ble s.length 1000) (Nat.ble mo.length 1000) (Nat.ble da.length 1000) (af .i64 e) (af .u8 x) (af .u8 y) (af .u8 z) (jU ng s e mo da (p1 (fG ng s e mo da)) (p2 (fG ng s e mo da)) (p3 (fG ng s e mo da))) (jU ng s e mo da (p1 (fF ng s e mo da)) (p2 (fF ng s e mo da)) (p3 (fF ng s e mo da))) (bW ng lg s e 0 mo da x y z)) (λ_=>by kernel_rfl) (hi:=(by simp[aC,bw,Dm])) λQ' hQ=>?_;try dsimp only
 unfold Dm Wc at hQ;try dsimp only
 rw[a4,a5,c4,c5];simp only[h1,h2,h3,h4,h5,h6,h7,h8,h9,ha,hb,hc,hd,hf,hE,hX,a1,a2,a3,c1,c2,c3,Bool.and_self,Bool.or_true,Bool.not_true,reduceCtorEq,zAh];exact hQ
theorem ZI{a:Int}(h1:Nat.ble s.length 1000)(h2:Nat.ble mo.length 1000)(h3:Nat.ble da.length 1000)(h4:af .i64 e)(h5:af .i64 g)(h6:af .i64 b)(h7:af .i64 d)(h8:af .i8 a)(h9:af .i8 c)(ha:af .u8 x)(hb:af .u8 y)(hc:af .u8 z)(hd:af .u8 p)(hf:aa (dr 3 0 0 (dZ ng lg s e g mo da x y z) p (sZ a b c d) (bW ng lg s e g mo da x y z) g (bo (s++mo++da)) (mZ x y z) (dN a b c d p) (bA a b c d) a c) 0):bu Tryz.prog cfg 6 [.h [.a .u8 3,.f,.b ng,.b lg,.d s,.a .i64 e,.a .i64 g,.d mo,.d da,.a .u8 x,.a .u8 y,.a .u8 z,.a .u8 p,.a .i8 a,.a .i64 b,.a .i8 c,.a .i64 d]] [] (Dm ⟨a,b,c,d⟩) []:=by
 refine nF xg ai (bE 106666632777766) (R:=λQ=>Nat.ble s.length 1000/\Nat.ble mo.length 1000/\Nat.ble da.length 1000/\af .i64 e/\af .i64 g/\af .i64 b/\af .i64 d/\af .i8 a/\af .i8 c/\af .u8 x/\af .u8 y/\af .u8 z/\af .u8 p/\not (aa (dr 3 0 0 (dZ ng lg s e g mo da x y z) p (sZ a b c d) (bW ng lg s e g mo da x y z) g (bo ((s++mo)++da)) (mZ x y z) (dN a b c d p) (bA a b c d) a c) 0)=false/\Q (.e [.h [.a .i8 a,.a .i64 b,.a .i8 c,.a .i64 d],.a .i64 0])) (λ_=>by kernel_rfl) (hi:=(by simp[aC,bw,Dm])) λQ' hQ=>?_;unfold Dm at hQ;try dsimp only
 simp only[h1,h2,h3,h4,h5,h6,h7,h8,h9,ha,hb,hc,hd,hf,Bool.and_self,Bool.or_true,Bool.not_true,reduceCtorEq,zAh];exact hQ
theorem ZE{a:Int}(h1:Nat.ble s.length 1000)(h2:Nat.ble mo.length 1000)(h3:Nat.ble da.length 1000)(h4:af .i64 e)(h5:af .i64 g)(h6:af .i64 b)(h7:af .i64 d)(h8:af .i8 a)(h9:af .i8 c)(ha:af .u8 x)(hb:af .u8 y)(hc:af .u8 z)(hd:af .u8 p)(hf:aa (dr 4 0 0 (dZ ng lg s e g mo da x y z) p (sZ a b c d) (bW ng lg s e g mo da x y z) g (bo (s++mo++da)) (mZ x y z) (dN a b c d p) (bA a b c d) a c) 0):bu Tryz.prog cfg 6 [.h [.a .u8 4,.f,.b ng,.b lg,.d s,.a .i64 e,.a .i64 g,.d mo,.d da,.a .u8 x,.a .u8 y,.a .u8 z,.a .u8 p,.a .i8 a,.a .i64 b,.a .i8 c,.a .i64 d]] [] (Dm ⟨a,b,c,d⟩) []:=by
 refine nF xg ai (bE 106666632777766) (R:=λQ=>Nat.ble s.length 1000/\Nat.ble mo.length 1000/\Nat.ble da.length 1000/\af .i64 e/\af .i64 g/\af .i64 b/\af .i64 d/\af .i8 a/\af .i8 c/\af .u8 x/\af .u8 y/\af .u8 z/\af .u8 p/\not (aa (dr 4 0 0 (dZ ng lg s e g mo da x y z) p (sZ a b c d) (bW ng lg s e g mo da x y z) g (bo ((s++mo)++da)) (mZ x y z) (dN a b c d p) (bA a b c d) a c) 0)=false/\Q (.e [.h [.a .i8 a,.a .i64 b,.a .i8 c,.a .i64 d],.a .i64 0])) (λ_=>by kernel_rfl) (hi:=(by simp[aC,bw,Dm])) λQ' hQ=>?_;unfold Dm at hQ;try dsimp only
 simp only[h1,h2,h3,h4,h5,h6,h7,h8,h9,ha,hb,hc,hd,hf,Bool.and_self,Bool.or_true,Bool.not_true,reduceCtorEq,zAh];exact hQ
theorem Ys{a:Int}(h1:Nat.ble s.length 1000)(h2:Nat.ble mo.length 1000)(h3:Nat.ble da.length 1000)(h4:af .i64 e)(h5:af .i64 g)(h6:af .i64 b)(h7:af .i64 d)(h8:af .i8 a)(h9:af .i8 c)(ha:af .u8 x)(hb:af .u8 y)(hc:af .u8 z)(hd:af .u8 p)(hf:aa (dr 5 0 0 (dZ ng lg s e g mo da x y z) p (sZ a b c d) (bW ng lg s e g mo da x y z) g (bo (s++mo++da)) (mZ x y z) (dN a b c d p) (bA a b c d) a c) 0):bu Tryz.prog cfg 6 [.h [.a .u8 5,.f,.b ng,.b lg,.d s,.a .i64 e,.a .i64 g,.d mo,.d da,.a .u8 x,.a .u8 y,.a .u8 z,.a .u8 p,.a .i8 a,.a .i64 b,.a .i8 c,.a .i64 d]] [] (Dm ⟨a,b,c,d⟩) []:=by
 refine nF xg ai (bE 106666632777766) (R:=λQ=>Nat.ble s.length 1000/\Nat.ble mo.length 1000/\Nat.ble da.length 1000/\af .i64 e/\af .i64 g/\af .i64 b/\af .i64 d/\af .i8 a/\af .i8 c/\af .u8 x/\af .u8 y/\af .u8 z/\af .u8 p/\not (aa (dr 5 0 0 (dZ ng lg s e g mo da x y z) p (sZ a b c d) (bW ng lg s e g mo da x y z) g (bo ((s++mo)++da)) (mZ x y z) (dN a b c d p) (bA a b c d) a c) 0)=false/\Q (.e [.h [.a .i8 a,.a .i64 b,.a .i8 c,.a .i64 d],.a .i64 0])) (λ_=>by kernel_rfl) (hi:=(by simp[aC,bw,Dm])) λQ' hQ=>?_;unfold Dm at hQ;try dsimp only
 simp only[h1,h2,h3,h4,h5,h6,h7,h8,h9,ha,hb,hc,hd,hf,Bool.and_self,Bool.or_true,Bool.not_true,reduceCtorEq,zAh];exact hQ
theorem Wx(hS:ak Tryz.prog cfg S):ak Tryz.prog cfg (eQ S 6 (fl 14 [4] YU)):=by
 refine bm hS (fW dI.lv Az λargs ws t r he hr=>?_);unfold YU at he;split at he
 . rename_i k n K ng lg s e g mo da x y z p a b c d w;cases he;replace hr:=aF hr;obtain⟨⟨h1,h2,h3,h4,h5,h6,h7,h8,h9,ha,hb,hc,hd,k1,k2,k3,k4,k5,k7,-⟩,hr⟩:=hr;cases hr;rw[ao]at k1;rw[aJ]at k3;rw[al]at k4 k5;subst k1 k3;have ew:=hZ k2;refine⟨?_,λx hx=>by cases hx⟩;have h:=@ZD ng lg s e g mo da x y z p a b c d h1 h2 h3 h4 h5 h6 h7 h8 h9 ha hb hc hd K (g8 w) (by rw[ew];exact k2) k4 k5 k7;rw[ew]at h;exact h
 . rename_i k ng lg s e g mo da x y z p a b c d;cases he;replace hr:=aF hr;obtain⟨⟨h1,h2,h3,h4,h5,h6,h7,h8,h9,ha,hb,hc,hd,k1,k2,-⟩,hr⟩:=hr;cases hr;refine⟨?_,λx hx=>by cases hx⟩;have k1':=k1;unfold Ir at k1';unfold jF;cases q2:aa k 2 with
   | true=>
     rw[ao]at q2;subst q2;exact ZZ h1 h2 h3 h4 h5 h6 h7 h8 h9 ha hb hc hd k1 k2
   | false=>
     rw[q2,cond_false,Bool.or_eq_true,Bool.or_eq_true,ao,ao,ao]at k1';rw[cond_false];rcases k1' with rfl|rfl|rfl
     . exact ZI h1 h2 h3 h4 h5 h6 h7 h8 h9 ha hb hc hd k2
     . exact ZE h1 h2 h3 h4 h5 h6 h7 h8 h9 ha hb hc hd k2
     . exact Ys h1 h2 h3 h4 h5 h6 h7 h8 h9 ha hb hc hd k2
 . cases he
def Cq(r:Rn):AV:=.h [.a .i8 (rA r),.a .i64 (rB r),.a .i8 (rC r),.a .i64 (rD r)]
def CE(z p:Rn):List Rn->Bool
 | []=>true
 | q::l=>ab 0 (cq q.a q.b z.a z.b)&&!(ab (cq q.c q.d p.c p.d) 0)&&CE z q l
def xq:List Rn->Bool
 | []=>false
 | r::l=>ab 0 (cq r.a r.b r.a r.b)&&ab (cq r.c r.d r.c r.d) 0&&CE r r l
def IY(k:Int)(ng lg:Bool)(s:List UInt8)(e g:Int)(mo da:List UInt8)(x y z:Int):Bool:=bif aa k 2 then aa g 0&&(iM ng lg s e mo da&&(Nat.ble (aP ng s e mo da).length 1000000&&(!(Nat.beq (aP ng s e mo da).length 0)&&(mh (aP ng s e mo da)&&(aa (bW ng lg s e 0 mo da x y z) 0&&bo (s++mo++da))))))else aa k 3 || (aa k 4 || aa k 5)
def Y4:kS:=λargs ws=>match args,ws with
 | [.h [.a .u8 k,.c 14 0 n K,.b ng,.b lg,.d s,.a .i64 e,.a .i64 g,.d mo,.d da,.a .u8 x,.a .u8 y,.a .u8 z,.a .u8 p,.a .i8 a,.a .i64 b,.a .i8 c,.a .i64 d]],[.a w false none]=>some (aH [aa k 1,eJ w,Nat.beq (g8 w).length n,Nat.ble 1 n,Nat.ble n 4,xq (g8 w)] (.a0 (Cq (fL (g8 w)),[])))
 | [.h [.a .u8 k,.f,.b ng,.b lg,.d s,.a .i64 e,.a .i64 g,.d mo,.d da,.a .u8 x,.a .u8 y,.a .u8 z,.a .u8 p,.a .i8 a,.a .i64 b,.a .i8 c,.a .i64 d]],[]=>some (aH [IY k ng lg s e g mo da x y z] (.a0 (Cq (jF k ng s e mo da a b c d),[])))
 | _,_=>none
theorem Xc{ng lg:Bool}{s:List UInt8}{e g:Int}{mo da:List UInt8}{x y z p a b c d:Int}{K:fg}:∀{R:List Rn},eJ (bh R)->1<=R.length->R.length<=4->xq R->bu Tryz.prog cfg 7 [.h [.a .u8 1,.c 14 0 R.length K,.b ng,.b lg,.d s,.a .i64 e,.a .i64 g,.d mo,.d da,.a .u8 x,.a .u8 y,.a .u8 z,.a .u8 p,.a .i8 a,.a .i64 b,.a .i8 c,.a .i64 d]] [.a (bh R) false none] (Cq (fL R)) []
 | [],_,h,_,_=>absurd h (by decide)
 | [r0],hi,_,_,hr=>by
   simp only[xq,CE,zAa,Bool.not_eq_true']at hr;obtain⟨⟨u0,v0⟩,-⟩:=hr;refine ns n4 fu ai (bE 156353556666) (R:=λQ=>not (ab 0 (cq r0.a r0.b r0.a r0.b))=false/\not (ab (cq r0.c r0.d r0.c r0.d) 0)=false/\Q (.h [.a .i8 r0.a,.a .i64 r0.b,.a .i8 r0.c,.a .i64 r0.d])) (λ_=>by kernel_rfl) (hi:=(by simp[aC,bw,Cq])) λQ' hQ=>?_;try dsimp only
   simp only[u0,v0,Bool.and_self,Bool.not_true,Bool.not_false,reduceCtorEq,zAh];exact hQ
 | [r0,r1],hi,_,_,hr=>by
   simp only[xq,CE,zAa,Bool.not_eq_true']at hr;obtain⟨⟨u0,v0⟩,⟨u1,v1⟩,-⟩:=hr;refine ns n4 fu ai (bE 100056253566353556666) (R:=λQ=>not (ab 0 (cq r0.a r0.b r0.a r0.b))=false/\not (ab (cq r0.c r0.d r0.c r0.d) 0)=false/\not (ab 0 (cq r1.a r1.b r0.a r0.b))=false/\not (ab (cq r1.c r1.d r0.c r0.d) 0)/\Q (.h [.a .i8 r0.a,.a .i64 r0.b,.a .i8 r1.c,.a .i64 r1.d])) (λ_=>by kernel_rfl) (hi:=(by simp[aC,bw,Cq])) λQ' hQ=>?_;try dsimp only
   simp only[u0,v0,u1,v1,Bool.and_self,Bool.not_true,Bool.not_false,reduceCtorEq,zAh];exact hQ
 | [r0,r1,r2],hi,_,_,hr=>by
   simp only[xq,CE,zAa,Bool.not_eq_true']at hr;obtain⟨⟨u0,v0⟩,⟨u1,v1⟩,⟨u2,v2⟩,-⟩:=hr;refine ns n4 fu ai (bE 100056253000566253566353556666) (R:=λQ=>not (ab 0 (cq r0.a r0.b r0.a r0.b))=false/\not (ab (cq r0.c r0.d r0.c r0.d) 0)=false/\not (ab 0 (cq r1.a r1.b r0.a r0.b))=false/\not (ab (cq r1.c r1.d r0.c r0.d) 0)/\not (ab 0 (cq r2.a r2.b r0.a r0.b))=false/\not (ab (cq r2.c r2.d r1.c r1.d) 0)/\Q (.h [.a .i8 r0.a,.a .i64 r0.b,.a .i8 r2.c,.a .i64 r2.d])) (λ_=>by kernel_rfl) (hi:=(by simp[aC,bw,Cq])) λQ' hQ=>?_;try dsimp only
   simp only[u0,v0,u1,v1,u2,v2,Bool.and_self,Bool.not_true,Bool.not_false,reduceCtorEq,zAh];exact hQ
 | [r0,r1,r2,r3],hi,_,_,hr=>by
   simp only[xq,CE,zAa,Bool.not_eq_true']at hr;obtain⟨⟨u0,v0⟩,⟨u1,v1⟩,⟨u2,v2⟩,⟨u3,v3⟩,-⟩:=hr;refine ns n4 fu ai (bE 100056253000566253000566253566353556666) (R:=λQ=>not (ab 0 (cq r0.a r0.b r0.a r0.b))=false/\not (ab (cq r0.c r0.d r0.c r0.d) 0)=false/\not (ab 0 (cq r1.a r1.b r0.a r0.b))=false/\not (ab (cq r1.c r1.d r0.c r0.d) 0)/\not (ab 0 (cq r2.a r2.b r0.a r0.b))=false/\not (ab (cq r2.c r2.d r1.c r1.d) 0)/\not (ab 0 (cq r3.a r3.b r0.a r0.b))=false/\not (ab (cq r3.c r3.d r2.c r2.d) 0)/\Q (.h [.a .i8 r0.a,.a .i64 r0.b,.a .i8 r3.c,.a .i64 r3.d])) (λ_=>by kernel_rfl) (hi:=(by simp[aC,bw,Cq])) λQ' hQ=>?_;try dsimp only
   simp only[u0,v0,u1,v1,u2,v2,u3,v3,Bool.and_self,Bool.not_true,Bool.not_false,reduceCtorEq,zAh];exact hQ
 | _::_::_::_::_::_,_,_,h,_=>absurd h (by simp)
theorem CY:∀{C:List Ci},mh C->eJ (bh (fU C))=true
 | [],_=>rfl
 | c::C,h=>by
   have h:(kY c.1 c.2.1 c.2.2&&C.all λc=>kY c.1 c.2.1 c.2.2)=true:=h;rw[zAa]at h;have ih:eJ (bh (fU C))=true:=CY h.2;have bd:=Gx h.1;show(af .i64 (iO c.1 c.2.1 c.2.2)&&(af .i64 (iD c.1 c.2.1 c.2.2)&&eJ (bh (fU C))))=true;rw[ih,Bool.and_true,zAa,aE,aE];simp only[eH,eE];omega
theorem Vf{a:Int}(hk:IY 2 ng lg s e 0 mo da x y z):bu Tryz.prog cfg 7 [.h [.a .u8 2,.f,.b ng,.b lg,.d s,.a .i64 e,.a .i64 0,.d mo,.d da,.a .u8 x,.a .u8 y,.a .u8 z,.a .u8 p,.a .i8 a,.a .i64 b,.a .i8 c,.a .i64 d]] [] (Cq (Wc ng s e mo da)) []:=by
 have hk:(aa 0 0&&(iM ng lg s e mo da&&(Nat.ble (aP ng s e mo da).length 1000000&&(!(Nat.beq (aP ng s e mo da).length 0)&&(mh (aP ng s e mo da)&&(aa (bW ng lg s e 0 mo da x y z) 0&&bo (s++mo++da)))))))=true:=hk;simp only[zAa,Bool.not_eq_true']at hk;obtain⟨-,h1,h2,h3,h4,hE,hX⟩:=hk;rw[ao]at hE;have hn:1<=(aP ng s e mo da).length:=by
  cases hl:(aP ng s e mo da).length with
  | zero=>rw[hl]at h3;cases h3
  | succ n=>omega
 have hy:∃k,mK ng s e k:=by
  obtain⟨ho,hx,_⟩:=dC (gq hE) dE;exact⟨_,((fy hx).1 (List.getElem_mem hn)).1⟩
 have key:=NP hE hX hy;refine kV Er (L:=L27) R_ (by simp) (dv Of λi hi e he st Q hw=>?_) (jJ (bE 105700227027566) (R:=λQ=>(λ(B:AV)(C:List Rn)(A:Nat)=>(λ(E:Bool)=>iM ng lg s e mo da/\E/\not (Nat.beq A 0)/\mh (aP ng s e mo da)/\aS 0 A/\bC .i8 (List.getD (cK (aP ng s e mo da)) 0 B)/\bC .i64 (List.getD (cK (aP ng s e mo da)) 1 B)/\bC .i8 (List.getD (cK (aP ng s e mo da)) 2 B)/\bC .i64 (List.getD (cK (aP ng s e mo da)) 3 B)/\eJ (cK (aP ng s e mo da))/\Nat.beq C.length A/\E/\(∀J1:Nat->Value,Q (.h [.a .i8 (rA (dJ ⟨aK (List.getD (cK (aP ng s e mo da)) 0 B),aK (List.getD (cK (aP ng s e mo da)) 1 B),aK (List.getD (cK (aP ng s e mo da)) 2 B),aK (List.getD (cK (aP ng s e mo da)) 3 B)⟩ C)),.a .i64 (rB (dJ ⟨aK (List.getD (cK (aP ng s e mo da)) 0 B),aK (List.getD (cK (aP ng s e mo da)) 1 B),aK (List.getD (cK (aP ng s e mo da)) 2 B),aK (List.getD (cK (aP ng s e mo da)) 3 B)⟩ C)),.a .i8 (rC (dJ ⟨aK (List.getD (cK (aP ng s e mo da)) 0 B),aK (List.getD (cK (aP ng s e mo da)) 1 B),aK (List.getD (cK (aP ng s e mo da)) 2 B),aK (List.getD (cK (aP ng s e mo da)) 3 B)⟩ C)),.a .i64 (rD (dJ ⟨aK (List.getD (cK (aP ng s e mo da)) 0 B),aK (List.getD (cK (aP ng s e mo da)) 1 B),aK (List.getD (cK (aP ng s e mo da)) 2 B),aK (List.getD (cK (aP ng s e mo da)) 3 B)⟩ C))]))) (Nat.ble A 1000000)) (.e []) (g8 (cK (aP ng s e mo da))) (List.length (aP ng s e mo da))) (λ_=>by kernel_rfl) λQ' hQ=>?_) (by simp[aC,bw,Cq])
 . have hi:i=0:=by simp at hi;omega
   subst hi;cases he;exact bR (cC.a0 Er) (by decide) rfl YR hw
 . try dsimp only
   have hQ:=hQ _ rfl;rw[show Wc ng s e mo da=dJ ((fU (aP ng s e mo da)).getD 0 fo) (fU (aP ng s e mo da))from key.symm]at hQ;have lu:(fU (aP ng s e mo da)).length=(aP ng s e mo da).length:=by unfold fU;rw[List.length_map]
   have er:eJ (bh (fU (aP ng s e mo da)))=true:=CY h4;have eu:g8 (bh (fU (aP ng s e mo da)))=fU (aP ng s e mo da):=iJ;have g0:(bh (fU (aP ng s e mo da))).getD 0 (.e [])=.a .i8 ((fU (aP ng s e mo da)).getD 0 fo).a/\(bh (fU (aP ng s e mo da))).getD 1 (.e [])=.a .i64 ((fU (aP ng s e mo da)).getD 0 fo).b/\(bh (fU (aP ng s e mo da))).getD 2 (.e [])=.a .i8 ((fU (aP ng s e mo da)).getD 0 fo).c/\(bh (fU (aP ng s e mo da))).getD 3 (.e [])=.a .i64 ((fU (aP ng s e mo da)).getD 0 fo).d:=@Jq (fU (aP ng s e mo da)) 0 (by omega);have l5:aS 0 (aP ng s e mo da).length=true:=by rw[qy];omega
   have l6:Nat.beq (fU (aP ng s e mo da)).length (aP ng s e mo da).length=true:=by rw[lu];exact aJ.mpr rfl
   have k8:∀n:Int,bC .i8 (.a .i8 n)=true:=λ_=>rfl;have k6:∀n:Int,bC .i64 (.a .i64 n)=true:=λ_=>rfl;have kI:∀k (n:Int),aK (.a k n)=n:=λ_ _=>rfl;try dsimp only
   rw[Ct];simp only[g0.1,g0.2.1,g0.2.2.1,g0.2.2.2,eu,er,h1,h2,h3,h4,l5,l6,k8,k6,kI,Bool.not_false,reduceCtorEq,zAh];exact λ_=>hQ
theorem Vl{a:Int}:bu Tryz.prog cfg 7 [.h [.a .u8 3,.f,.b ng,.b lg,.d s,.a .i64 e,.a .i64 g,.d mo,.d da,.a .u8 x,.a .u8 y,.a .u8 z,.a .u8 p,.a .i8 a,.a .i64 b,.a .i8 c,.a .i64 d]] [] (Cq ⟨a,b,c,d⟩) []:=by
 refine nF n4 ai (bE 10005) (R:=λQ=>Q (.h [.a .i8 a,.a .i64 b,.a .i8 c,.a .i64 d])) (λ_=>by kernel_rfl) (hi:=(by simp[aC,bw,Cq])) λQ' hQ=>?_;unfold Cq at hQ;try dsimp only
 exact hQ
theorem T0{a:Int}:bu Tryz.prog cfg 7 [.h [.a .u8 4,.f,.b ng,.b lg,.d s,.a .i64 e,.a .i64 g,.d mo,.d da,.a .u8 x,.a .u8 y,.a .u8 z,.a .u8 p,.a .i8 a,.a .i64 b,.a .i8 c,.a .i64 d]] [] (Cq ⟨a,b,c,d⟩) []:=by
 refine nF n4 ai (bE 10005) (R:=λQ=>Q (.h [.a .i8 a,.a .i64 b,.a .i8 c,.a .i64 d])) (λ_=>by kernel_rfl) (hi:=(by simp[aC,bw,Cq])) λQ' hQ=>?_;unfold Cq at hQ;try dsimp only
 exact hQ
theorem Va{a:Int}:bu Tryz.prog cfg 7 [.h [.a .u8 5,.f,.b ng,.b lg,.d s,.a .i64 e,.a .i64 g,.d mo,.d da,.a .u8 x,.a .u8 y,.a .u8 z,.a .u8 p,.a .i8 a,.a .i64 b,.a .i8 c,.a .i64 d]] [] (Cq ⟨a,b,c,d⟩) []:=by
 refine nF n4 ai (bE 10005) (R:=λQ=>Q (.h [.a .i8 a,.a .i64 b,.a .i8 c,.a .i64 d])) (λ_=>by kernel_rfl) (hi:=(by simp[aC,bw,Cq])) λQ' hQ=>?_;unfold Cq at hQ;try dsimp only
 exact hQ
theorem Vc(hS:ak Tryz.prog cfg S):ak Tryz.prog cfg (eQ S 7 (fl 14 [4] Y4)):=by
 refine bm hS (fW dI.lv Az λargs ws t r he hr=>?_);unfold Y4 at he;split at he
 . rename_i k n K ng lg s e g mo da x y z p a b c d w;cases he;replace hr:=aF hr;obtain⟨⟨k1,k2,k3,k4,k5,k7,-⟩,hr⟩:=hr;cases hr;rw[ao]at k1;rw[aJ]at k3;rw[al]at k4 k5;subst k1 k3;have ew:=hZ k2;refine⟨?_,λx hx=>by cases hx⟩;have h:=@Xc ng lg s e g mo da x y z p a b c d K (g8 w) (by rw[ew];exact k2) k4 k5 k7;rw[ew]at h;exact h
 . rename_i k ng lg s e g mo da x y z p a b c d;cases he;replace hr:=aF hr;obtain⟨⟨k1,-⟩,hr⟩:=hr;cases hr;refine⟨?_,λx hx=>by cases hx⟩;have k1':=k1;unfold IY at k1';unfold jF;cases q2:aa k 2 with
   | true=>
     rw[ao]at q2;subst q2;have hg:aa g 0=true:=by
      have k1':(aa g 0&&_)=true:=k1';rw[zAa]at k1';exact k1'.1
     rw[ao]at hg;subst hg;exact Vf k1
   | false=>
     rw[q2,cond_false,Bool.or_eq_true,Bool.or_eq_true,ao,ao,ao]at k1';rw[cond_false];rcases k1' with rfl|rfl|rfl
     . exact Vl
     . exact T0
     . exact Va
 . cases he
def pQ(t1 t2 t3 t4 A B C D:Int):Bool:=(!(aa A 0) || (!(aa t1 1)&&(ab B (-9223372036854775808) || ab t2 1)))&&(!(aa C 0) || (!(aa t3 1)&&(ab 9223372036854775807 D || ab t4 1)))
noncomputable def SEd:aQ:=eQ gZ 11 (fl 14 [4] Yu)
def Ze:kS:=λargs ws=>match args,ws with
 | [.h [.a .i8 A,.a .i64 B,.a .i8 C,.a .i64 D],.h [.a .u8 k,.c 14 0 n K,.b ng,.b lg,.d s,.a .i64 e,.a .i64 g,.d mo,.d da,.a .u8 x,.a .u8 y,.a .u8 z,.a .u8 p,.a .i8 a,.a .i64 b,.a .i8 c,.a .i64 d]],[.a w false none]=>some (aH [af .i64 B,af .i64 D,aa k 1,eJ w,Nat.beq (g8 w).length n,Nat.ble 1 n,Nat.ble n 4,j9 (g8 w),pQ (jc (bq (g8 w) (B)) (bq (g8 w) (B))) (jc (bq (g8 w) (Int.sub B 1)) (bq (g8 w) (Int.sub B 1))) (jc (bq (g8 w) (D)) (bq (g8 w) (D))) (jc (bq (g8 w) (Int.add D 1)) (bq (g8 w) (Int.add D 1))) A B C D] (.a0 (.b true,[])))
 | [.h [.a .i8 A,.a .i64 B,.a .i8 C,.a .i64 D],.h [.a .u8 k,.f,.b ng,.b lg,.d s,.a .i64 e,.a .i64 g,.d mo,.d da,.a .u8 x,.a .u8 y,.a .u8 z,.a .u8 p,.a .i8 a,.a .i64 b,.a .i8 c,.a .i64 d]],[]=>some (aH [af .i64 B,af .i64 D,xf k ng lg s e g mo da p a b c d,pQ (tR k ng s e mo da p a b c d (B)) (tR k ng s e mo da p a b c d (Int.sub B 1)) (tR k ng s e mo da p a b c d (D)) (tR k ng s e mo da p a b c d (Int.add D 1)) A B C D] (.a0 (.b true,[])))
 | _,_=>none
theorem K6:ak Tryz.prog cfg SEd:=UW aW
theorem Ga{t1 t2 t3 t4 A B C D:Int}(h:pQ t1 t2 t3 t4 A B C D)(hB:af .i64 B)(hD:af .i64 D):(aa A 0->aa t1 1=false)/\(aa A 0->ab B (-9223372036854775808)=false->ab t2 1=true)/\(aa C 0->aa t3 1=false)/\(aa C 0->ab 9223372036854775807 D=false->ab t4 1=true)/\(ab B (-9223372036854775808)=false->af .i64 (Int.sub B 1)=true)/\(ab 9223372036854775807 D=false->af .i64 (Int.add D 1)=true):=by
 unfold pQ at h;rw[aE]at hB hD;simp only[eH,eE]at hB hD;refine⟨λhA=>?_,λhA hL=>?_,λhC=>?_,λhC hH=>?_,λhL=>?_,λhH=>?_⟩
 . rw[hA]at h;cases k:aa t1 1 with
   | false=>rfl
   | true=>rw[k]at h;simp at h
 . rw[hA,hL]at h;cases k:ab t2 1 with
   | true=>rfl
   | false=>rw[k]at h;simp at h
 . rw[hC]at h;cases k:aa t3 1 with
   | false=>rfl
   | true=>rw[k]at h;simp at h
 . rw[hC,hH]at h;cases k:ab t4 1 with
   | true=>rfl
   | false=>rw[k]at h;simp at h
 . rw[bF]at hL;rw[aE];simp only[eH,eE];show _<=B-1/\B-1<=_;omega
 . rw[bF]at hH;rw[aE];simp only[eH,eE];show _<=D+1/\D+1<=_;omega
theorem Ym{A B C D:Int}{ng lg:Bool}{s:List UInt8}{e g:Int}{mo da:List UInt8}{x y z p a b c d:Int}{K:fg}{R:List Rn}(hB:af .i64 B)(hD:af .i64 D)(hi:eJ (bh R))(hn:1<=R.length)(hm:R.length<=4)(hr:j9 R)(hE:pQ (jc (bq R (B)) (bq R (B))) (jc (bq R (Int.sub B 1)) (bq R (Int.sub B 1))) (jc (bq R (D)) (bq R (D))) (jc (bq R (Int.add D 1)) (bq R (Int.add D 1))) A B C D):bu Tryz.prog cfg 8 [.h [.a .i8 A,.a .i64 B,.a .i8 C,.a .i64 D],.h [.a .u8 1,.c 14 0 R.length K,.b ng,.b lg,.d s,.a .i64 e,.a .i64 g,.d mo,.d da,.a .u8 x,.a .u8 y,.a .u8 z,.a .u8 p,.a .i8 a,.a .i64 b,.a .i8 c,.a .i64 d]] [.a (bh R) false none] (.b true) []:=by
 obtain⟨e1,e2,e3,e4,s1,s2⟩:=Ga hE hB hD;refine ns K6 fu ai (bE 10335688107300053810232328811423277702707556422022422770220755640033568810730005381033568810730005381023232881142327770270755642202242277022075564002323288103356881073000538102323288114232777027075564220224227702207556401423277702707556422022422770220755640) (R:=λQ=>(λ(E F G H Z u0:Bool)(uc ud:Int)(ub:Nat)(u1 u5:Prop)=>(λ(ue uf:Bool)(u6:List AV)(I N O P:Prop)=>(λ(u2 u3:Bool)(V:List Rn)=>(λ(u4 u7 u9 ug uh:Bool)=>(λ(T U:Bool)(ui uj:Prop)=>(λ(W Y:Prop)=>(λ(ua:Prop)=>(λ(uk:Prop->Prop)=>(E->E/\E/\E/\E/\uk (af .i64 B/\E/\E/\(T->T/\T/\T/\T/\(G->G/\G/\G/\G/\ue/\G/\uk (ue/\G/\T/\G/\E/\ui/\E/\(ug->u1)/\(ug=false->ua)))/\(P->P/\P/\P/\P/\P/\P/\T/\P/\E/\ui/\E/\ua))/\(Y->Y/\Y/\Y/\Y/\Y/\E/\u7/\E/\u1)))/\(N->N/\N/\N/\N/\N/\N/\N/\N/\ua)) (λul=>u2/\u3/\u4/\Z/\u0/\j9 V/\ul)) ((F->F/\F/\F/\F/\u2/\u3/\u4/\Z/\u0/\j9 V/\af .i64 D/\F/\F/\(U->U/\U/\U/\U/\(H->H/\H/\H/\H/\uf/\H/\u2/\u3/\u4/\Z/\u0/\j9 V/\uf/\H/\U/\H/\F/\uj/\F/\(uh->u1)/\(uh=false->u5))/\(O->O/\O/\O/\O/\O/\O/\U/\O/\F/\uj/\F/\u5))/\(W->W/\W/\W/\W/\W/\F/\u9/\F/\u1))/\(I->I/\I/\I/\I/\I/\I/\I/\I/\u5))) (U=false) (T=false)) (not u7) (not u9) (u7=false) (u9=false)) (Nat.beq V.length R.length) (aa (jc (bq V B) (bq V B)) 1) (aa (jc (bq V D) (bq V D)) 1) (not (ab (jc (bq V uc) (bq V uc)) 1)) (not (ab (jc (bq V ud) (bq V ud)) 1))) (and true (and (Nat.ble (HAdd.hAdd 0 ub) (bh R).length) (bc 14 u6))) (eJ u6) (g8 u6)) (af .i64 uc) (af .i64 ud) (b_ (bh R) 0 ub) (F=false) (E=false) (H=false) (G=false)) (aa A 0) (aa C 0) (not (ab B (Neg.neg 9223372036854775808))) (not (ab 9223372036854775807 D)) (Nat.ble 1 R.length) (Nat.ble R.length 4) (Int.sub B 1) (Int.add D 1) (HMul.hMul R.length 4) (Q (.b false)) (Q (.b true))) (λ_=>by kernel_rfl) λQ' hQ=>?_;try dsimp only
 simp only[l_,iJ];have l1:Nat.ble (0+R.length*4) (bh R).length=true:=al.mpr (by rw[kz];omega);have l2:=@ij R;have l3:Nat.beq R.length R.length=true:=aJ.mpr rfl;have l5:=al.mpr hn;have l6:=al.mpr hm;cases kA:aa A 0<;>cases kC:aa C 0<;>cases kL:ab B (-9223372036854775808)<;>cases kH:ab 9223372036854775807 D<;>simp only[kA,kC,kL,kH,e1,e2,e3,e4,s1,s2,hB,hD,hi,hr,l1,l2,l3,l5,l6,Bool.and_self,Bool.not_true,Bool.not_false,reduceCtorEq,zAh]<;>exact hQ
theorem Yc{k:Int}{A B C D:Int}{a:Int}(hB:af .i64 B)(hD:af .i64 D)(hk:xf k ng lg s e g mo da p a b c d)(hE:pQ (tR k ng s e mo da p a b c d (B)) (tR k ng s e mo da p a b c d (Int.sub B 1)) (tR k ng s e mo da p a b c d (D)) (tR k ng s e mo da p a b c d (Int.add D 1)) A B C D):bu Tryz.prog cfg 8 [.h [.a .i8 A,.a .i64 B,.a .i8 C,.a .i64 D],.h [.a .u8 k,.f,.b ng,.b lg,.d s,.a .i64 e,.a .i64 g,.d mo,.d da,.a .u8 x,.a .u8 y,.a .u8 z,.a .u8 p,.a .i8 a,.a .i64 b,.a .i8 c,.a .i64 d]] [] (.b true) []:=by
 obtain⟨e1,e2,e3,e4,s1,s2⟩:=Ga hE hB hD;refine nF K6 ai (bE 10335688107300053810232328811423770707556422022427020755640033568810730005381033568810730005381023232881142377070755642202242702075564002323288103356881073000538102323288114237707075564220224270207556401423770707556422022427020755640) (R:=λQ=>(λ(E F G H Z u0:Bool)(u3 u4:Int)(Y u1:Prop)=>(λ(O P u5 u7 u9 ub:Bool)(I N T U u6 ua:Prop)=>(λ(V W:Prop)=>(λ(u2:Prop)=>(E->E/\E/\E/\E/\xf k ng lg s e g mo da p a b c d/\af .i64 B/\E/\E/\(O->O/\O/\O/\O/\(G->G/\G/\G/\G/\u5/\G/\xf k ng lg s e g mo da p a b c d/\u5/\G/\O/\G/\E/\u6/\E/\(u7->Y)/\(u7=false->u2))/\(U->U/\U/\U/\U/\U/\U/\O/\U/\E/\u6/\E/\u2))/\(W->W/\W/\W/\W/\W/\E/\Z/\E/\Y))/\(N->N/\N/\N/\N/\N/\N/\N/\N/\u2)) ((F->F/\F/\F/\F/\xf k ng lg s e g mo da p a b c d/\af .i64 D/\F/\F/\(P->P/\P/\P/\P/\(H->H/\H/\H/\H/\u9/\H/\xf k ng lg s e g mo da p a b c d/\u9/\H/\P/\H/\F/\ua/\F/\(ub->Y)/\(ub=false->u1))/\(T->T/\T/\T/\T/\T/\T/\P/\T/\F/\ua/\F/\u1))/\(V->V/\V/\V/\V/\V/\F/\u0/\F/\Y))/\(I->I/\I/\I/\I/\I/\I/\I/\I/\u1))) (P=false) (O=false)) (not Z) (not u0) (af .i64 u3) (not (ab (tR k ng s e mo da p a b c d u3) 1)) (af .i64 u4) (not (ab (tR k ng s e mo da p a b c d u4) 1)) (F=false) (E=false) (H=false) (G=false) (Z=false) (u0=false)) (aa A 0) (aa C 0) (not (ab B (Neg.neg 9223372036854775808))) (not (ab 9223372036854775807 D)) (aa (tR k ng s e mo da p a b c d B) 1) (aa (tR k ng s e mo da p a b c d D) 1) (Int.sub B 1) (Int.add D 1) (Q (.b false)) (Q (.b true))) (λ_=>by kernel_rfl) λQ' hQ=>?_;try dsimp only
 cases kA:aa A 0<;>cases kC:aa C 0<;>cases kL:ab B (-9223372036854775808)<;>cases kH:ab 9223372036854775807 D<;>simp only[kA,kC,kL,kH,e1,e2,e3,e4,s1,s2,hB,hD,hk,Bool.and_self,Bool.not_true,Bool.not_false,reduceCtorEq,zAh]<;>exact hQ
theorem Uo(hS:ak Tryz.prog cfg S):ak Tryz.prog cfg (eQ S 8 (fl 14 [4] Ze)):=by
 refine bm hS (fW dI.lv Az λargs ws t r he hr=>?_);unfold Ze at he;split at he
 . rename_i A B C D k n K ng lg s e g mo da x y z p a b c d w;cases he;replace hr:=aF hr;obtain⟨⟨h1,h2,k1,k2,k3,k4,k5,k6,k7,-⟩,hr⟩:=hr;cases hr;rw[ao]at k1;rw[aJ]at k3;rw[al]at k4 k5;subst k1 k3;have ew:=hZ k2;refine⟨?_,λx hx=>by cases hx⟩;have h:=@Ym A B C D ng lg s e g mo da x y z p a b c d K (g8 w) h1 h2 (by rw[ew];exact k2) k4 k5 k6 k7;rw[ew]at h;exact h
 . rename_i A B C D k ng lg s e g mo da x y z p a b c d;cases he;replace hr:=aF hr;obtain⟨⟨h1,h2,k1,k2,-⟩,hr⟩:=hr;cases hr;exact⟨Yc h1 h2 k1 k2,λx hx=>by cases hx⟩
 . cases he
end Go.Ev
