import Derived.Test.YtoghlpcacfnjbaaGreatDoorP15
set_option linter.all false
set_option maxRecDepth 100000
set_option maxHeartbeats 4000000
section
namespace Go.Ev
open Go Go.Proofs
variable{Q:AV->Prop}
def cq(a b c d:Int):Int:=if iI a c=0 then iI b d else iI a c
def FB:dP:=λargs=>match args with
 | [.h [.a .i8 a,.a .i64 b],.h [.a .i8 c,.a .i64 d]]=>some (.a0 (.a .i64 (cq a b c d)))
 | _=>none
def bA(a b c d:Int):Int:=if cw a b=0/\cw c d=0 then(if 0<a\/c<0 then 4 else if 0<cq a b c d then 12 else 0)else 5
def Pm:dP:=λargs=>match args with
 | [.h [.a .i8 a,.a .i64 b,.a .i8 c,.a .i64 d]]=>some (.a0 (.a .i64 (bA a b c d)))
 | _=>none
def S2:aQ:=pX S1 56 FB
def S3:aQ:=pX S2 45 Pm
def In(a b c d e f g h:Int):Int:=if cq a b e f=0 then cq c d g h else cq a b e f
def s6(i j k l:Int):Prop:=cq k l i j<=0\/cw i j=0/\(i=0/\j<9223372036854775807/\k=0/\l=j+1\/i≠0/\i=k/\j=l)
instance {i j k l:Int}:Decidable (s6 i j k l):=by unfold s6;infer_instance
def vz(a b c d e f g h:Int):Bool:=decide (bA a b c d=0/\bA e f g h=0/\(cq e f a b<0/\s6 g h a b\/0<=cq e f a b/\s6 c d e f))
def IJ(n:Int):Prop:=-9223372036854775808<=n/\n<=9223372036854775807
def Y7(a b c d:Int):ask Q (mG tab cfg S1 1000 56 [wn a b,wn c d]) (.e (.e (.e (.e (.e (.e (.e (.e (.b .z (.e (.e (.e (.e (.e (.b .z (.e (.e .z)))))))))))))))))=((Bool.not (aa (iI a c) 0)->Q (AV.a .i64 (iI a c)))/\(Bool.not (aa (iI a c) 0)=false->((Bool.not (aa (iI b d) 0)->Q (AV.a .i64 (iI b d)))/\(Bool.not (aa (iI b d) 0)=false->Q (AV.a .i64 0))))):=by kernel_rfl
def w57(a b c d:Int):ask Q (mG tab cfg S2 1000 45 [kw a b c d]) (.e (.e (.b (.t (.e (.e (.t (.t (.f (.b .z (.e (.b (.t (.t (.e (.t (.f (.b .z (.e (.e (.e (.e (.b .z .z))))))))))) (.f (.f (.f (.t (.e .z)))))))))))))) (.f (.f (.f (.t (.e .z))))))))=((Bool.not (Bool.not (aa (cw a b) 0))->(Bool.not (Bool.not (aa (cw a b) 0))/\(Bool.not (Bool.not (aa (cw a b) 0))/\(Bool.not (Bool.not (aa (cw a b) 0))/\(Bool.not (aa (cw a b) 0)=false/\((Bool.not (aa (cw c d) 0)->Q (AV.a .i64 5))/\(Bool.not (aa (cw c d) 0)=false->((Bool.not (Bool.not (ab a 0))->(Bool.not (Bool.not (ab a 0))/\(Bool.not (Bool.not (ab a 0))/\(Bool.not (Bool.not (ab a 0))/\(Bool.not (ab a 0)=false/\((Bool.not (ab 0 c)->Q (AV.a .i64 4))/\(Bool.not (ab 0 c)=false->((Bool.not (ab (cq a b c d) 0)->Q (AV.a .i64 12))/\(Bool.not (ab (cq a b c d) 0)=false->Q (AV.a .i64 0))))))))))/\(Bool.not (Bool.not (ab a 0))=false->(Bool.not (Bool.not (ab a 0))=false/\(Bool.not (Bool.not (ab a 0))=false/\(Bool.not (Bool.not (ab a 0))=false/\(Bool.not (ab a 0)/\Q (AV.a .i64 4))))))))))))))/\(Bool.not (Bool.not (aa (cw a b) 0))=false->(Bool.not (Bool.not (aa (cw a b) 0))=false/\(Bool.not (Bool.not (aa (cw a b) 0))=false/\(Bool.not (Bool.not (aa (cw a b) 0))=false/\(Bool.not (aa (cw a b) 0)/\Q (AV.a .i64 5))))))):=by kernel_rfl
def Zr(a b c d e f g h:Int):ask Q (mG tab cfg S2 1000 79 [kw a b c d,kw e f g h]) (.e (.e (.e (.e (.e (.e (.e (.e (.e (.e (.e (.e (.b .z (.e (.e (.e (.e (.e (.b .z (.e (.e .z)))))))))))))))))))))=((Bool.not (aa (cq a b e f) 0)->Q (AV.a .i64 (cq a b e f)))/\(Bool.not (aa (cq a b e f) 0)=false->((Bool.not (aa (cq c d g h) 0)->Q (AV.a .i64 (cq c d g h)))/\(Bool.not (aa (cq c d g h) 0)=false->Q (AV.a .i64 0))))):=by kernel_rfl
def Y0(a b c d e f g h:Int):ask Q (mG tab cfg S3 1000 80 [kw a b c d,kw e f g h]) (.e (.e (.e (.e (.e (.e (.e (.e (.e (.e (.e (.e (.b (.e (.e (.e (.e (.t (.t (.t (.b .z (.e (.e (.e (.e (.b (.e (.e (.e (.e (.e (.e (.e (.e (.e (.e (.e (.e (.e (.e (.b .z (.e (.e (.e (.e (.e (.e (.b (.t (.e (.t (.f (.b (.f (.e (.e (.e (.e (.e (.t (.e (.e (.t (.t (.e (.e (.t (.t .z))))))))))))))) (.e (.b (.e (.e (.e (.e (.e (.e (.e (.e (.e (.e (.e (.e (.e .z))))))))))))) (.b (.e (.e (.e (.e (.e (.e (.e (.e (.e (.e .z)))))))))) .z)))))))) (.f (.f (.t (.e (.t (.e (.e (.e (.e (.e (.e (.f (.f (.f (.f (.f .z)))))))))))))))))))))))))))))))))))))) (.e (.e (.e (.e (.b .z (.e (.e (.e (.e (.e (.e (.b (.t (.e (.t (.f (.b (.f (.e (.e (.e (.e (.e (.t (.e (.e (.t (.t (.e (.e (.t (.t .z))))))))))))))) (.e (.b (.e (.e (.e (.e (.e (.e (.e (.e (.e (.e (.e (.e (.e .z))))))))))))) (.b (.e (.e (.e (.e (.e (.e (.e (.e (.e (.e .z)))))))))) .z)))))))) (.f (.f (.t (.e (.t (.e (.e (.e (.e (.e (.e (.f (.f (.f (.f (.f .z))))))))))))))))))))))))))))))))))))))))) (.f (.f (.f (.e .z)))))))))))))))))=((aa (bA a b c d) 0->(aa (bA a b c d) 0/\(aa (bA a b c d) 0/\(aa (bA a b c d) 0/\((Bool.not (aa (bA e f g h) 0)->Q (AV.b Bool.false))/\(Bool.not (aa (bA e f g h) 0)=false->((Bool.not (ab 0 (cq e f a b))->((ab (cq a b g h) 0->Q (AV.b Bool.true))/\(ab (cq a b g h) 0=false->((Bool.not (Bool.not (aa (cw g h) 0))->(Bool.not (Bool.not (aa (cw g h) 0))/\(Bool.not (Bool.not (aa (cw g h) 0))/\(Bool.not (aa (cw g h) 0)=false/\((Bool.not (aa g 0)->(Bool.not (aa (cw g h) 0)=false/\(aa (cw g h) 0/\(aa (cw g h) 0/\(aa (cw g h) 0/\(aa (cw g h) 0/\(aa (cw g h) 0/\Q (AV.b (Bool.and (aa g a) (Bool.and (aa h b) Bool.true))))))))))/\(Bool.not (aa g 0)=false->((af .i64 (Int.add h 1)->Q (AV.b (Bool.and (aa 0 a) (Bool.and (aa (Int.add h 1) b) Bool.true))))/\(af .i64 (Int.add h 1)=false->((aa h 9223372036854775807->Q (AV.b Bool.false))/\(aa h 9223372036854775807=false->False))))))))))/\(Bool.not (Bool.not (aa (cw g h) 0))=false->(Bool.not (Bool.not (aa (cw g h) 0))=false/\(Bool.not (Bool.not (aa (cw g h) 0))=false/\(Bool.not (aa (cw g h) 0)/\(Bool.not (aa (cw g h) 0)/\(aa (cw g h) 0=false/\(aa (cw g h) 0=false/\(aa (cw g h) 0=false/\(aa (cw g h) 0=false/\(aa (cw g h) 0=false/\Q (AV.b Bool.false)))))))))))))))/\(Bool.not (ab 0 (cq e f a b))=false->((ab (cq e f c d) 0->Q (AV.b Bool.true))/\(ab (cq e f c d) 0=false->((Bool.not (Bool.not (aa (cw c d) 0))->(Bool.not (Bool.not (aa (cw c d) 0))/\(Bool.not (Bool.not (aa (cw c d) 0))/\(Bool.not (aa (cw c d) 0)=false/\((Bool.not (aa c 0)->(Bool.not (aa (cw c d) 0)=false/\(aa (cw c d) 0/\(aa (cw c d) 0/\(aa (cw c d) 0/\(aa (cw c d) 0/\(aa (cw c d) 0/\Q (AV.b (Bool.and (aa c e) (Bool.and (aa d f) Bool.true))))))))))/\(Bool.not (aa c 0)=false->((af .i64 (Int.add d 1)->Q (AV.b (Bool.and (aa 0 e) (Bool.and (aa (Int.add d 1) f) Bool.true))))/\(af .i64 (Int.add d 1)=false->((aa d 9223372036854775807->Q (AV.b Bool.false))/\(aa d 9223372036854775807=false->False))))))))))/\(Bool.not (Bool.not (aa (cw c d) 0))=false->(Bool.not (Bool.not (aa (cw c d) 0))=false/\(Bool.not (Bool.not (aa (cw c d) 0))=false/\(Bool.not (aa (cw c d) 0)/\(Bool.not (aa (cw c d) 0)/\(aa (cw c d) 0=false/\(aa (cw c d) 0=false/\(aa (cw c d) 0=false/\(aa (cw c d) 0=false/\(aa (cw c d) 0=false/\Q (AV.b Bool.false))))))))))))))))))))))/\(aa (bA a b c d) 0=false->(aa (bA a b c d) 0=false/\(aa (bA a b c d) 0=false/\(aa (bA a b c d) 0=false/\Q (AV.b Bool.false)))))):=by kernel_rfl
def YQ(a b c d:Int):ask Q (mG tab cfg gZ 1000 52 [wn a b,wn c d]) (.e (.e (.b .z (.e (.e (.b .z (.e (.e (.b .z (.e (.e (.b .z .z))))))))))))=((Bool.not (ab c a)->Q (AV.a .i64 (Neg.neg 1)))/\(Bool.not (ab c a)=false->((Bool.not (ab a c)->Q (AV.a .i64 1))/\(Bool.not (ab a c)=false->((Bool.not (ab d b)->Q (AV.a .i64 (Neg.neg 1)))/\(Bool.not (ab d b)=false->((Bool.not (ab b d)->Q (AV.a .i64 1))/\(Bool.not (ab b d)=false->Q (AV.a .i64 0))))))))):=by kernel_rfl
def Y9(a b:Int):ask Q (mG tab cfg gZ 1000 107 [wn a b]) (.e (.b .z (.b (.t (.e (.b .z .z))) (.b (.e (.b .z .z)) .z))))=((aa a 0->Q (AV.a .i64 0))/\(aa a 0=false->((aa a 1->(aa a 1/\((aa b 0->Q (AV.a .i64 0))/\(aa b 0=false->Q (AV.a .i64 5)))))/\(aa a 1=false->((aa a (Neg.neg 1)->((aa b 0->Q (AV.a .i64 0))/\(aa b 0=false->Q (AV.a .i64 5))))/\(aa a (Neg.neg 1)=false->Q (AV.a .i64 5))))))):=by kernel_rfl
theorem Vs(a b c d:Int):gM Tryz.prog cfg 56 [wn a b,wn c d] (.a .i64 (cq a b c d)):=
 cC.b0 PX (n:=1000) (D:=_) (by rw[Y7];simp only[az,reduceCtorEq];(repeat' first|exact trivial|refine⟨?_,?_⟩|intro)<;>((try simp only[rE,eq_comm (a:=true),eq_comm (a:=false),cq]at *)<;>(repeat' split)<;>(first|omega|(simp_all;done)|(simp_all;omega))))
theorem NE:ky Tryz.prog cfg 56 FB:=by(intro args t v he hv;unfold FB at he;split at he<;>first|(cases he;cases hv;apply Vs;done)|(cases he;done))
theorem Jp:ak Tryz.prog cfg S2:=eG PX NE
theorem f57(a b c d:Int):gM Tryz.prog cfg 45 [kw a b c d] (.a .i64 (bA a b c d)):=
 cC.b0 Jp (n:=1000) (D:=_) (by rw[w57];simp only[az,reduceCtorEq];(repeat' first|exact trivial|refine⟨?_,?_⟩|intro)<;>((try simp only[rE,eq_comm (a:=true),eq_comm (a:=false),bA]at *)<;>(repeat' split)<;>(first|omega|(simp_all;done)|(simp_all;omega))))
theorem Es:ky Tryz.prog cfg 45 Pm:=by(intro args t v he hv;unfold Pm at he;split at he<;>first|(cases he;cases hv;apply f57;done)|(cases he;done))
theorem TM(a b c d e f g h:Int):gM Tryz.prog cfg 79 [kw a b c d,kw e f g h] (.a .i64 (In a b c d e f g h)):=
 cC.b0 Jp (n:=1000) (D:=_) (by rw[Zr];simp only[az,reduceCtorEq];(repeat' first|exact trivial|refine⟨?_,?_⟩|intro)<;>((try simp only[rE,eq_comm (a:=true),eq_comm (a:=false),In]at *)<;>(repeat' split)<;>(first|omega|(simp_all;done)|(simp_all;omega))))
theorem P2:ak Tryz.prog cfg S3:=eG Jp Es
theorem QO(a b c d e f g h:Int)(hd:IJ d)(hh:IJ h):gM Tryz.prog cfg 80 [kw a b c d,kw e f g h] (.b (vz a b c d e f g h)):=by
 have hd:=hd;have hh:=hh
 unfold IJ at hd hh;refine cC.b0 P2 ((Y0 ..).mpr ?_);simp only[az,reduceCtorEq]
 (repeat' first|exact trivial|refine⟨?_,?_⟩|intro)<;>first|omega|(first|omega|(rw[AV.b.injEq,Bool.eq_iff_iff]<;>simp only[qW,MH,K5,ao,aq,nr,Bw,ES,aw,bF,zAb,and_true,Bool.false_eq_true,true_iff,false_iff,iff_true,iff_false,vz]<;>(try simp only[s6])<;>first|omega|(simp_all;done)|(simp_all;omega)))
theorem WY(a b c d:Int):gM Tryz.prog cfg 52 [wn a b,wn c d] (.a .i64 (cq a b c d)):=
 cC.b0 aW ((YQ ..).mpr (by simp only[az,reduceCtorEq];(repeat' first|exact trivial|refine⟨?_,?_⟩|intro)<;>((try simp only[rE,eq_comm (a:=true),eq_comm (a:=false),cq,iI]at *)<;>(repeat' split)<;>(first|omega|(simp_all;done)|(simp_all;omega)))))
theorem SB(a b:Int):gM Tryz.prog cfg 107 [wn a b] (.a .i64 (cw a b)):=
 cC.b0 aW ((Y9 ..).mpr (by simp only[az,reduceCtorEq];(repeat' first|exact trivial|refine⟨?_,?_⟩|intro)<;>((try simp only[rE,eq_comm (a:=true),eq_comm (a:=false),cw]at *)<;>(repeat' split)<;>(first|omega|(simp_all;done)|(simp_all;omega)))))
end Go.Ev
end
section
namespace Go.Ev
open Go
def ZG(T:fm)(cfg:cL)(S:aQ)(n:Nat)(C:bg)(f:FuncId)(args:List AV)(o:aB):Tr AV:=
 si T (cH cfg S) (tK S) false (rx T (cH cfg S) (tK S) n) C f args o λr=>.a0 r.1
theorem xS.row{P:Program}{T:fm}{cfg:cL}(g:xS P T cfg){S:aQ}(hS:ak P cfg S){n:Nat}{C:bg}{f:FuncId}{args:List AV}{o:aB}{Q:AV->Prop}{t:DT}(h:Ev.ask Q (ZG T cfg S n C f args o) t)
 {D:Nat->Prop} {m:Nat->bv} {w:World} (hi:dX cfg D m C o w) (hok:fM D m args) :
 ∃v o',Q v/\jV P f (ap m args).toArray w λV w'=>∃D' m',V=aj m' v/\dh D' m' v/\dw cfg C D m o w D' m' o' w'/\(cI args (cfg.b0 f)=[]->m6 D w D' m' w'):=by
 have gg:=g.a0 hS;obtain⟨a,ha,hq⟩:=iH h;obtain⟨x,hx,hr⟩:=lZ (R:=AV) (inl:=false) (nj cfg S) (mq (nj cfg S) n) _ _ _ _ _ _ ha;cases hr;refine⟨x.1,x.2,hq,(OS gg.d0 gg.b0 gg.lv gg.f0 gg.c0 n C f args o x hx D m w (dX.to (cfg:=cfg) (cfg':=cH cfg S) rfl rfl hi) hok).a0 ?_⟩;rintro V w' ⟨D',m',h1,h2,h3,h4⟩;exact⟨D',m',h1,h2,dw.to (cfg:=cH cfg S) (cfg':=cfg) rfl rfl h3,h4 trivial⟩
end Go.Ev
end
section
namespace Go.Ev
open Go Go.Proofs
def QG:dP:=λargs=>match args with
 | [.h [.a .i8 a,.a .i64 b,.a .i8 c,.a .i64 d],.h [.a .i8 e,.a .i64 f,.a .i8 g,.a .i64 h]]=>some (.a0 (.a .i64 (In a b c d e f g h)))
 | _=>none
def Sp:dP:=λargs=>match args with
 | [.h [.a .i8 a,.a .i64 b,.a .i8 c,.a .i64 d],.h [.a .i8 e,.a .i64 f,.a .i8 g,.a .i64 h]]=>some (fO (af .i64 d) (fO (af .i64 h) (.a0 (.b (vz a b c d e f g h)))))
 | _=>none
def S4:aQ:=pX (pX (pX (pX S3 79 QG) 80 Sp) 52 FB) 107 Ie
def S5:aQ:=pX S4 60 Pm
theorem Hr{a b:Int}:cw a b=0↔a=0\/(a=1\/a = -1)/\b=0:=by unfold cw;split<;>simp_all
theorem yg(a b:Int):a<b/\iI a b = -1\/a=b/\iI a b=0\/b<a/\iI a b=1:=by unfold iI;split<;>(try split)<;>omega
theorem xF(a b c d:Int):(a<c\/a=c/\b<d)/\cq a b c d = -1\/(a=c/\b=d)/\cq a b c d=0\/(c<a\/a=c/\d<b)/\cq a b c d=1:=by
 have h1:=yg a c;have h2:=yg b d;unfold cq;split<;>omega
def cP(a b c d n:Int):Bool:=decide ((a = -1\/b<=n)/\(c=1\/n<=d))
def RA:dP:=λargs=>match args with
 | [.h [.a .i8 a,.a .i64 b,.a .i8 c,.a .i64 d],.a .i64 n]=>some (.a0 (.b (cP a b c d n)))
 | _=>none
def S6:aQ:=pX S5 61 RA
def S7:aQ:=S6
def w64(a b c d:Int){Q:AV->Prop}:ask Q (mG tab cfg S4 1000 60 [kw a b c d]) (.e (.e (.b (.t (.e (.e (.t (.t (.f (.b .z (.e (.b (.t (.t (.e (.t (.f (.b .z (.e (.e (.e (.e (.b .z .z))))))))))) (.f (.f (.f (.t (.e .z)))))))))))))) (.f (.f (.f (.t (.e .z))))))))=((Bool.not (Bool.not (aa (cw a b) 0))->(Bool.not (Bool.not (aa (cw a b) 0))/\(Bool.not (Bool.not (aa (cw a b) 0))/\(Bool.not (Bool.not (aa (cw a b) 0))/\(Bool.not (aa (cw a b) 0)=false/\((Bool.not (aa (cw c d) 0)->Q (AV.a .i64 5))/\(Bool.not (aa (cw c d) 0)=false->((Bool.not (aa a 1)->(Bool.not (aa a 1)/\(Bool.not (aa a 1)/\(Bool.not (aa a 1)/\(aa a 1=false/\((aa c (Neg.neg 1)->Q (AV.a .i64 4))/\(aa c (Neg.neg 1)=false->((aa (cq a b c d) 1->Q (AV.a .i64 12))/\(aa (cq a b c d) 1=false->Q (AV.a .i64 0))))))))))/\(Bool.not (aa a 1)=false->(Bool.not (aa a 1)=false/\(Bool.not (aa a 1)=false/\(Bool.not (aa a 1)=false/\(aa a 1/\Q (AV.a .i64 4))))))))))))))/\(Bool.not (Bool.not (aa (cw a b) 0))=false->(Bool.not (Bool.not (aa (cw a b) 0))=false/\(Bool.not (Bool.not (aa (cw a b) 0))=false/\(Bool.not (Bool.not (aa (cw a b) 0))=false/\(Bool.not (aa (cw a b) 0)/\Q (AV.a .i64 5))))))):=by kernel_rfl
def Yb(a b c d n:Int){Q:AV->Prop}:ask Q (mG tab cfg S4 1000 61 [kw a b c d,.a .i64 n]) (.e (.b (.t (.t (.e (.t (.t (.f (.b (.t (.t (.e (.t (.t (.b (.t (.t (.t (.e (.t (.t (.f (.t .z)))))))) (.f (.f (.f (.f (.t (.t (.t .z))))))))))))) (.f (.f (.f (.f (.e (.e (.e (.e (.e (.f (.f .z)))))))))))))))))) (.f (.f (.f (.f (.t (.e (.e (.e (.e (.e (.e (.b (.t (.t (.t (.e (.t (.e (.f (.e .z)))))))) (.f (.f (.f (.f (.e (.t (.e .z)))))))))))))))))))))=((Bool.not (aa a (Neg.neg 1))->(Bool.not (aa a (Neg.neg 1))/\(Bool.not (aa a (Neg.neg 1))/\(Bool.not (aa a (Neg.neg 1))/\(Bool.not (aa a (Neg.neg 1))/\(aa a (Neg.neg 1)=false/\((ab b n->(ab b n/\(ab b n/\(ab b n/\(ab b n/\((Bool.not (aa c 1)->(Bool.not (aa c 1)/\(Bool.not (aa c 1)/\(Bool.not (aa c 1)/\(Bool.not (aa c 1)/\(ab b n/\(aa c 1=false/\(ab b n/\Q (AV.b (ab n d))))))))))/\(Bool.not (aa c 1)=false->(Bool.not (aa c 1)=false/\(Bool.not (aa c 1)=false/\(Bool.not (aa c 1)=false/\(Bool.not (aa c 1)=false/\(ab b n/\(aa c 1/\(ab b n/\Q (AV.b Bool.true)))))))))))))))/\(ab b n=false->(ab b n=false/\(ab b n=false/\(ab b n=false/\(ab b n=false/\(ab b n=false/\(ab b n=false/\Q (AV.b Bool.false)))))))))))))))/\(Bool.not (aa a (Neg.neg 1))=false->(Bool.not (aa a (Neg.neg 1))=false/\(Bool.not (aa a (Neg.neg 1))=false/\(Bool.not (aa a (Neg.neg 1))=false/\(Bool.not (aa a (Neg.neg 1))=false/\(aa a (Neg.neg 1)/\((Bool.not (aa c 1)->(Bool.not (aa c 1)/\(Bool.not (aa c 1)/\(Bool.not (aa c 1)/\(Bool.not (aa c 1)/\(aa c 1=false/\Q (AV.b (ab n d))))))))/\(Bool.not (aa c 1)=false->(Bool.not (aa c 1)=false/\(Bool.not (aa c 1)=false/\(Bool.not (aa c 1)=false/\(Bool.not (aa c 1)=false/\(aa c 1/\Q (AV.b Bool.true))))))))))))))):=by kernel_rfl
theorem Nl:ky Tryz.prog cfg 79 QG:=by(intro args t v he hv;unfold QG at he;split at he<;>first|(cases he;cases hv;apply TM;done)|(cases he;done))
theorem Nh:ky Tryz.prog cfg 80 Sp:=by
 intro args t v he hv;unfold Sp at he;split at he
 . cases he;obtain⟨h1,hv⟩:=bG hv;obtain⟨h2,hv⟩:=bG hv;cases hv;exact QO _ _ _ _ _ _ _ _ (aE.mp h1) (aE.mp h2)
 . cases he
theorem Oz:ky Tryz.prog cfg 52 FB:=by(intro args t v he hv;unfold FB at he;split at he<;>first|(cases he;cases hv;apply WY;done)|(cases he;done))
theorem Ni:ky Tryz.prog cfg 107 Ie:=by(intro args t v he hv;unfold Ie at he;split at he<;>first|(cases he;cases hv;apply SB;done)|(cases he;done))
theorem Gi:ak Tryz.prog cfg S4:=eG (eG (eG (eG P2 Nl) Nh) Oz) Ni
theorem f64(a b c d:Int):gM Tryz.prog cfg 60 [kw a b c d] (.a .i64 (bA a b c d)):=
 cC.b0 Gi ((w64 ..).mpr (by
  have h1:=xF a b c d;have h2:=@Hr a b;have h3:=@Hr c d;simp only[az,reduceCtorEq];(repeat' first|exact trivial|refine⟨?_,?_⟩|intro)<;>((try simp only[rE,eq_comm (a:=true),eq_comm (a:=false),bA]at *)<;>(repeat' split)<;>(first|omega|(simp_all;done)|(simp_all;omega)))))
theorem RQ:ky Tryz.prog cfg 60 Pm:=by(intro args t v he hv;unfold Pm at he;split at he<;>first|(cases he;cases hv;apply f64;done)|(cases he;done))
theorem XL:ak Tryz.prog cfg S5:=eG Gi RQ
theorem Ug(a b c d n:Int):gM Tryz.prog cfg 61 [kw a b c d,.a .i64 n] (.b (cP a b c d n)):=
 cC.b0 Gi ((Yb ..).mpr (by simp only[az,reduceCtorEq];(repeat' first|exact trivial|refine⟨?_,?_⟩|intro)<;>(first|omega|(rw[AV.b.injEq,Bool.eq_iff_iff]<;>simp only[qW,MH,K5,ao,aq,nr,Bw,ES,aw,bF,zAb,and_true,Bool.false_eq_true,true_iff,false_iff,iff_true,iff_false,cP]<;>(try simp only[])<;>first|omega|(simp_all;done)|(simp_all;omega)))))
theorem OV:ky Tryz.prog cfg 61 RA:=by(intro args t v he hv;unfold RA at he;split at he<;>first|(cases he;cases hv;apply Ug;done)|(cases he;done))
theorem Wd:ak Tryz.prog cfg S6:=eG XL OV
theorem vQ:ak Tryz.prog cfg S7:=Wd
end Go.Ev
end
section
namespace Go.Ev
open Go Go.RowKit
variable{c b:Code}{id k:Nat}{A:St->Prop}
def bN(P:Program)(cfg:cL)(C:bg)(c:Code)(st:St)(Q:AX×St->Prop):Prop:=
 ∀D m a w,dX cfg D m C st.o w->TR D m st a->∀K:Exit->Act->World->Prop,
  (∀r,Q r->r.2.ro=st.ro->∀D' m' a' w',TR D' m' r.2 a'->dw cfg C D m st.o w D' m' r.2.o w'->K (lH r.1) a' w')->c.wpIn (FR (wo m st.ro)) 0 P K a w
def qg(F:St->Prop)(Q:AX×St->Prop)(r:AX×St):Prop:=match r.1 with
 | .a=>F r.2
 | _=>Q r
section
variable{P:Program}{cfg:cL}{C:bg}{st:St}{Q:AX×St->Prop}
theorem bN.a0{Q':AX×St->Prop}(h:bN P cfg C c st Q)(hq:∀r,Q r->Q' r):bN P cfg C c st Q':=λD m a w hi ht K hK=>h D m a w hi ht K λr hr=>hK r (hq r hr)
theorem JI{T:fm}(g:nG P T cfg){n:Nat}{r:AX×St}(h:eZ T cfg n C c st=some r)(hq:Q r):bN P cfg C c st Q:=λD m a w hi ht K hK=>
 (rv g.d0 g.b0 g.lv g.f0 g.c0 n).1 C c st r h D m a w hi ht K λD' m' a' w' ht' he=>hK r hq (px g.c0 n C c st r h).2 D' m' a' w' ht' he
theorem NW{c1 c2:Code}(h:bN P cfg C c1 st (qg (λst'=>bN P cfg C c2 st' Q) Q)):bN P cfg C (.seq c1 c2) st Q:=by
 intro D m a w hi ht K hK;refine wpIn_seq (h D m a w hi ht _ λr hr hro D' m' a' w' ht' he=>?_);have fr:wo m' r.2.ro=wo m st.ro:=by rw[hro,rh ht.f0 he.a0]
 unfold qg at hr;cases hx:r.1 with
 | a=>
   rw[hx]at hr;have:=hr D' m' a' w' he.b0 ht' K λr2 hr2 hro2 D2 m2 a2 w2 ht2 he2=>hK r2 hr2 (hro2.trans hro) D2 m2 a2 w2 ht2 (he.c0 he2);rw[fr]at this;exact this
 | b id=>rw[hx]at hr;have:=hK r hr hro D' m' a' w' ht' he;rw[hx]at this;exact this
 | c=>rw[hx]at hr;have:=hK r hr hro D' m' a' w' ht' he;rw[hx]at this;exact this
theorem IZ(h:bN P cfg C b st λr=>Q (lQ id r)):bN P cfg C (.block id b) st Q:=by
 intro D m a w hi ht K hK;refine wpIn_block (h D m a w hi ht _ λr hr hro D' m' a' w' ht' he=>?_);have hr:Q (lQ id r):=hr;unfold lQ at hr;cases hx:r.1 with
 | a=>rw[hx]at hr;have:=hK r hr hro D' m' a' w' ht' he;rw[hx]at this;exact this
 | c=>rw[hx]at hr;have:=hK r hr hro D' m' a' w' ht' he;rw[hx]at this;exact this
 | b j=>
   rw[hx]at hr;simp only at hr;by_cases e:j=id
   . rw[gm e,cond_true]at hr;have:=hK _ hr hro D' m' a' w' ht' he;simpa [Exit.inBlock,e,lH]using this
   . rw[ic e,cond_false]at hr;have:=hK _ hr hro D' m' a' w' ht' he;rw[hx]at this;simpa [Exit.inBlock,e,lH]using this
theorem H1(h:bN P cfg C b st Q):bN P cfg C (.scope b) st Q:=by
 intro D m a w hi ht K hK;refine jX (h D m a w hi ht _ λr hr hro D' m' a' w' ht' he=>?_);have:=hK r hr hro D' m' a' w' ht' he;cases hre:r.1<;>rw[hre]at this<;>exact this
theorem L8(h:Q (.a,st)):bN P cfg C .skip st Q:=λD m a w hi ht K hK=>wpIn_skip (hK _ h rfl D m a w ht (dw.e0 hi))
theorem HT{l:Nat}(h:Q (.a,st)):bN P cfg C (.label l) st Q:=λD m a w hi ht K hK=>wpIn_label (hK _ h rfl D m a w ht (dw.e0 hi))
theorem Mq(h:Q (.b id,st)):bN P cfg C (.exit id) st Q:=λD m a w hi ht K hK=>wpIn_exit (hK _ h rfl D m a w ht (dw.e0 hi))
theorem Nf(h:Q (.c,st)):bN P cfg C .ret st Q:=λD m a w hi ht K hK=>wpIn_ret (hK _ h rfl D m a w ht (dw.e0 hi))
theorem KA{x:Operand}{b:Bool}{c1 c2:Code}(hv:fj cfg.G st.ts x=some (.b b))(h1:b->bN P cfg C c1 st Q)(h2:b=false->bN P cfg C c2 st Q):bN P cfg C (.cond x c1 c2) st Q:=by
 intro D m a w hi ht K hK;obtain⟨e,_⟩:=mM hi ht hv;cases b with
 | true=>exact wpIn_cond_true (by rw[e];simp[aj]) (h1 rfl D m a w hi ht K hK)
 | false=>exact wpIn_cond_false (by rw[e];simp[aj]) (h2 rfl D m a w hi ht K hK)
def Wk(cfg:cL)(C:bg)(k:Nat)(st:St)(A:St->Prop):Prop:=
 ∀D m a w,dX cfg D m C st.o w->TR D m st a->∃st' D' m',A st'/\TR D' m' st' a/\st'.ro=st.ro/\wo m' st'.ro=wo m st.ro/\dX cfg D' m' C st'.o w/\
  ∀D0 m0 o0 w0,o0.n<=k->(∀i,D0 i->i<C.lo+o0.n)->dw cfg C D0 m0 o0 w0 D m st.o w->dw cfg C D0 m0 o0 w0 D' m' st'.o w
theorem Wk.b0{B:St->Prop}(h:Wk cfg C k st A)(hab:∀s,A s->B s):Wk cfg C k st B:=λD m a w hi ht=>by
 obtain⟨s,D',m',hA,h1⟩:=h D m a w hi ht;exact⟨s,D',m',hab s hA,h1⟩
theorem Wk.a0(h:A st):Wk cfg C k st A:=λD m a w hi ht=>⟨st,D,m,h,ht,rfl,rfl,hi,λ_ _ _ _ _ _ h=>h⟩
theorem Wk.c0{B:St->Prop}(h:Wk cfg C k st A)(hb:∀s,A s->Wk cfg C k s B):Wk cfg C k st B:=λD m a w hi ht=>by
 obtain⟨s,D1,m1,hA,h1,h2,h3,h4,h5⟩:=h D m a w hi ht;obtain⟨t,D2,m2,hB,k1,k2,k3,k4,k5⟩:=hb s hA D1 m1 a w h4 h1;exact⟨t,D2,m2,hB,k1,k2.trans h2,k3.trans h3,k4,λD0 m0 o0 w0 ho hl he=>k5 _ _ _ _ ho hl (h5 _ _ _ _ ho hl he)⟩
theorem Np(h:Wk cfg C k st A)(hk:st.o.n<=k)(hs:∀s,A s->bN P cfg C c s Q):bN P cfg C c st Q:=by
 intro D m a w hi ht K hK;obtain⟨s,D1,m1,hA,h1,h2,h3,h4,h5⟩:=h D m a w hi ht;have:=hs s hA D1 m1 a w h4 h1 K λr hr hro D' m' a' w' ht' he=>hK r hr (hro.trans h2) D' m' a' w' ht' ((h5 _ _ _ _ hk hi.lt (dw.e0 hi)).c0 he);rw[h3]at this;exact this
theorem Lt{Q':AX×St->Prop}(h:bN P cfg C c st Q')(hk:st.o.n<=k)(hw:∀r,Q' r->Wk cfg C k r.2 λs=>Q (r.1,s)):bN P cfg C c st Q:=by
 intro D m a w hi ht K hK;refine h D m a w hi ht K λr hr hro D' m' a' w' ht' he=>?_;obtain⟨s,D1,m1,hA,h1,h2,h3,h4,h5⟩:=hw r hr D' m' a' w' he.b0 ht';exact hK (r.1,s) hA (h2.trans hro) D1 m1 a' w' h1 (h5 _ _ _ _ hk hi.lt he)
theorem JK{ι:Type}(μ:ι->Nat)(S:ι->St->Prop)(h0:Wk cfg C k st λs=>∃x,S x s)(hk:st.o.n<=k)
 (hr:∀x s,S x s->bN P cfg C b s (qg (λs'=>Wk cfg C k s' λs2=>∃y,μ y<μ x/\S y s2) Q)):bN P cfg C (.loop b) st Q:=by
 intro D m a w hi ht K hK;have key:∀n x s D1 m1 a1 w1,S x s->μ x<n->TR D1 m1 s a1->dw cfg C D m st.o w D1 m1 s.o w1->s.ro=st.ro->wo m1 s.ro=wo m st.ro->Code.roundsIn (FR (wo m st.ro)) 0 P b K n a1 w1:=by
  intro n;induction n with
  | zero=>intro x s D1 m1 a1 w1 _ h;omega
  | succ n ih=>
    intro x s D1 m1 a1 w1 hs hμ ht1 he1 hro1 hf1;rw[roundsIn_succ,<-hf1];refine hr x s hs D1 m1 a1 w1 he1.b0 ht1 _ λr hq hro D2 m2 a2 w2 ht2 he2=>?_;rw[hf1];have he:=he1.c0 he2;have fr:wo m2 r.2.ro=wo m st.ro:=by rw[hro,rh ht1.f0 he2.a0,hf1]
    unfold qg at hq;cases hx:r.1 with
    | a=>
      rw[hx]at hq;obtain⟨s2,D3,m3,⟨y,hy,hS⟩,h1,h2,h3,h4,h5⟩:=hq D2 m2 a2 w2 he2.b0 ht2;exact ih y s2 D3 m3 a2 w2 hS (by omega) h1 (h5 _ _ _ _ hk hi.lt he) (h2.trans (hro.trans hro1)) (h3.trans fr)
    | b id=>rw[hx]at hq;have:=hK r hq (hro.trans hro1) D2 m2 a2 w2 ht2 he;rw[hx]at this;exact this
    | c=>rw[hx]at hq;have:=hK r hq (hro.trans hro1) D2 m2 a2 w2 ht2 he;rw[hx]at this;exact this
 obtain⟨s,D1,m1,⟨x,hS⟩,h1,h2,h3,h4,h5⟩:=h0 D m a w hi ht;exact wpIn_loop_rounds (μ x+1) (key _ x s D1 m1 a w hS (Nat.lt_succ_self _) h1 (h5 _ _ _ _ hk hi.lt (dw.e0 hi)) h2 h3)
end
section
variable{P:Program}{T:fm}(hT:fH P T){cfg:cL}
include hT
theorem HX{f:FuncId}{fn:Func}(hb:bj T f=some (fn,c)){C:bg}{D:Nat->Prop}{m:Nat->bv}{args:List AV}{o0:aB}{w:World}(hlen:args.length<=1000){R:AV×aB->Prop}
 (h:bN P cfg C c (jS fn args o0) λx=>∃r,wj T C fn x=some r/\R r)
 (hi:dX cfg D m C o0 w) (hok:fM D m args) {RR:Value->World->Prop} (hR:∀r D' m' w',R r->dh D' m' r.1->dw cfg C D m o0 w D' m' r.2 w'->RR (aj m' r.1) w') :
 (callFunc f (ap m args).toArray).run P w=.ok (.enter f (ap m args).toArray) w/\Calls P f (ap m args).toArray w λe w'=>∃v,e=.returned v/\RR v w':=by
 simp only[bj,ag,zAc,Prod.mk.injEq]at hb;obtain⟨fn',hfn,c',hbody,rfl,rfl⟩:=hb;obtain⟨hf,hname⟩:=hT.fn f fn' hfn;refine⟨by simp[callFunc,hf,hname,hbody],callsIn_wide.1 (callsIn_of_wp_marks (n:=0) hf hbody trivial ?_)⟩;refine h D m _ w hi (CD hT hlen hok) _ λx hx hro D' m' a' w' ht he=>?_;obtain⟨r,hend,hRr⟩:=hx;have this:LeavesInM Fence.wide 0 P fn' a'.tmps (λe w''=>∃v,e=.returned v/\RR v w'') a'.defers .returning w'/\∀id,x.1≠.b id:=by
  unfold wj at hend;split at hend
  . cases hend
  . rename_i hne;simp only[ag,zAc]at hend;obtain⟨o,hmk,vs,hres,rfl⟩:=hend;refine⟨?_,λid e=>hne id e⟩;rw[ht.a0];refine tQ hmk he.b0 ht.e0 λw2 he2=>?_;have ht2:TR D' m' ⟨x.2.ts,x.2.tn,o,[],none⟩ ⟨a'.tmps,[]⟩:=⟨ht.b0,ht.d0,ht.c0,rfl,λd hd=>(by cases hd),λi hi=>(by cases hi)⟩;obtain⟨h1,h2⟩:=xw hT he2.b0 ht2 hres;exact⟨_,h1,_,rfl,hR _ D' m' w2 hRr h2 (he.c0 he2)⟩
 cases hxe:x.1 with
 | a=>exact this.1
 | c=>exact this.1
 | b id=>exact absurd hxe (this.2 id)
end
end Go.Ev
end
