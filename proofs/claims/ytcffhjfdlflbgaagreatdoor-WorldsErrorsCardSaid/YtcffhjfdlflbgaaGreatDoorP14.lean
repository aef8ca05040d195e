import Derived.Test.YtcffhjfdlflbgaaGreatDoorP13
set_option linter.all false
open Bool renaming not->ν,false->ξ,true->ο,and->π
open Int renaming add->ς
set_option linter.all false
set_option maxRecDepth 100000
set_option maxHeartbeats 4000000
section
namespace Go.Ev
open Go Go.Proofs
variable{Q:AV->Prop}
def gc(a b c d:Int):Int:=if iI a c=0 then iI b d else iI a c
def FB:dP:=λ
 | [.g [.a .i8 a,.a .i64 b],.g [.a .i8 c,.a .i64 d]]=>some (.a0 (.a .i64 (gc a b c d)))
 | _=>none
def bA(a b c d:Int):Int:=if cw a b=0/\cw c d=0 then(if 0<a\/c<0 then 4 else if 0<gc a b c d then 12 else 0)else 5
def Pm:dP:=λ
 | [.g [.a .i8 a,.a .i64 b,.a .i8 c,.a .i64 d]]=>some (.a0 (.a .i64 (bA a b c d)))
 | _=>none
def S2:aQ:=pX S1 92 FB
def S3:aQ:=pX S2 40 Pm
def In(a b c d e f g h:Int):Int:=if gc a b e f=0 then gc c d g h else gc a b e f
def s6(i j k l:Int):Prop:=gc k l i j<=0\/cw i j=0/\(i=0/\j<9223372036854775807/\k=0/\l=j+1\/i≠0/\i=k/\j=l)
instance {i j k l:Int}:Decidable (s6 i j k l):=by unfold s6;infer_instance
def vz(a b c d e f g h:Int):Bool:=decide (bA a b c d=0/\bA e f g h=0/\(gc e f a b<0/\s6 g h a b\/0<=gc e f a b/\s6 c d e f))
def IJ(n:Int):Prop:=-9223372036854775808<=n/\n<=9223372036854775807
theorem Y7(a b c d:Int):ask Q (mG tab cfg S1 1000 92 [wn a b,wn c d]) (bE 10014051455)=((ν (aa (iI a c) 0)->Q (AV.a .i64 (iI a c)))/\(ν (aa (iI a c) 0)=false->((ν (aa (iI b d) 0)->Q (AV.a .i64 (iI b d)))/\(ν (aa (iI b d) 0)=false->Q (AV.a .i64 0))))):=κ
theorem SV(a b c d:Int):ask Q (mG tab cfg S2 1000 40 [kw a b c d]) (bE 10281028114514320224014322002400)=((ν (ν (aa (cw a b) 0))->(ν (ν (aa (cw a b) 0))/\(ν (ν (aa (cw a b) 0))/\(ν (ν (aa (cw a b) 0))/\(ν (aa (cw a b) 0)=false/\((ν (aa (cw c d) 0)->Q (AV.a .i64 5))/\(ν (aa (cw c d) 0)=false->((ν (ν (ab a 0))->(ν (ν (ab a 0))/\(ν (ν (ab a 0))/\(ν (ν (ab a 0))/\(ν (ab a 0)=false/\((ν (ab 0 c)->Q (AV.a .i64 4))/\(ν (ab 0 c)=false->((ν (ab (gc a b c d) 0)->Q (AV.a .i64 12))/\(ν (ab (gc a b c d) 0)=false->Q (AV.a .i64 0))))))))))/\(ν (ν (ab a 0))=false->(ν (ν (ab a 0))=false/\(ν (ν (ab a 0))=false/\(ν (ν (ab a 0))=false/\(ν (ab a 0)/\Q (AV.a .i64 4))))))))))))))/\(ν (ν (aa (cw a b) 0))=false->(ν (ν (aa (cw a b) 0))=false/\(ν (ν (aa (cw a b) 0))=false/\(ν (ν (aa (cw a b) 0))=false/\(ν (aa (cw a b) 0)/\Q (AV.a .i64 5))))))):=κ
theorem Zr(a b c d e f g h:Int):ask Q (mG tab cfg S2 1000 85 [kw a b c d,kw e f g h]) (bE 1001405140006)=((ν (aa (gc a b e f) 0)->Q (AV.a .i64 (gc a b e f)))/\(ν (aa (gc a b e f) 0)=false->((ν (aa (gc c d g h) 0)->Q (AV.a .i64 (gc c d g h)))/\(ν (aa (gc c d g h) 0)=false->Q (AV.a .i64 0))))):=κ
def Y0(a b c d e f g h:Int):ask Q (mG tab cfg S3 1000 93 [kw a b c d,kw e f g h]) (bE 10813380052023311064156401220022002053432024005145133800520233110641564012200220020534320240051405645147540006)=((aa (bA a b c d) 0->(aa (bA a b c d) 0/\(aa (bA a b c d) 0/\(aa (bA a b c d) 0/\((ν (aa (bA e f g h) 0)->Q (AV.b ξ))/\(ν (aa (bA e f g h) 0)=false->((ν (ab 0 (gc e f a b))->((ab (gc a b g h) 0->Q (AV.b ο))/\(ab (gc a b g h) 0=false->((ν (ν (aa (cw g h) 0))->(ν (ν (aa (cw g h) 0))/\(ν (ν (aa (cw g h) 0))/\(ν (aa (cw g h) 0)=false/\((ν (aa g 0)->(ν (aa (cw g h) 0)=false/\(aa (cw g h) 0/\(aa (cw g h) 0/\(aa (cw g h) 0/\(aa (cw g h) 0/\(aa (cw g h) 0/\Q (AV.b (π (aa g a) (π (aa h b) ο))))))))))/\(ν (aa g 0)=false->((af .i64 (ς h 1)->Q (AV.b (π (aa 0 a) (π (aa (ς h 1) b) ο))))/\(af .i64 (ς h 1)=false->((aa h 9223372036854775807->Q (AV.b ξ))/\(aa h 9223372036854775807=false->False))))))))))/\(ν (ν (aa (cw g h) 0))=false->(ν (ν (aa (cw g h) 0))=false/\(ν (ν (aa (cw g h) 0))=false/\(ν (aa (cw g h) 0)/\(ν (aa (cw g h) 0)/\(aa (cw g h) 0=false/\(aa (cw g h) 0=false/\(aa (cw g h) 0=false/\(aa (cw g h) 0=false/\(aa (cw g h) 0=false/\Q (AV.b ξ)))))))))))))))/\(ν (ab 0 (gc e f a b))=false->((ab (gc e f c d) 0->Q (AV.b ο))/\(ab (gc e f c d) 0=false->((ν (ν (aa (cw c d) 0))->(ν (ν (aa (cw c d) 0))/\(ν (ν (aa (cw c d) 0))/\(ν (aa (cw c d) 0)=false/\((ν (aa c 0)->(ν (aa (cw c d) 0)=false/\(aa (cw c d) 0/\(aa (cw c d) 0/\(aa (cw c d) 0/\(aa (cw c d) 0/\(aa (cw c d) 0/\Q (AV.b (π (aa c e) (π (aa d f) ο))))))))))/\(ν (aa c 0)=false->((af .i64 (ς d 1)->Q (AV.b (π (aa 0 e) (π (aa (ς d 1) f) ο))))/\(af .i64 (ς d 1)=false->((aa d 9223372036854775807->Q (AV.b ξ))/\(aa d 9223372036854775807=false->False))))))))))/\(ν (ν (aa (cw c d) 0))=false->(ν (ν (aa (cw c d) 0))=false/\(ν (ν (aa (cw c d) 0))=false/\(ν (aa (cw c d) 0)/\(ν (aa (cw c d) 0)/\(aa (cw c d) 0=false/\(aa (cw c d) 0=false/\(aa (cw c d) 0=false/\(aa (cw c d) 0=false/\(aa (cw c d) 0=false/\Q (AV.b ξ))))))))))))))))))))))/\(aa (bA a b c d) 0=false->(aa (bA a b c d) 0=false/\(aa (bA a b c d) 0=false/\(aa (bA a b c d) 0=false/\Q (AV.b ξ)))))):=ε
theorem YQ(a b c d:Int):ask Q (mG tab cfg gZ 1000 98 [wn a b,wn c d]) (bE 11400140014001400)=((ν (ab c a)->Q (AV.a .i64 (Neg.neg 1)))/\(ν (ab c a)=false->((ν (ab a c)->Q (AV.a .i64 1))/\(ν (ab a c)=false->((ν (ab d b)->Q (AV.a .i64 (Neg.neg 1)))/\(ν (ab d b)=false->((ν (ab b d)->Q (AV.a .i64 1))/\(ν (ab b d)=false->Q (AV.a .i64 0))))))))):=κ
theorem Y9(a b:Int):ask Q (mG tab cfg gZ 1000 103 [wn a b]) (bE 111404114024140)=((aa a 0->Q (AV.a .i64 0))/\(aa a 0=false->((aa a 1->(aa a 1/\((aa b 0->Q (AV.a .i64 0))/\(aa b 0=false->Q (AV.a .i64 5)))))/\(aa a 1=false->((aa a (Neg.neg 1)->((aa b 0->Q (AV.a .i64 0))/\(aa b 0=false->Q (AV.a .i64 5))))/\(aa a (Neg.neg 1)=false->Q (AV.a .i64 5))))))):=κ
theorem Vs(a b c d:Int):gM Tryz.prog cfg 92 [wn a b,wn c d] (.a .i64 (gc a b c d)):=
 cC.b0 PX (n:=1000) (D:=_) (by rw[Y7];simp only[az,reduceCtorEq];grind [gc])
theorem NE:ky Tryz.prog cfg 92 FB:=by(intro args t v he hv;unfold FB at he;split at he<;>first|(cases he;cases hv;apply Vs;done)|grind)
theorem Jp:ak Tryz.prog cfg S2:=eG PX NE
theorem IU(a b c d:Int):gM Tryz.prog cfg 40 [kw a b c d] (.a .i64 (bA a b c d)):=
 cC.b0 Jp (n:=1000) (D:=_) (by rw[SV];simp only[az,reduceCtorEq];grind [bA])
theorem Es:ky Tryz.prog cfg 40 Pm:=by(intro args t v he hv;unfold Pm at he;split at he<;>first|(cases he;cases hv;apply IU;done)|grind)
theorem amU(a b c d e f g h:Int):gM Tryz.prog cfg 85 [kw a b c d,kw e f g h] (.a .i64 (In a b c d e f g h)):=
 cC.b0 Jp (n:=1000) (D:=_) (by rw[Zr];simp only[az,reduceCtorEq];grind [In])
theorem P2:ak Tryz.prog cfg S3:=eG Jp Es
theorem QO(a b c d e f g h:Int)(hd:IJ d)(hh:IJ h):gM Tryz.prog cfg 93 [kw a b c d,kw e f g h] (.b (vz a b c d e f g h)):=by
 have hd:=hd;have hh:=hh
 unfold IJ at hd hh;refine cC.b0 P2 ((Y0 ..).mpr ?_);simp only[az,reduceCtorEq]
 (repeat' first|exact trivial|refine⟨?_,?_⟩|intro)<;>first|omega|grind [aw,vz,s6]
theorem WY(a b c d:Int):gM Tryz.prog cfg 98 [wn a b,wn c d] (.a .i64 (gc a b c d)):=
 cC.b0 aW ((YQ ..).mpr (by simp only[az,reduceCtorEq];grind [gc,iI]))
theorem SB(a b:Int):gM Tryz.prog cfg 103 [wn a b] (.a .i64 (cw a b)):=
 cC.b0 aW ((Y9 ..).mpr (by simp only[az,reduceCtorEq];grind [cw]))
end Go.Ev
end
section
namespace Go.Ev
open Go
def ZG(T:fm)(cfg:cL)(S:aQ)(n:Nat)(C:bg)(f:FuncId)(args:List AV)(o:aB):Tr AV:=
 abQ T (cH cfg S) (tK S) false (rx T (cH cfg S) (tK S) n) C f args o λr=>.a0 r.1
theorem xS.row{P:Program}{T:fm}{cfg:cL}(g:xS P T cfg){S:aQ}(hS:ak P cfg S){n:Nat}{C:bg}{f:FuncId}{args:List AV}{o:aB}{Q:AV->Prop}{t:DT}(h:Ev.ask Q (ZG T cfg S n C f args o) t)
 {D:Nat->Prop} {m:Nat->bv} {w:World} (hi:dX cfg D m C o w) (hok:fM D m args) :
 ∃v o',Q v/\jV P f (aD m args).toArray w λV w'=>∃D' m',V=aj m' v/\dh D' m' v/\dw cfg C D m o w D' m' o' w'/\(hI args (cfg.b0 f)=[]->aa9 D w D' m' w'):=by
 have gg:=g.a0 hS;obtain⟨a,ha,hq⟩:=iH h;obtain⟨x,hx,hr⟩:=lZ (R:=AV) (inl:=false) (nj cfg S) (mq (nj cfg S) n) _ _ _ _ _ _ ha;cases hr;refine⟨x.1,x.2,hq,(an3 gg.d0 gg.b0 gg.lv gg.e0 gg.c0 n C f args o x hx D m w (dX.to (cfg:=cfg) (cfg':=cH cfg S) rfl rfl hi) hok).a0 ?_⟩;grind [dw.to,cH]
end Go.Ev
end
section
namespace Go.Ev
open Go Go.Proofs
variable{Q:AV->Prop}
def QG:dP:=λ
 | [.g [.a .i8 a,.a .i64 b,.a .i8 c,.a .i64 d],.g [.a .i8 e,.a .i64 f,.a .i8 g,.a .i64 h]]=>some (.a0 (.a .i64 (In a b c d e f g h)))
 | _=>none
def Sp:dP:=λ
 | [.g [.a .i8 a,.a .i64 b,.a .i8 c,.a .i64 d],.g [.a .i8 e,.a .i64 f,.a .i8 g,.a .i64 h]]=>some (lu (af .i64 d) (lu (af .i64 h) (.a0 (.b (vz a b c d e f g h)))))
 | _=>none
def S4:aQ:=pX (pX (pX (pX S3 85 QG) 93 Sp) 98 FB) 103 Ie
def S5:aQ:=pX S4 48 Pm
theorem Hr{a b:Int}:cw a b=0↔a=0\/(a=1\/a = -1)/\b=0:=by grind [cw]
theorem yg(a b:Int):a<b/\iI a b = -1\/a=b/\iI a b=0\/b<a/\iI a b=1:=by grind [iI]
theorem xF(a b c d:Int):(a<c\/a=c/\b<d)/\gc a b c d = -1\/(a=c/\b=d)/\gc a b c d=0\/(c<a\/a=c/\d<b)/\gc a b c d=1:=by
 have h1:=yg a c;have h2:=yg b d;grind [gc]
def cP(a b c d n:Int):Bool:=decide ((a = -1\/b<=n)/\(c=1\/n<=d))
def RA:dP:=λ
 | [.g [.a .i8 a,.a .i64 b,.a .i8 c,.a .i64 d],.a .i64 n]=>some (.a0 (.b (cP a b c d n)))
 | _=>none
def S6:aQ:=pX S5 316 RA
def aat(a b c d e f:Int):Bool:=decide (e = -1/\a = -1\/e≠-1/\cP a b c d f=true)
def akr:dP:=λ
 | [.g [.a .i8 a,.a .i64 b,.a .i8 c,.a .i64 d],.g [.a .i8 e,.a .i64 f,.a .i8 g,.a .i64 h]]=>some (.a0 (.b (aat a b c d e f)))
 | _=>none
def abv(c d e f:Int):Bool:=decide (c=0/\e=0/\d<9223372036854775807/\d+1=f)
def ale:dP:=λ
 | [.g [.a .i8 a,.a .i64 b,.a .i8 c,.a .i64 d],.g [.a .i8 e,.a .i64 f,.a .i8 g,.a .i64 h]]=>some (lu (af .i64 d) (.a0 (.b (abv c d e f))))
 | _=>none
def S7:aQ:=pX (pX S6 247 akr) 179 ale
def ada(a b c d e f g h:Int):Bool:=decide (aat a b c d e f\/aat e f g h a b\/abv c d e f\/abv g h a b=true)
def aiv:dP:=λ
 | [.g [.a .i8 a,.a .i64 b,.a .i8 c,.a .i64 d],.g [.a .i8 e,.a .i64 f,.a .i8 g,.a .i64 h]]=>some (lu (af .i64 d) (lu (af .i64 h) (.a0 (.b (ada a b c d e f g h)))))
 | _=>none
theorem SW(a b c d:Int):ask Q (mG tab cfg S4 1000 48 [kw a b c d]) (bE 10281028114514320224014322002400)=((ν (ν (aa (cw a b) 0))->(ν (ν (aa (cw a b) 0))/\(ν (ν (aa (cw a b) 0))/\(ν (ν (aa (cw a b) 0))/\(ν (aa (cw a b) 0)=false/\((ν (aa (cw c d) 0)->Q (AV.a .i64 5))/\(ν (aa (cw c d) 0)=false->((ν (aa a 1)->(ν (aa a 1)/\(ν (aa a 1)/\(ν (aa a 1)/\(aa a 1=false/\((aa c (Neg.neg 1)->Q (AV.a .i64 4))/\(aa c (Neg.neg 1)=false->((aa (gc a b c d) 1->Q (AV.a .i64 12))/\(aa (gc a b c d) 1=false->Q (AV.a .i64 0))))))))))/\(ν (aa a 1)=false->(ν (aa a 1)=false/\(ν (aa a 1)=false/\(ν (aa a 1)=false/\(aa a 1/\Q (AV.a .i64 4))))))))))))))/\(ν (ν (aa (cw a b) 0))=false->(ν (ν (aa (cw a b) 0))=false/\(ν (ν (aa (cw a b) 0))=false/\(ν (ν (aa (cw a b) 0))=false/\(ν (aa (cw a b) 0)/\Q (AV.a .i64 5))))))):=κ
theorem Yb(a b c d n:Int):ask Q (mG tab cfg S4 1000 316 [kw a b c d,.a .i64 n]) (bE 10203810302074005238133053817381232207422022432202240)=((ν (aa a (Neg.neg 1))->(ν (aa a (Neg.neg 1))/\(ν (aa a (Neg.neg 1))/\(ν (aa a (Neg.neg 1))/\(ν (aa a (Neg.neg 1))/\(aa a (Neg.neg 1)=false/\((ab b n->(ab b n/\(ab b n/\(ab b n/\(ab b n/\((ν (aa c 1)->(ν (aa c 1)/\(ν (aa c 1)/\(ν (aa c 1)/\(ν (aa c 1)/\(ab b n/\(aa c 1=false/\(ab b n/\Q (AV.b (ab n d))))))))))/\(ν (aa c 1)=false->(ν (aa c 1)=false/\(ν (aa c 1)=false/\(ν (aa c 1)=false/\(ν (aa c 1)=false/\(ab b n/\(aa c 1/\(ab b n/\Q (AV.b ο)))))))))))))))/\(ab b n=false->(ab b n=false/\(ab b n=false/\(ab b n=false/\(ab b n=false/\(ab b n=false/\(ab b n=false/\Q (AV.b ξ)))))))))))))))/\(ν (aa a (Neg.neg 1))=false->(ν (aa a (Neg.neg 1))=false/\(ν (aa a (Neg.neg 1))=false/\(ν (aa a (Neg.neg 1))=false/\(ν (aa a (Neg.neg 1))=false/\(aa a (Neg.neg 1)/\((ν (aa c 1)->(ν (aa c 1)/\(ν (aa c 1)/\(ν (aa c 1)/\(ν (aa c 1)/\(aa c 1=false/\Q (AV.b (ab n d))))))))/\(ν (aa c 1)=false->(ν (aa c 1)=false/\(ν (aa c 1)=false/\(ν (aa c 1)=false/\(ν (aa c 1)=false/\(aa c 1/\Q (AV.b ο))))))))))))))):=κ
theorem aoM(a b c d e f g h:Int):ask Q (mG tab cfg S6 1000 247 [kw a b c d,kw e f g h]) (bE 1051040)=((aa e (Neg.neg 1)->Q (AV.b (aa a (Neg.neg 1))))/\(aa e (Neg.neg 1)=false->Q (AV.b (cP a b c d f)))):=κ
theorem aoS(a b c d e f g h:Int)(hd : -9223372036854775808<=d/\d<=9223372036854775807):ask Q (mG tab cfg S4 1000 179 [kw a b c d,kw e f g h]) (bE 105638163813388122022702242202242202240)=((aa c 0->(aa c 0/\(aa c 0/\(aa c 0/\(aa c 0/\((aa e 0->(aa e 0/\(aa e 0/\(aa e 0/\(aa e 0/\((ν (ab 9223372036854775807 d)->(ν (ab 9223372036854775807 d)/\(ν (ab 9223372036854775807 d)/\(ν (ab 9223372036854775807 d)/\(af .i64 (ς d 1)/\(ν (ab 9223372036854775807 d)/\(ν (ab 9223372036854775807 d)/\(ν (ab 9223372036854775807 d)/\(ν (ab 9223372036854775807 d)/\(ν (ab 9223372036854775807 d)/\Q (AV.b (aa (ς d 1) f))))))))))))/\(ν (ab 9223372036854775807 d)=false->(ν (ab 9223372036854775807 d)=false/\(ν (ab 9223372036854775807 d)=false/\(ν (ab 9223372036854775807 d)=false/\(ν (ab 9223372036854775807 d)=false/\(ν (ab 9223372036854775807 d)=false/\(ν (ab 9223372036854775807 d)=false/\(ν (ab 9223372036854775807 d)=false/\(ν (ab 9223372036854775807 d)=false/\Q (AV.b ξ))))))))))))))))/\(aa e 0=false->(aa e 0=false/\(aa e 0=false/\(aa e 0=false/\(aa e 0=false/\Q (AV.b ξ))))))))))))/\(aa c 0=false->(aa c 0=false/\(aa c 0=false/\(aa c 0=false/\(aa c 0=false/\Q (AV.b ξ))))))):=κ
theorem aoE(a b c d e f g h:Int)(hd : -9223372036854775808<=d/\d<=9223372036854775807)(hh : -9223372036854775808<=h/\h<=9223372036854775807):ask Q (mG tab cfg S7 1000 99 [kw a b c d,kw e f g h]) (bE 15523315233123313225254322525432525400056)=((ν (aat a b c d e f)->(ν (aat a b c d e f)/\(ν (aat a b c d e f)/\(aat a b c d e f=false/\((ν (aat e f g h a b)->(ν (aat e f g h a b)/\(ν (aat e f g h a b)/\(af .i64 d/\(aat e f g h a b=false/\((ν (abv c d e f)->(ν (abv c d e f)/\(ν (abv c d e f)/\(af .i64 h/\(abv c d e f=false/\Q (AV.b (abv g h a b)))))))/\(ν (abv c d e f)=false->(ν (abv c d e f)=false/\(ν (abv c d e f)=false/\(abv c d e f/\Q (AV.b ο)))))))))))/\(ν (aat e f g h a b)=false->(ν (aat e f g h a b)=false/\(ν (aat e f g h a b)=false/\(aat e f g h a b/\Q (AV.b ο))))))))))/\(ν (aat a b c d e f)=false->(ν (aat a b c d e f)=false/\(ν (aat a b c d e f)=false/\(aat a b c d e f/\Q (AV.b ο)))))):=κ
theorem Nl:ky Tryz.prog cfg 85 QG:=by(intro args t v he hv;unfold QG at he;split at he<;>first|(cases he;cases hv;apply amU;done)|grind)
theorem Nh:ky Tryz.prog cfg 93 Sp:=by
 intro args t v he hv;unfold Sp at he;split at he
 . cases he;obtain⟨h1,hv⟩:=bG hv;obtain⟨h2,hv⟩:=bG hv;cases hv;exact QO _ _ _ _ _ _ _ _ (aE.mp h1) (aE.mp h2)
 grind
theorem Oz:ky Tryz.prog cfg 98 FB:=by(intro args t v he hv;unfold FB at he;split at he<;>first|(cases he;cases hv;apply WY;done)|grind)
theorem Ni:ky Tryz.prog cfg 103 Ie:=by(intro args t v he hv;unfold Ie at he;split at he<;>first|(cases he;cases hv;apply SB;done)|grind)
theorem Gi:ak Tryz.prog cfg S4:=eG (eG (eG (eG P2 Nl) Nh) Oz) Ni
theorem Ji(a b c d:Int):gM Tryz.prog cfg 48 [kw a b c d] (.a .i64 (bA a b c d)):=
 cC.b0 Gi ((SW ..).mpr (by
  have h1:=xF a b c d;have h2:=@Hr a b;have h3:=@Hr c d;simp only[az,reduceCtorEq];grind [bA]))
theorem RQ:ky Tryz.prog cfg 48 Pm:=by(intro args t v he hv;unfold Pm at he;split at he<;>first|(cases he;cases hv;apply Ji;done)|grind)
theorem XL:ak Tryz.prog cfg S5:=eG Gi RQ
theorem Ug(a b c d n:Int):gM Tryz.prog cfg 316 [kw a b c d,.a .i64 n] (.b (cP a b c d n)):=
 cC.b0 Gi ((Yb ..).mpr (by simp only[az,reduceCtorEq];grind [bF,cP]))
theorem OV:ky Tryz.prog cfg 316 RA:=by(intro args t v he hv;unfold RA at he;split at he<;>first|(cases he;cases hv;apply Ug;done)|grind)
theorem Wd:ak Tryz.prog cfg S6:=eG XL OV
theorem am_(a b c d e f g h:Int):gM Tryz.prog cfg 247 [kw a b c d,kw e f g h] (.b (aat a b c d e f)):=
 cC.b0 Wd ((aoM ..).mpr (by grind [aw,aat]))
theorem aiR:ky Tryz.prog cfg 247 akr:=by(intro args t v he hv;unfold akr at he;split at he<;>first|(cases he;cases hv;apply am_;done)|grind)
theorem al7(a b c d e f g h:Int)(hd : -9223372036854775808<=d/\d<=9223372036854775807):gM Tryz.prog cfg 179 [kw a b c d,kw e f g h] (.b (abv c d e f)):=
 cC.b0 Gi ((aoS (hd:=hd) ..).mpr (by simp only[az,reduceCtorEq];grind [aw,abv]))
theorem ai8:ky Tryz.prog cfg 179 ale:=by
 intro args t v he hv;unfold ale at he;split at he
 . cases he;obtain⟨h1,hv⟩:=bG hv;cases hv;exact al7 _ _ _ _ _ _ _ _ (aE.mp h1)
 grind
theorem vQ:ak Tryz.prog cfg S7:=eG (eG Wd aiR) ai8
theorem amR(a b c d e f g h:Int)(hd : -9223372036854775808<=d/\d<=9223372036854775807)(hh : -9223372036854775808<=h/\h<=9223372036854775807):gM Tryz.prog cfg 99 [kw a b c d,kw e f g h] (.b (ada a b c d e f g h)):=
 cC.b0 vQ ((aoE (hd:=hd) (hh:=hh) ..).mpr (by simp only[az,reduceCtorEq];grind [ada]))
theorem af3:ky Tryz.prog cfg 99 aiv:=by
 intro args t v he hv;unfold aiv at he;split at he
 . cases he;obtain⟨h1,hv⟩:=bG hv;obtain⟨h2,hv⟩:=bG hv;cases hv;exact amR _ _ _ _ _ _ _ _ (aE.mp h1) (aE.mp h2)
 grind
end Go.Ev
end
section
namespace Go.Ev
open Go Go.RowKit
variable{c b:Code}{id k:Nat}{A:St->Prop}
def bN(P:Program)(cfg:cL)(C:bg)(c:Code)(st:St)(Q:AX×St->Prop):Prop:=
 ∀D m a w,dX cfg D m C st.o w->TR D m st a->∀K:Exit->Act->World->Prop,
  (∀r,Q r->r.2.ro=st.ro->∀D' m' a' w',TR D' m' r.2 a'->dw cfg C D m st.o w D' m' r.2.o w'->K (lH r.1) a' w')->c.wpIn (FR (wo m st.ro)) 0 P K a w
def qg(F:St->Prop)(Q:AX×St->Prop)(r:AX×St):Prop:=match r.1 with
 | .a=>F r.2
 | _=>Q r
section
variable{P:Program}{cfg:cL}{C:bg}{st:St}{Q:AX×St->Prop}
theorem bN.a0{Q':AX×St->Prop}(h:bN P cfg C c st Q)(hq:∀r,Q r->Q' r):bN P cfg C c st Q':=λD m a w hi ht K hK=>h D m a w hi ht K λr hr=>hK r (hq r hr)
theorem JI{T:fm}(g:nG P T cfg){n:Nat}{r:AX×St}(h:eZ T cfg n C c st=some r)(hq:Q r):bN P cfg C c st Q:=λD m a w hi ht K hK=>
 (rv g.d0 g.b0 g.lv g.e0 g.c0 n).1 C c st r h D m a w hi ht K λD' m' a' w' ht' he=>hK r hq (px g.c0 n C c st r h).2 D' m' a' w' ht' he
theorem NW{c1 c2:Code}(h:bN P cfg C c1 st (qg (λst'=>bN P cfg C c2 st' Q) Q)):bN P cfg C (.seq c1 c2) st Q:=by
 intro D m a w hi ht K hK;refine wpIn_seq (h D m a w hi ht _ λr hr hro D' m' a' w' ht' he=>?_);have fr:wo m' r.2.ro=wo m st.ro:=by rw[hro,rh ht.f0 he.a0]
 unfold qg at hr;cases hx:r.1 with
 | a=>
   rw[hx]at hr;have:=hr D' m' a' w' he.b0 ht' K λr2 hr2 hro2 D2 m2 a2 w2 ht2 he2=>hK r2 hr2 (hro2.trans hro) D2 m2 a2 w2 ht2 (he.d0 he2);rw[fr]at this;exact this
 | b id=>rw[hx]at hr;have:=hK r hr hro D' m' a' w' ht' he;rw[hx]at this;exact this
 | c=>rw[hx]at hr;have:=hK r hr hro D' m' a' w' ht' he;rw[hx]at this;exact this
theorem IZ(h:bN P cfg C b st λr=>Q (lQ id r)):bN P cfg C (.block id b) st Q:=by
 intro D m a w hi ht K hK;refine wpIn_block (h D m a w hi ht _ λr hr hro D' m' a' w' ht' he=>?_);have hr:Q (lQ id r):=hr;unfold lQ at hr;cases hx:r.1<;>grind [rY,Exit.inBlock,lH,ic]
theorem H1(h:bN P cfg C b st Q):bN P cfg C (.scope b) st Q:=by
 intro D m a w hi ht K hK;refine jX (h D m a w hi ht _ λr hr hro D' m' a' w' ht' he=>?_);have:=hK r hr hro D' m' a' w' ht' he;cases hre:r.1<;>rw[hre]at this<;>exact this
theorem L8(h:Q (.a,st)):bN P cfg C .skip st Q:=λD m a w hi ht K hK=>wpIn_skip (hK _ h rfl D m a w ht (dw.h0 hi))
theorem HT{l:Nat}(h:Q (.a,st)):bN P cfg C (.label l) st Q:=λD m a w hi ht K hK=>wpIn_label (hK _ h rfl D m a w ht (dw.h0 hi))
theorem Mq(h:Q (.b id,st)):bN P cfg C (.exit id) st Q:=λD m a w hi ht K hK=>wpIn_exit (hK _ h rfl D m a w ht (dw.h0 hi))
theorem Nf(h:Q (.c,st)):bN P cfg C .ret st Q:=λD m a w hi ht K hK=>wpIn_ret (hK _ h rfl D m a w ht (dw.h0 hi))
theorem KA{x:Operand}{b:Bool}{c1 c2:Code}(hv:fj cfg.G st.ts x=some (.b b))(h1:b->bN P cfg C c1 st Q)(h2:b=false->bN P cfg C c2 st Q):bN P cfg C (.cond x c1 c2) st Q:=by
 intro D m a w hi ht K hK;obtain⟨e,_⟩:=mM hi ht hv;cases b with
 | true=>exact wpIn_cond_true (by rw[e];rfl) (h1 rfl D m a w hi ht K hK)
 | false=>exact wpIn_cond_false (by rw[e];rfl) (h2 rfl D m a w hi ht K hK)
def Wk(cfg:cL)(C:bg)(k:Nat)(st:St)(A:St->Prop):Prop:=
 ∀D m a w,dX cfg D m C st.o w->TR D m st a->∃st' D' m',A st'/\TR D' m' st' a/\st'.ro=st.ro/\wo m' st'.ro=wo m st.ro/\dX cfg D' m' C st'.o w/\
  ∀D0 m0 o0 w0,o0.n<=k->(∀i,D0 i->i<C.lo+o0.n)->dw cfg C D0 m0 o0 w0 D m st.o w->dw cfg C D0 m0 o0 w0 D' m' st'.o w
theorem Wk.b0{B:St->Prop}(h:Wk cfg C k st A)(hab:∀s,A s->B s):Wk cfg C k st B:=λD m a w hi ht=>by
 obtain⟨s,D',m',hA,h1⟩:=h D m a w hi ht;grind
theorem Wk.a0(h:A st):Wk cfg C k st A:=λD m a w hi ht=>⟨st,D,m,h,ht,rfl,rfl,hi,λ_ _ _ _ _ _ h=>h⟩
theorem Wk.c0{B:St->Prop}(h:Wk cfg C k st A)(hb:∀s,A s->Wk cfg C k s B):Wk cfg C k st B:=λD m a w hi ht=>by
 obtain⟨s,D1,m1,hA,h1,h2,h3,h4,h5⟩:=h D m a w hi ht;obtain⟨t,D2,m2,hB,k1,k2,k3,k4,k5⟩:=hb s hA D1 m1 a w h4 h1;grind
theorem Np(h:Wk cfg C k st A)(hk:st.o.n<=k)(hs:∀s,A s->bN P cfg C c s Q):bN P cfg C c st Q:=by
 intro D m a w hi ht K hK;obtain⟨s,D1,m1,hA,h1,h2,h3,h4,h5⟩:=h D m a w hi ht;have:=hs s hA D1 m1 a w h4 h1 K λr hr hro D' m' a' w' ht' he=>hK r hr (hro.trans h2) D' m' a' w' ht' ((h5 _ _ _ _ hk hi.lt (dw.h0 hi)).d0 he);grind
theorem Lt{Q':AX×St->Prop}(h:bN P cfg C c st Q')(hk:st.o.n<=k)(hw:∀r,Q' r->Wk cfg C k r.2 λs=>Q (r.1,s)):bN P cfg C c st Q:=by
 intro D m a w hi ht K hK;refine h D m a w hi ht K λr hr hro D' m' a' w' ht' he=>?_;obtain⟨s,D1,m1,hA,h1,h2,h3,h4,h5⟩:=hw r hr D' m' a' w' he.b0 ht';exact hK (r.1,s) hA (h2.trans hro) D1 m1 a' w' h1 (h5 _ _ _ _ hk hi.lt he)
theorem JK{ι:Type}(μ:ι->Nat)(S:ι->St->Prop)(h0:Wk cfg C k st λs=>∃x,S x s)(hk:st.o.n<=k)
 (hr:∀x s,S x s->bN P cfg C b s (qg (λs'=>Wk cfg C k s' λs2=>∃y,μ y<μ x/\S y s2) Q)):bN P cfg C (.loop b) st Q:=by
 intro D m a w hi ht K hK;have key:∀n x s D1 m1 a1 w1,S x s->μ x<n->TR D1 m1 s a1->dw cfg C D m st.o w D1 m1 s.o w1->s.ro=st.ro->wo m1 s.ro=wo m st.ro->Code.roundsIn (FR (wo m st.ro)) 0 P b K n a1 w1:=by
  intro n;induction n with
  | zero=>simp
  | succ n ih=>
    intro x s D1 m1 a1 w1 hs hμ ht1 he1 hro1 hf1;rw[roundsIn_succ,<-hf1];refine hr x s hs D1 m1 a1 w1 he1.b0 ht1 _ λr hq hro D2 m2 a2 w2 ht2 he2=>?_;rw[hf1];have he:=he1.d0 he2;have fr:wo m2 r.2.ro=wo m st.ro:=by rw[hro,rh ht1.f0 he2.a0,hf1]
    unfold qg at hq;cases hx:r.1 with
    | a=>
      rw[hx]at hq;obtain⟨s2,D3,m3,⟨y,hy,hS⟩,h1,h2,h3,h4,h5⟩:=hq D2 m2 a2 w2 he2.b0 ht2;exact ih y s2 D3 m3 a2 w2 hS δ h1 (h5 _ _ _ _ hk hi.lt he) (h2.trans (hro.trans hro1)) (h3.trans fr)
    | b id=>rw[hx]at hq;have:=hK r hq (hro.trans hro1) D2 m2 a2 w2 ht2 he;rw[hx]at this;exact this
    | c=>rw[hx]at hq;have:=hK r hq (hro.trans hro1) D2 m2 a2 w2 ht2 he;rw[hx]at this;exact this
 obtain⟨s,D1,m1,⟨x,hS⟩,h1,h2,h3,h4,h5⟩:=h0 D m a w hi ht;exact wpIn_loop_rounds (μ x+1) (key _ x s D1 m1 a w hS (Nat.lt_succ_self _) h1 (h5 _ _ _ _ hk hi.lt (dw.h0 hi)) h2 h3)
end
section
variable{P:Program}{T:fm}(hT:fH P T){cfg:cL}
include hT
theorem HX{f:FuncId}{fn:Func}(hb:aY T f=some (fn,c)){C:bg}{D:Nat->Prop}{m:Nat->bv}{args:List AV}{o0:aB}{w:World}(hlen:args.length<=1000){R:AV×aB->Prop}
 (h:bN P cfg C c (jS fn args o0) λx=>∃r,wj T C fn x=some r/\R r)
 (hi:dX cfg D m C o0 w) (hok:fM D m args) {RR:Value->World->Prop} (hR:∀r D' m' w',R r->dh D' m' r.1->dw cfg C D m o0 w D' m' r.2 w'->RR (aj m' r.1) w') :
 (callFunc f (aD m args).toArray).run P w=.ok (.enter f (aD m args).toArray) w/\Calls P f (aD m args).toArray w λe w'=>∃v,e=.returned v/\RR v w':=by
 simp only[aY,ag,zAb,Prod.mk.injEq]at hb;obtain⟨fn',hfn,c',hbody,rfl,rfl⟩:=hb;obtain⟨hf,hname⟩:=hT.fn f fn' hfn;refine⟨by simp_all [callFunc],callsIn_wide.1 (callsIn_of_wp_marks (n:=0) hf hbody trivial ?_)⟩;refine h D m _ w hi (CD hT hlen hok) _ λx hx hro D' m' a' w' ht he=>?_;obtain⟨r,hend,hRr⟩:=hx;have this:LeavesInM Fence.wide 0 P fn' a'.tmps (λe w''=>∃v,e=.returned v/\RR v w'') a'.defers .returning w'/\∀id,x.1≠.b id:=by
  unfold wj at hend;split at hend
  . grind
  . rename_i hne;simp only[ag,zAb]at hend;obtain⟨o,hmk,vs,hres,rfl⟩:=hend;refine⟨?_,λid e=>hne id e⟩;rw[ht.a0];refine tQ hmk he.b0 ht.e0 λw2 he2=>?_;have ht2:TR D' m' ⟨x.2.ts,x.2.tn,o,[],none⟩ ⟨a'.tmps,[]⟩:=⟨ht.b0,ht.c0,ht.d0,rfl,λd hd=>η,λi hi=>η⟩;obtain⟨h1,h2⟩:=xw hT he2.b0 ht2 hres;exact⟨_,h1,_,rfl,hR _ D' m' w2 hRr h2 (he.d0 he2)⟩
 cases hxe:x.1 with
 | a=>exact this.1
 | c=>exact this.1
 | b id=>grind
end
end Go.Ev
end
