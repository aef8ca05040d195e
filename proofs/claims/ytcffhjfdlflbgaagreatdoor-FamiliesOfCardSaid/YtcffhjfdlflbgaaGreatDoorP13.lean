import Derived.Test.YtcffhjfdlflbgaaGreatDoorP12
set_option linter.all false
open Bool renaming not->ν,false->ξ,true->ο,and->π
open Int renaming add->ς
set_option linter.all false
set_option maxRecDepth 100000
set_option maxHeartbeats 4000000
section
namespace Go.Ev
open Go Go.Proofs
variable{Q:AV->Prop}
def gc(a b c d:Int):Int:=if iI a c=0 then iI b d else iI a c
def FB:dP:=λ
 | [.g [.a .i8 a,.a .i64 b],.g [.a .i8 c,.a .i64 d]]=>some (.a0 (gc a b c d))
 | _=>none
def bA(a b c d:Int):Int:=if cw a b=0/\cw c d=0 then(if 0<a\/c<0 then 4 else if 0<gc a b c d then 12 else 0)else 5
def Pm:dP:=λ
 | [.g [.a .i8 a,.a .i64 b,.a .i8 c,.a .i64 d]]=>some (.a0 (bA a b c d))
 | _=>none
def S2:aQ:=pX S1 92 FB
def S3:aQ:=pX S2 40 Pm
def In(a b c d e f g h:Int):Int:=if gc a b e f=0 then gc c d g h else gc a b e f
def s6(i j k l:Int):Prop:=gc k l i j<=0\/cw i j=0/\(i=0/\j<9223372036854775807/\k=0/\l=j+1\/i≠0/\i=k/\j=l)
instance {i j k l:Int}:Decidable (s6 i j k l):=by unfold s6;infer_instance
def vz(a b c d e f g h:Int):Bool:=decide (bA a b c d=0/\bA e f g h=0/\(gc e f a b<0/\s6 g h a b\/0<=gc e f a b/\s6 c d e f))
def IJ(n:Int):Prop:=-9223372036854775808<=n/\n<=9223372036854775807
theorem Y7(a b c d:Int):ask Q (mG eS cfg S1 1000 92 [wn a b,wn c d]) (bE 10014051455)=((ν (aa (iI a c) 0)->Q (iI a c))/\(ν (aa (iI a c) 0)=false->((ν (aa (iI b d) 0)->Q (iI b d))/\(ν (aa (iI b d) 0)=false->Q (AV.a .i64 0))))):=κ
theorem SV(a b c d:Int):ask Q (mG eS cfg S2 1000 40 [kw a b c d]) (bE 10281028114514320224014322002400)=((ν (ν (aa (cw a b) 0))->(ν (ν (aa (cw a b) 0))/\(ν (ν (aa (cw a b) 0))/\(ν (ν (aa (cw a b) 0))/\(ν (aa (cw a b) 0)=false/\((ν (aa (cw c d) 0)->Q (AV.a .i64 5))/\(ν (aa (cw c d) 0)=false->((ν (ν (ab a 0))->(ν (ν (ab a 0))/\(ν (ν (ab a 0))/\(ν (ν (ab a 0))/\(ν (ab a 0)=false/\((ν (ab 0 c)->Q (AV.a .i64 4))/\(ν (ab 0 c)=false->((ν (ab (gc a b c d) 0)->Q (AV.a .i64 12))/\(ν (ab (gc a b c d) 0)=false->Q (AV.a .i64 0))))))))))/\(ν (ν (ab a 0))=false->(ν (ν (ab a 0))=false/\(ν (ν (ab a 0))=false/\(ν (ν (ab a 0))=false/\(ν (ab a 0)/\Q (AV.a .i64 4))))))))))))))/\(ν (ν (aa (cw a b) 0))=false->(ν (ν (aa (cw a b) 0))=false/\(ν (ν (aa (cw a b) 0))=false/\(ν (ν (aa (cw a b) 0))=false/\(ν (aa (cw a b) 0)/\Q (AV.a .i64 5))))))):=κ
theorem Zr(a b c d e f g h:Int):ask Q (mG eS cfg S2 1000 85 [kw a b c d,kw e f g h]) (bE 1001405140006)=((ν (aa (gc a b e f) 0)->Q (gc a b e f))/\(ν (aa (gc a b e f) 0)=false->((ν (aa (gc c d g h) 0)->Q (gc c d g h))/\(ν (aa (gc c d g h) 0)=false->Q (AV.a .i64 0))))):=κ
def Y0(a b c d e f g h:Int):ask Q (mG eS cfg S3 1000 93 [kw a b c d,kw e f g h]) (bE 10813380052023311064156401220022002053432024005145133800520233110641564012200220020534320240051405645147540006)=((aa (bA a b c d) 0->(aa (bA a b c d) 0/\(aa (bA a b c d) 0/\(aa (bA a b c d) 0/\((ν (aa (bA e f g h) 0)->Q ξ)/\(ν (aa (bA e f g h) 0)=false->((ν (ab 0 (gc e f a b))->((ab (gc a b g h) 0->Q ο)/\(ab (gc a b g h) 0=false->((ν (ν (aa (cw g h) 0))->(ν (ν (aa (cw g h) 0))/\(ν (ν (aa (cw g h) 0))/\(ν (aa (cw g h) 0)=false/\((ν (aa g 0)->(ν (aa (cw g h) 0)=false/\(aa (cw g h) 0/\(aa (cw g h) 0/\(aa (cw g h) 0/\(aa (cw g h) 0/\(aa (cw g h) 0/\Q (π (aa g a) (π (aa h b) ο)))))))))/\(ν (aa g 0)=false->((af .i64 (ς h 1)->Q (π (aa 0 a) (π (aa (ς h 1) b) ο)))/\(af .i64 (ς h 1)=false->((aa h 9223372036854775807->Q ξ)/\(aa h 9223372036854775807=false->False))))))))))/\(ν (ν (aa (cw g h) 0))=false->(ν (ν (aa (cw g h) 0))=false/\(ν (ν (aa (cw g h) 0))=false/\(ν (aa (cw g h) 0)/\(ν (aa (cw g h) 0)/\(aa (cw g h) 0=false/\(aa (cw g h) 0=false/\(aa (cw g h) 0=false/\(aa (cw g h) 0=false/\(aa (cw g h) 0=false/\Q ξ))))))))))))))/\(ν (ab 0 (gc e f a b))=false->((ab (gc e f c d) 0->Q ο)/\(ab (gc e f c d) 0=false->((ν (ν (aa (cw c d) 0))->(ν (ν (aa (cw c d) 0))/\(ν (ν (aa (cw c d) 0))/\(ν (aa (cw c d) 0)=false/\((ν (aa c 0)->(ν (aa (cw c d) 0)=false/\(aa (cw c d) 0/\(aa (cw c d) 0/\(aa (cw c d) 0/\(aa (cw c d) 0/\(aa (cw c d) 0/\Q (π (aa c e) (π (aa d f) ο)))))))))/\(ν (aa c 0)=false->((af .i64 (ς d 1)->Q (π (aa 0 e) (π (aa (ς d 1) f) ο)))/\(af .i64 (ς d 1)=false->((aa d 9223372036854775807->Q ξ)/\(aa d 9223372036854775807=false->False))))))))))/\(ν (ν (aa (cw c d) 0))=false->(ν (ν (aa (cw c d) 0))=false/\(ν (ν (aa (cw c d) 0))=false/\(ν (aa (cw c d) 0)/\(ν (aa (cw c d) 0)/\(aa (cw c d) 0=false/\(aa (cw c d) 0=false/\(aa (cw c d) 0=false/\(aa (cw c d) 0=false/\(aa (cw c d) 0=false/\Q ξ)))))))))))))))))))))/\(aa (bA a b c d) 0=false->(aa (bA a b c d) 0=false/\(aa (bA a b c d) 0=false/\(aa (bA a b c d) 0=false/\Q ξ))))):=ε
theorem YQ(a b c d:Int):ask Q (mG eS cfg gZ 1000 98 [wn a b,wn c d]) (bE 11400140014001400)=((ν (ab c a)->Q (AV.a .i64 (Neg.neg 1)))/\(ν (ab c a)=false->((ν (ab a c)->Q (AV.a .i64 1))/\(ν (ab a c)=false->((ν (ab d b)->Q (AV.a .i64 (Neg.neg 1)))/\(ν (ab d b)=false->((ν (ab b d)->Q (AV.a .i64 1))/\(ν (ab b d)=false->Q (AV.a .i64 0))))))))):=κ
theorem Y9(a b:Int):ask Q (mG eS cfg gZ 1000 103 [wn a b]) (bE 111404114024140)=((aa a 0->Q (AV.a .i64 0))/\(aa a 0=false->((aa a 1->(aa a 1/\((aa b 0->Q (AV.a .i64 0))/\(aa b 0=false->Q (AV.a .i64 5)))))/\(aa a 1=false->((aa a (Neg.neg 1)->((aa b 0->Q (AV.a .i64 0))/\(aa b 0=false->Q (AV.a .i64 5))))/\(aa a (Neg.neg 1)=false->Q (AV.a .i64 5))))))):=κ
theorem Vs(a b c d:Int):gM Tryz.prog cfg 92 [wn a b,wn c d] (gc a b c d):=
 cC.b0 PX (n:=1000) (D:=_) (by rw[Y7];simp only[az,reduceCtorEq];grind [gc])
theorem NE:ky Tryz.prog cfg 92 FB:=by(intro args t v he hv;unfold FB at he;split at he<;>first|(cases he;cases hv;apply Vs;done)|grind)
theorem Jp:ak Tryz.prog cfg S2:=eG PX NE
theorem IU(a b c d:Int):gM Tryz.prog cfg 40 [kw a b c d] (bA a b c d):=
 cC.b0 Jp (n:=1000) (D:=_) (by rw[SV];simp only[az,reduceCtorEq];grind [bA])
theorem Es:ky Tryz.prog cfg 40 Pm:=by(intro args t v he hv;unfold Pm at he;split at he<;>first|(cases he;cases hv;apply IU;done)|grind)
theorem amU(a b c d e f g h:Int):gM Tryz.prog cfg 85 [kw a b c d,kw e f g h] (In a b c d e f g h):=
 cC.b0 Jp (n:=1000) (D:=_) (by rw[Zr];simp only[az,reduceCtorEq];grind [In])
theorem P2:ak Tryz.prog cfg S3:=eG Jp Es
theorem QO(a b c d e f g h:Int)(hd:IJ d)(hh:IJ h):gM Tryz.prog cfg 93 [kw a b c d,kw e f g h] (vz a b c d e f g h):=by
 have hd:=hd;have hh:=hh
 unfold IJ at hd hh;refine cC.b0 P2 ((Y0 ..).mpr ?_);simp only[az,reduceCtorEq]
 (repeat' first|exact trivial|refine⟨?_,?_⟩|intro)<;>first|omega|grind [aw,vz,s6]
theorem WY(a b c d:Int):gM Tryz.prog cfg 98 [wn a b,wn c d] (gc a b c d):=
 cC.b0 aW ((YQ ..).mpr (by simp only[az,reduceCtorEq];grind [gc,iI]))
theorem SB(a b:Int):gM Tryz.prog cfg 103 [wn a b] (cw a b):=
 cC.b0 aW ((Y9 ..).mpr (by simp only[az,reduceCtorEq];grind [cw]))
end Go.Ev
end
section
namespace Go.Ev
open Go
def ZG(T:fm)(cfg:cL)(S:aQ)(n:Nat)(C:bg)(f:FuncId)(args:List AV)(o:aB):Tr AV:=
 abQ T (cH cfg S) (tK S) false (rx T (cH cfg S) (tK S) n) C f args o λr=>.a0 r.1
theorem xS.row{P:Program}{T:fm}{cfg:cL}(g:xS P T cfg){S:aQ}(hS:ak P cfg S){n:Nat}{C:bg}{f:FuncId}{args:List AV}{o:aB}{Q:AV->Prop}{t:DT}(h:Ev.ask Q (ZG T cfg S n C f args o) t)
 {D:Nat->Prop} {m:Nat->bv} {w:World} (hi:dX cfg D m C o w) (hok:fM D m args) :
 ∃v o',Q v/\jV P f (ap m args).toArray w λV w'=>∃D' m',V=aj m' v/\dh D' m' v/\dw cfg C D m o w D' m' o' w'/\(cI args (cfg.b0 f)=[]->aa9 D w D' m' w'):=by
 have gg:=g.a0 hS;obtain⟨a,ha,hq⟩:=iH h;obtain⟨x,hx,hr⟩:=lZ (R:=AV) (inl:=false) (nj cfg S) (mq (nj cfg S) n) _ _ _ _ _ _ ha;cases hr;refine⟨x.1,x.2,hq,(OS gg.d0 gg.b0 gg.lv gg.f0 gg.c0 n C f args o x hx D m w (dX.to (cfg:=cfg) (cfg':=cH cfg S) rfl rfl hi) hok).a0 ?_⟩;grind [dw.to,cH]
end Go.Ev
end
section
namespace Go.Ev
open Go Go.Proofs
variable{Q:AV->Prop}
def QG:dP:=λ
 | [.g [.a .i8 a,.a .i64 b,.a .i8 c,.a .i64 d],.g [.a .i8 e,.a .i64 f,.a .i8 g,.a .i64 h]]=>some (.a0 (In a b c d e f g h))
 | _=>none
def Sp:dP:=λ
 | [.g [.a .i8 a,.a .i64 b,.a .i8 c,.a .i64 d],.g [.a .i8 e,.a .i64 f,.a .i8 g,.a .i64 h]]=>some (lu (af .i64 d) (lu (af .i64 h) (.a0 (vz a b c d e f g h))))
 | _=>none
def S4:aQ:=pX (pX (pX (pX S3 85 QG) 93 Sp) 98 FB) 103 Ie
def S5:aQ:=pX S4 48 Pm
theorem Hr{a b:Int}:cw a b=0↔a=0\/(a=1\/a = -1)/\b=0:=by grind [cw]
theorem yg(a b:Int):a<b/\iI a b = -1\/a=b/\iI a b=0\/b<a/\iI a b=1:=by grind [iI]
theorem xF(a b c d:Int):(a<c\/a=c/\b<d)/\gc a b c d = -1\/(a=c/\b=d)/\gc a b c d=0\/(c<a\/a=c/\d<b)/\gc a b c d=1:=by
 have h1:=yg a c;have h2:=yg b d;grind [gc]
def cP(a b c d n:Int):Bool:=decide ((a = -1\/b<=n)/\(c=1\/n<=d))
def RA:dP:=λ
 | [.g [.a .i8 a,.a .i64 b,.a .i8 c,.a .i64 d],.a .i64 n]=>some (.a0 (cP a b c d n))
 | _=>none
def S6:aQ:=pX S5 316 RA
def aat(a b c d e f:Int):Bool:=decide (e = -1/\a = -1\/e≠-1/\cP a b c d f=true)
def akr:dP:=λ
 | [.g [.a .i8 a,.a .i64 b,.a .i8 c,.a .i64 d],.g [.a .i8 e,.a .i64 f,.a .i8 g,.a .i64 h]]=>some (.a0 (aat a b c d e f))
 | _=>none
def abv(c d e f:Int):Bool:=decide (c=0/\e=0/\d<9223372036854775807/\d+1=f)
def ale:dP:=λ
 | [.g [.a .i8 a,.a .i64 b,.a .i8 c,.a .i64 d],.g [.a .i8 e,.a .i64 f,.a .i8 g,.a .i64 h]]=>some (lu (af .i64 d) (.a0 (abv c d e f)))
 | _=>none
def S7:aQ:=pX (pX S6 247 akr) 179 ale
def ada(a b c d e f g h:Int):Bool:=decide (aat a b c d e f\/aat e f g h a b\/abv c d e f\/abv g h a b=true)
def aiv:dP:=λ
 | [.g [.a .i8 a,.a .i64 b,.a .i8 c,.a .i64 d],.g [.a .i8 e,.a .i64 f,.a .i8 g,.a .i64 h]]=>some (lu (af .i64 d) (lu (af .i64 h) (.a0 (ada a b c d e f g h))))
 | _=>none
theorem SW(a b c d:Int):ask Q (mG eS cfg S4 1000 48 [kw a b c d]) (bE 10281028114514320224014322002400)=((ν (ν (aa (cw a b) 0))->(ν (ν (aa (cw a b) 0))/\(ν (ν (aa (cw a b) 0))/\(ν (ν (aa (cw a b) 0))/\(ν (aa (cw a b) 0)=false/\((ν (aa (cw c d) 0)->Q (AV.a .i64 5))/\(ν (aa (cw c d) 0)=false->((ν (aa a 1)->(ν (aa a 1)/\(ν (aa a 1)/\(ν (aa a 1)/\(aa a 1=false/\((aa c (Neg.neg 1)->Q (AV.a .i64 4))/\(aa c (Neg.neg 1)=false->((aa (gc a b c d) 1->Q (AV.a .i64 12))/\(aa (gc a b c d) 1=false->Q (AV.a .i64 0))))))))))/\(ν (aa a 1)=false->(ν (aa a 1)=false/\(ν (aa a 1)=false/\(ν (aa a 1)=false/\(aa a 1/\Q (AV.a .i64 4))))))))))))))/\(ν (ν (aa (cw a b) 0))=false->(ν (ν (aa (cw a b) 0))=false/\(ν (ν (aa (cw a b) 0))=false/\(ν (ν (aa (cw a b) 0))=false/\(ν (aa (cw a b) 0)/\Q (AV.a .i64 5))))))):=κ
theorem Yb(a b c d n:Int):ask Q (mG eS cfg S4 1000 316 [kw a b c d,n]) (bE 10203810302074005238133053817381232207422022432202240)=((ν (aa a (Neg.neg 1))->(ν (aa a (Neg.neg 1))/\(ν (aa a (Neg.neg 1))/\(ν (aa a (Neg.neg 1))/\(ν (aa a (Neg.neg 1))/\(aa a (Neg.neg 1)=false/\((ab b n->(ab b n/\(ab b n/\(ab b n/\(ab b n/\((ν (aa c 1)->(ν (aa c 1)/\(ν (aa c 1)/\(ν (aa c 1)/\(ν (aa c 1)/\(ab b n/\(aa c 1=false/\(ab b n/\Q (ab n d)))))))))/\(ν (aa c 1)=false->(ν (aa c 1)=false/\(ν (aa c 1)=false/\(ν (aa c 1)=false/\(ν (aa c 1)=false/\(ab b n/\(aa c 1/\(ab b n/\Q ο))))))))))))))/\(ab b n=false->(ab b n=false/\(ab b n=false/\(ab b n=false/\(ab b n=false/\(ab b n=false/\(ab b n=false/\Q ξ))))))))))))))/\(ν (aa a (Neg.neg 1))=false->(ν (aa a (Neg.neg 1))=false/\(ν (aa a (Neg.neg 1))=false/\(ν (aa a (Neg.neg 1))=false/\(ν (aa a (Neg.neg 1))=false/\(aa a (Neg.neg 1)/\((ν (aa c 1)->(ν (aa c 1)/\(ν (aa c 1)/\(ν (aa c 1)/\(ν (aa c 1)/\(aa c 1=false/\Q (ab n d)))))))/\(ν (aa c 1)=false->(ν (aa c 1)=false/\(ν (aa c 1)=false/\(ν (aa c 1)=false/\(ν (aa c 1)=false/\(aa c 1/\Q ο)))))))))))))):=κ
theorem aoM(a b c d e f g h:Int):ask Q (mG eS cfg S6 1000 247 [kw a b c d,kw e f g h]) (bE 1051040)=((aa e (Neg.neg 1)->Q (aa a (Neg.neg 1)))/\(aa e (Neg.neg 1)=false->Q (cP a b c d f))):=κ
theorem aoS(a b c d e f g h:Int)(hd : -9223372036854775808<=d/\d<=9223372036854775807):ask Q (mG eS cfg S4 1000 179 [kw a b c d,kw e f g h]) (bE 105638163813388122022702242202242202240)=((aa c 0->(aa c 0/\(aa c 0/\(aa c 0/\(aa c 0/\((aa e 0->(aa e 0/\(aa e 0/\(aa e 0/\(aa e 0/\((ν (ab 9223372036854775807 d)->(ν (ab 9223372036854775807 d)/\(ν (ab 9223372036854775807 d)/\(ν (ab 9223372036854775807 d)/\(af .i64 (ς d 1)/\(ν (ab 9223372036854775807 d)/\(ν (ab 9223372036854775807 d)/\(ν (ab 9223372036854775807 d)/\(ν (ab 9223372036854775807 d)/\(ν (ab 9223372036854775807 d)/\Q (aa (ς d 1) f)))))))))))/\(ν (ab 9223372036854775807 d)=false->(ν (ab 9223372036854775807 d)=false/\(ν (ab 9223372036854775807 d)=false/\(ν (ab 9223372036854775807 d)=false/\(ν (ab 9223372036854775807 d)=false/\(ν (ab 9223372036854775807 d)=false/\(ν (ab 9223372036854775807 d)=false/\(ν (ab 9223372036854775807 d)=false/\(ν (ab 9223372036854775807 d)=false/\Q ξ)))))))))))))))/\(aa e 0=false->(aa e 0=false/\(aa e 0=false/\(aa e 0=false/\(aa e 0=false/\Q ξ)))))))))))/\(aa c 0=false->(aa c 0=false/\(aa c 0=false/\(aa c 0=false/\(aa c 0=false/\Q ξ)))))):=κ
theorem aoE(a b c d e f g h:Int)(hd : -9223372036854775808<=d/\d<=9223372036854775807)(hh : -9223372036854775808<=h/\h<=9223372036854775807):ask Q (mG eS cfg S7 1000 99 [kw a b c d,kw e f g h]) (bE 15523315233123313225254322525432525400056)=((ν (aat a b c d e f)->(ν (aat a b c d e f)/\(ν (aat a b c d e f)/\(aat a b c d e f=false/\((ν (aat e f g h a b)->(ν (aat e f g h a b)/\(ν (aat e f g h a b)/\(af .i64 d/\(aat e f g h a b=false/\((ν (abv c d e f)->(ν (abv c d e f)/\(ν (abv c d e f)/\(af .i64 h/\(abv c d e f=false/\Q (abv g h a b))))))/\(ν (abv c d e f)=false->(ν (abv c d e f)=false/\(ν (abv c d e f)=false/\(abv c d e f/\Q ο))))))))))/\(ν (aat e f g h a b)=false->(ν (aat e f g h a b)=false/\(ν (aat e f g h a b)=false/\(aat e f g h a b/\Q ο)))))))))/\(ν (aat a b c d e f)=false->(ν (aat a b c d e f)=false/\(ν (aat a b c d e f)=false/\(aat a b c d e f/\Q ο))))):=κ
theorem Nl:ky Tryz.prog cfg 85 QG:=by(intro args t v he hv;unfold QG at he;split at he<;>first|(cases he;cases hv;apply amU;done)|grind)
theorem Nh:ky Tryz.prog cfg 93 Sp:=by
 intro args t v he hv;unfold Sp at he;split at he
 . cases he;obtain⟨h1,hv⟩:=bG hv;obtain⟨h2,hv⟩:=bG hv;cases hv;exact QO _ _ _ _ _ _ _ _ (aE.mp h1) (aE.mp h2)
 grind
theorem Oz:ky Tryz.prog cfg 98 FB:=by(intro args t v he hv;unfold FB at he;split at he<;>first|(cases he;cases hv;apply WY;done)|grind)
theorem Ni:ky Tryz.prog cfg 103 Ie:=by(intro args t v he hv;unfold Ie at he;split at he<;>first|(cases he;cases hv;apply SB;done)|grind)
theorem Gi:ak Tryz.prog cfg S4:=eG (eG (eG (eG P2 Nl) Nh) Oz) Ni
theorem Ji(a b c d:Int):gM Tryz.prog cfg 48 [kw a b c d] (bA a b c d):=
 cC.b0 Gi ((SW ..).mpr (by
  have h1:=xF a b c d;have h2:=@Hr a b;have h3:=@Hr c d;simp only[az,reduceCtorEq];grind [bA]))
theorem RQ:ky Tryz.prog cfg 48 Pm:=by(intro args t v he hv;unfold Pm at he;split at he<;>first|(cases he;cases hv;apply Ji;done)|grind)
theorem XL:ak Tryz.prog cfg S5:=eG Gi RQ
theorem Ug(a b c d n:Int):gM Tryz.prog cfg 316 [kw a b c d,n] (cP a b c d n):=
 cC.b0 Gi ((Yb ..).mpr (by simp only[az,reduceCtorEq];grind [bF,cP]))
theorem OV:ky Tryz.prog cfg 316 RA:=by(intro args t v he hv;unfold RA at he;split at he<;>first|(cases he;cases hv;apply Ug;done)|grind)
theorem Wd:ak Tryz.prog cfg S6:=eG XL OV
theorem am_(a b c d e f g h:Int):gM Tryz.prog cfg 247 [kw a b c d,kw e f g h] (aat a b c d e f):=
 cC.b0 Wd ((aoM ..).mpr (by grind [aw,aat]))
theorem aiR:ky Tryz.prog cfg 247 akr:=by(intro args t v he hv;unfold akr at he;split at he<;>first|(cases he;cases hv;apply am_;done)|grind)
theorem al7(a b c d e f g h:Int)(hd : -9223372036854775808<=d/\d<=9223372036854775807):gM Tryz.prog cfg 179 [kw a b c d,kw e f g h] (abv c d e f):=
 cC.b0 Gi ((aoS (hd:=hd) ..).mpr (by simp only[az,reduceCtorEq];grind [aw,abv]))
theorem ai8:ky Tryz.prog cfg 179 ale:=by
 intro args t v he hv;unfold ale at he;split at he
 . cases he;obtain⟨h1,hv⟩:=bG hv;cases hv;exact al7 _ _ _ _ _ _ _ _ (aE.mp h1)
 grind
theorem vQ:ak Tryz.prog cfg S7:=eG (eG Wd aiR) ai8
theorem amR(a b c d e f g h:Int)(hd : -9223372036854775808<=d/\d<=9223372036854775807)(hh : -9223372036854775808<=h/\h<=9223372036854775807):gM Tryz.prog cfg 99 [kw a b c d,kw e f g h] (ada a b c d e f g h):=
 cC.b0 vQ ((aoE (hd:=hd) (hh:=hh) ..).mpr (by simp only[az,reduceCtorEq];grind [ada]))
theorem af3:ky Tryz.prog cfg 99 aiv:=by
 intro args t v he hv;unfold aiv at he;split at he
 . cases he;obtain⟨h1,hv⟩:=bG hv;obtain⟨h2,hv⟩:=bG hv;cases hv;exact amR _ _ _ _ _ _ _ _ (aE.mp h1) (aE.mp h2)
 grind
end Go.Ev
end
section
namespace Go.Ev
open Go Go.RowKit
variable{c:Code}{id k:Nat}{A:St->Prop}{D:Nat->Prop}{m m':Nat->bv}{l:bv}{x x':cD}
def bN(P:Program)(cfg:cL)(C:bg)(c:Code)(st:St)(Q:AX×St->Prop):Prop:=
 ∀D m a w,dX cfg D m C st.o w->TR D m st a->∀K:Exit->Act->World->Prop,
  (∀r,Q r->r.2.ro=st.ro->∀D' m' a' w',TR D' m' r.2 a'->dw cfg C D m st.o w D' m' r.2.o w'->K (lH r.1) a' w')->c.wpIn (FR (wo m st.ro)) 0 P K a w
def qg(F:St->Prop)(Q:AX×St->Prop)(r:AX×St):Prop:=match r.1 with
 | .a=>F r.2
 | _=>Q r
section
variable{P:Program}{cfg:cL}{C:bg}{st:St}{Q:AX×St->Prop}
theorem bN.a0{Q':AX×St->Prop}(h:bN P cfg C c st Q)(hq:∀r,Q r->Q' r):bN P cfg C c st Q':=λD m a w hi ht K hK=>h D m a w hi ht K λr hr=>hK r (hq r hr)
theorem JI{T:fm}(g:nG P T cfg){n:Nat}{r:AX×St}(h:eZ T cfg n C c st=some r)(hq:Q r):bN P cfg C c st Q:=λD m a w hi ht K hK=>
 (rv g.d0 g.b0 g.lv g.f0 g.c0 n).1 C c st r h D m a w hi ht K λD' m' a' w' ht' he=>hK r hq (px g.c0 n C c st r h).2 D' m' a' w' ht' he
theorem NW{c1 c2:Code}(h:bN P cfg C c1 st (qg (λst'=>bN P cfg C c2 st' Q) Q)):bN P cfg C (.seq c1 c2) st Q:=by
 intro D m a w hi ht K hK;refine wpIn_seq (h D m a w hi ht _ λr hr hro D' m' a' w' ht' he=>?_);have fr:wo m' r.2.ro=wo m st.ro:=by rw[hro,rh ht.f0 he.a0]
 unfold qg at hr;cases hx:r.1 with
 | a=>
   rw[hx]at hr;have:=hr D' m' a' w' he.b0 ht' K λr2 hr2 hro2 D2 m2 a2 w2 ht2 he2=>hK r2 hr2 (hro2.trans hro) D2 m2 a2 w2 ht2 (he.d0 he2);rw[fr]at this;exact this
 | b id=>rw[hx]at hr;have:=hK r hr hro D' m' a' w' ht' he;rw[hx]at this;exact this
 | c=>rw[hx]at hr;have:=hK r hr hro D' m' a' w' ht' he;rw[hx]at this;exact this
theorem IZ{b:Code}(h:bN P cfg C b st λr=>Q (lQ id r)):bN P cfg C (.block id b) st Q:=by
 intro D m a w hi ht K hK;refine wpIn_block (h D m a w hi ht _ λr hr hro D' m' a' w' ht' he=>?_);have hr:Q (lQ id r):=hr;unfold lQ at hr;cases hx:r.1<;>grind [gm,Exit.inBlock,lH,ic]
theorem H1{b:Code}(h:bN P cfg C b st Q):bN P cfg C (.scope b) st Q:=by
 intro D m a w hi ht K hK;refine jX (h D m a w hi ht _ λr hr hro D' m' a' w' ht' he=>?_);have:=hK r hr hro D' m' a' w' ht' he;cases hre:r.1<;>rw[hre]at this<;>exact this
theorem L8(h:Q (.a,st)):bN P cfg C .skip st Q:=λD m a w hi ht K hK=>wpIn_skip (hK _ h rfl D m a w ht (dw.h0 hi))
theorem HT{l:Nat}(h:Q (.a,st)):bN P cfg C (.label l) st Q:=λD m a w hi ht K hK=>wpIn_label (hK _ h rfl D m a w ht (dw.h0 hi))
theorem Mq(h:Q (.b id,st)):bN P cfg C (.exit id) st Q:=λD m a w hi ht K hK=>wpIn_exit (hK _ h rfl D m a w ht (dw.h0 hi))
theorem Nf(h:Q (.c,st)):bN P cfg C .ret st Q:=λD m a w hi ht K hK=>wpIn_ret (hK _ h rfl D m a w ht (dw.h0 hi))
theorem KA{x:Operand}{b:Bool}{c1 c2:Code}(hv:fj cfg.G st.ts x=some (.e b))(h1:b->bN P cfg C c1 st Q)(h2:b=false->bN P cfg C c2 st Q):bN P cfg C (.cond x c1 c2) st Q:=by
 intro D m a w hi ht K hK;obtain⟨e,_⟩:=mM hi ht hv;cases b with
 | true=>exact wpIn_cond_true (by rw[e];rfl) (h1 rfl D m a w hi ht K hK)
 | false=>exact wpIn_cond_false (by rw[e];rfl) (h2 rfl D m a w hi ht K hK)
def Wk(cfg:cL)(C:bg)(k:Nat)(st:St)(A:St->Prop):Prop:=
 ∀D m a w,dX cfg D m C st.o w->TR D m st a->∃st' D' m',A st'/\TR D' m' st' a/\st'.ro=st.ro/\wo m' st'.ro=wo m st.ro/\dX cfg D' m' C st'.o w/\
  ∀D0 m0 o0 w0,o0.n<=k->(∀i,D0 i->i<C.lo+o0.n)->dw cfg C D0 m0 o0 w0 D m st.o w->dw cfg C D0 m0 o0 w0 D' m' st'.o w
theorem Wk.b0{B:St->Prop}(h:Wk cfg C k st A)(hab:∀s,A s->B s):Wk cfg C k st B:=λD m a w hi ht=>by
 obtain⟨s,D',m',hA,h1⟩:=h D m a w hi ht;grind
theorem Wk.a0(h:A st):Wk cfg C k st A:=λD m a w hi ht=>⟨st,D,m,h,ht,rfl,rfl,hi,λ_ _ _ _ _ _ h=>h⟩
theorem Wk.c0{B:St->Prop}(h:Wk cfg C k st A)(hb:∀s,A s->Wk cfg C k s B):Wk cfg C k st B:=λD m a w hi ht=>by
 obtain⟨s,D1,m1,hA,h1,h2,h3,h4,h5⟩:=h D m a w hi ht;obtain⟨t,D2,m2,hB,k1,k2,k3,k4,k5⟩:=hb s hA D1 m1 a w h4 h1;grind
theorem Np(h:Wk cfg C k st A)(hk:st.o.n<=k)(hs:∀s,A s->bN P cfg C c s Q):bN P cfg C c st Q:=by
 intro D m a w hi ht K hK;obtain⟨s,D1,m1,hA,h1,h2,h3,h4,h5⟩:=h D m a w hi ht;have:=hs s hA D1 m1 a w h4 h1 K λr hr hro D' m' a' w' ht' he=>hK r hr (hro.trans h2) D' m' a' w' ht' ((h5 _ _ _ _ hk hi.lt (dw.h0 hi)).d0 he);grind
theorem Lt{Q':AX×St->Prop}(h:bN P cfg C c st Q')(hk:st.o.n<=k)(hw:∀r,Q' r->Wk cfg C k r.2 λs=>Q (r.1,s)):bN P cfg C c st Q:=by
 intro D m a w hi ht K hK;refine h D m a w hi ht K λr hr hro D' m' a' w' ht' he=>?_;obtain⟨s,D1,m1,hA,h1,h2,h3,h4,h5⟩:=hw r hr D' m' a' w' he.b0 ht';exact hK (r.1,s) hA (h2.trans hro) D1 m1 a' w' h1 (h5 _ _ _ _ hk hi.lt he)
theorem JK{ι:Type}(μ:ι->Nat)(S:ι->St->Prop){b:Code}(h0:Wk cfg C k st λs=>∃x,S x s)(hk:st.o.n<=k)
 (hr:∀x s,S x s->bN P cfg C b s (qg (λs'=>Wk cfg C k s' λs2=>∃y,μ y<μ x/\S y s2) Q)):bN P cfg C (.loop b) st Q:=by
 intro D m a w hi ht K hK;have key:∀n x s D1 m1 a1 w1,S x s->μ x<n->TR D1 m1 s a1->dw cfg C D m st.o w D1 m1 s.o w1->s.ro=st.ro->wo m1 s.ro=wo m st.ro->Code.roundsIn (FR (wo m st.ro)) 0 P b K n a1 w1:=by
  intro n;induction n with
  | zero=>simp
  | succ n ih=>
    intro x s D1 m1 a1 w1 hs hμ ht1 he1 hro1 hf1;rw[roundsIn_succ,<-hf1];refine hr x s hs D1 m1 a1 w1 he1.b0 ht1 _ λr hq hro D2 m2 a2 w2 ht2 he2=>?_;rw[hf1];have he:=he1.d0 he2;have fr:wo m2 r.2.ro=wo m st.ro:=by rw[hro,rh ht1.f0 he2.a0,hf1]
    unfold qg at hq;cases hx:r.1 with
    | a=>
      rw[hx]at hq;obtain⟨s2,D3,m3,⟨y,hy,hS⟩,h1,h2,h3,h4,h5⟩:=hq D2 m2 a2 w2 he2.b0 ht2;exact ih y s2 D3 m3 a2 w2 hS δ h1 (h5 _ _ _ _ hk hi.lt he) (h2.trans (hro.trans hro1)) (h3.trans fr)
    | b id=>rw[hx]at hq;have:=hK r hq (hro.trans hro1) D2 m2 a2 w2 ht2 he;rw[hx]at this;exact this
    | c=>rw[hx]at hq;have:=hK r hq (hro.trans hro1) D2 m2 a2 w2 ht2 he;rw[hx]at this;exact this
 obtain⟨s,D1,m1,⟨x,hS⟩,h1,h2,h3,h4,h5⟩:=h0 D m a w hi ht;exact wpIn_loop_rounds (μ x+1) (key _ x s D1 m1 a w hS (Nat.lt_succ_self _) h1 (h5 _ _ _ _ hk hi.lt (dw.h0 hi)) h2 h3)
end
section
variable{P:Program}{T:fm}(hT:fH P T){cfg:cL}
include hT
theorem HX{f:FuncId}{fn:Func}(hb:ec T f=some (fn,c)){C:bg}{args:List AV}{o0:aB}{w:World}(hlen:args.length<=1000){R:AV×aB->Prop}
 (h:bN P cfg C c (jS fn args o0) λx=>∃r,wj T C fn x=some r/\R r)
 (hi:dX cfg D m C o0 w) (hok:fM D m args) {RR:Value->World->Prop} (hR:∀r D' m' w',R r->dh D' m' r.1->dw cfg C D m o0 w D' m' r.2 w'->RR (aj m' r.1) w') :
 (callFunc f (ap m args).toArray).run P w=.ok (.enter f (ap m args).toArray) w/\Calls P f (ap m args).toArray w λe w'=>∃v,e=.returned v/\RR v w':=by
 simp only[ec,ag,zAb,Prod.mk.injEq]at hb;obtain⟨fn',hfn,c',hbody,rfl,rfl⟩:=hb;obtain⟨hf,hname⟩:=hT.fn f fn' hfn;refine⟨by simp_all [callFunc],callsIn_wide.1 (callsIn_of_wp_marks (n:=0) hf hbody trivial ?_)⟩;refine h D m _ w hi (CD hT hlen hok) _ λx hx hro D' m' a' w' ht he=>?_;obtain⟨r,hend,hRr⟩:=hx;have this:LeavesInM Fence.wide 0 P fn' a'.tmps (λe w''=>∃v,e=.returned v/\RR v w'') a'.defers .returning w'/\∀id,x.1≠.b id:=by
  unfold wj at hend;split at hend
  . grind
  . rename_i hne;simp only[ag,zAb]at hend;obtain⟨o,hmk,vs,hres,rfl⟩:=hend;refine⟨?_,λid e=>hne id e⟩;rw[ht.a0];refine tQ hmk he.b0 ht.e0 λw2 he2=>?_;have ht2:TR D' m' ⟨x.2.ts,x.2.tn,o,[],none⟩ ⟨a'.tmps,[]⟩:=⟨ht.b0,ht.d0,ht.c0,rfl,λd hd=>η,λi hi=>η⟩;obtain⟨h1,h2⟩:=xw hT he2.b0 ht2 hres;exact⟨_,h1,_,rfl,hR _ D' m' w2 hRr h2 (he.d0 he2)⟩
 cases hxe:x.1 with
 | a=>exact this.1
 | c=>exact this.1
 | b id=>grind
end
section
variable{cfg:cL}{C:bg}{st:St}
def xx:List (Nat×Nat)->Nat->Option Nat
 | [],_=>none
 | p::ps,i=>bif Nat.beq p.1 i then some p.2 else xx ps i
def To(b:Nat)(ρ:List (Nat×Nat))(i:Nat):Option Nat:=bif aS i b then some i else xx ρ i
def yw(f:AV->Option AV):List AV->Option (List AV)
 | []=>some []
 | v::vs=>ob (f v) λv'=>ob (yw f vs) λvs'=>some (v'::vs')
def kG(b:Nat)(ρ:List (Nat×Nat)):Nat->AV->Option AV
 | 0,_=>none
 | d+1,v=>match v with
   | .h id off=>ob (To b ρ id) λi=>some (.h i off)
   | .b id off len c=>ob (To b ρ id) λi=>some (.b i off len c)
   | .q id=>ob (To b ρ id) λi=>some (.q i)
   | .m id=>ob (To b ρ id) λi=>some (.m i)
   | .i f x y=>ob (yw (kG b ρ d) x) λx'=>ob (yw (kG b ρ d) y) λy'=>some (.i f x' y')
   | .l t v=>ob (kG b ρ d v) λv'=>some (.l t v')
   | .g cs=>ob (yw (kG b ρ d) cs) λcs'=>some (.g cs')
   | .c cs=>ob (yw (kG b ρ d) cs) λcs'=>some (.c cs')
   | v=>some v
def xB(f:AV->Option AV):Ts->Option Ts
 | .a0=>some .a0
 | .c0 v l r=>ob (f v) λv'=>ob (xB f l) λl'=>ob (xB f r) λr'=>some (.c0 v' l' r')
structure Fl(b:Nat)(ρ:List (Nat×Nat))(D D':Nat->Prop)(m m':Nat->bv):Prop where
 a0:∀i,D i->i<b->D' i/\m' i=m i
 mv:∀i j,xx ρ i=some j->D i->D' j/\m' j=m i
theorem QS{b:Nat}{ρ:List (Nat×Nat)}{D':Nat->Prop}(h:Fl b ρ D D' m m'){i j:Nat}(hm:To b ρ i=some j)(hd:D i):D' j/\m' j=m i:=by
 unfold To at hm;cases hb:aS i b with
 | true=>
   rw[hb,cond_true,zAb]at hm;subst hm;exact h.a0 i hd (aU.1 hb)
 | false=>rw[hb,cond_false]at hm;exact h.mv i j hm hd
section
variable{b:Nat}{ρ:List (Nat×Nat)}{D D':Nat->Prop}{m m':Nat->bv}(h:Fl b ρ D D' m m')
include h
theorem BO{f:AV->Option AV}(hf:∀v v',f v=some v'->dh D m v->aj m' v'=aj m v/\dh D' m' v'):∀{vs vs':List AV},yw f vs=some vs'->fM D m vs->ap m' vs'=ap m vs/\fM D' m' vs'
 | [],vs',hm,_=>by cases hm;grind [ap,fQ]
 | v::vs,vs',hm,hok=>by
   simp only[yw,ag,zAb]at hm;obtain⟨v1,h1,vs1,h2,rfl⟩:=hm;obtain⟨a1,a2⟩:=fE.1 hok;obtain⟨b1,b2⟩:=hf v v1 h1 a1;obtain⟨c1,c2⟩:=BO hf h2 a2;grind [ap,fE]
theorem tG:∀{d:Nat} {v v':AV},kG b ρ d v=some v'->dh D m v->aj m' v'=aj m v/\dh D' m' v'
 | 0,v,v',hm,_=>by cases hm
 | d+1,v,v',hm,hok=>by
   have ih:∀{vs vs':List AV},yw (kG b ρ d) vs=some vs'->fM D m vs->ap m' vs'=ap m vs/\fM D' m' vs':=λh1 h2=>BO h (λv v' h1 h2=>tG h1 h2) h1 h2;have one:∀{id j n:Nat},To b ρ id=some j->(D id/\n<=(m id).c0)->m' j=m id/\(D' j/\n<=(m' j).c0):=λh1 h2=>by
    grind [QS]
   unfold kG at hm;cases v<;>simp only[ag,zAb]at hm
   case h id off=>
    obtain⟨j,hj,rfl⟩:=hm;obtain⟨e,hd⟩:=one hj (hok (id,0) (by simp[aC]));exact⟨by simp[aj,e],λi hi=>by grind [aC]⟩
   case b id off len c=>
    obtain⟨j,hj,rfl⟩:=hm;obtain⟨e,hd⟩:=one hj (hok (id,fi len c) (by simp[aC]));exact⟨by simp[aj,e],λi hi=>by grind [aC]⟩
   case q id=>
    obtain⟨j,hj,rfl⟩:=hm;obtain⟨e,hd⟩:=one hj (hok (id,0) (by simp[aC]));exact⟨by simp[aj,e],λi hi=>by grind [aC]⟩
   case m id=>
    obtain⟨j,hj,rfl⟩:=hm;obtain⟨e,hd⟩:=one hj (hok (id,0) (by simp[aC]));exact⟨by simp[aj,e],λi hi=>by grind [aC]⟩
   case i f x y=>
    obtain⟨x',hx,y',hy,rfl⟩:=hm;obtain⟨a1,a2⟩:=ih hx (λi hi=>hok i (by simp[aC,hi]));obtain⟨b1,b2⟩:=ih hy (λi hi=>hok i (by simp[aC,hi]));refine⟨by simp[aj,a1,b1],λi hi=>?_⟩;simp only[aC,List.mem_append]at hi;exact hi.elim (a2 i) (b2 i)
   case l t u=>
    obtain⟨u',hu,rfl⟩:=hm;obtain⟨a1,a2⟩:=tG hu (λi hi=>hok i (by grind [aC]));exact⟨by simp[aj,a1],λi hi=>a2 i (by grind [aC])⟩
   case g cs=>
    grind [aak,aj]
   case c cs=>
    grind [gh,aj]
   all_goals grind [aj,bM,aC]
theorem Ru{d:Nat}{vs vs':List AV}(h1:yw (kG b ρ d) vs=some vs')(h2:fM D m vs):ap m' vs'=ap m vs/\fM D' m' vs':=BO h (λv v' h1 h2=>tG h h1 h2) h1 h2
end
theorem wx{f:AV->Option AV}(hu:f bt=some bt):∀{t t':Ts} (i:Nat),xB f t=some t'->f (t.b0 i)=some (t'.b0 i)
 | .a0,t',i,h=>by cases h;grind [Ts.g0]
 | .c0 v l r,t',i,h=>by
   simp only[xB,ag,zAb]at h;obtain⟨v',hv,l',hl,r',hr,rfl⟩:=h;by_cases h0:i=0
   . subst h0;exact hv
   . rcases Nat.mod_two_eq_zero_or_one i with h2|h2
     . rw[Ts.d0 _ i h0 h2,Ts.d0 _ i h0 h2];exact wx hu _ hr
     . rw[Ts.f0 _ i h0 h2,Ts.f0 _ i h0 h2];exact wx hu _ hl
def cR(b:Nat)(x:cD):Prop:=yu x/\∀i∈HL x,i.1<b
def WD(b:Nat)(ρ:List (Nat×Nat))(x x':cD):Prop:=(x'=x/\cR b x)\/∃cs cs' rw g,x=.a cs rw g/\yw (kG b ρ 20) cs=some cs'/\x'=.a cs' rw g
theorem wv{b:Nat}{ρ:List (Nat×Nat)}{D':Nat->Prop}(h:Fl b ρ D D' m m'){o:Option Obj}(hr:fX D m l x o)(hx:cR b x):fX D' m' l x o:=by
 have lv:∀v,dh D m v->(∀i∈aC v,i.1<b)->aj m' v=aj m v/\dh D' m' v:=λv hv hb=>by
  have hs:∀i∈aC v,D' i.1/\m' i.1=m i.1:=λi hi=>h.a0 i.1 (hv i hi).1 (hb i hi);exact⟨ja v λi hi=>(hs i hi).2,λi hi=>⟨(hs i hi).1,by rw[(hs i hi).2];exact(hv i hi).2⟩⟩
 cases x with
 | b=>trivial
 | a cs rw g=>
   obtain⟨c,e,fz,hb,hc⟩:=hr;have hv:∀v∈cs,aj m' v=aj m v/\dh D' m' v:=λv hv=>lv v (df.1 hc.a0 v hv) λi hi=>hx.2 i (ga.2 ⟨v,hv,hi⟩);exact⟨c,e,fz,hb,⟨λi v hi=>by rw[hc.d0 i v hi,(hv v (List.mem_of_getElem? hi)).1],df.2 λv hm=>(hv v hm).2,hc.c0,hc.b0⟩⟩
 | f es=>
   obtain⟨en,ck,hb,he,ho⟩:=hr;have hv:∀e∈es,(aj m' e.1=aj m e.1/\dh D' m' e.1)/\(aj m' e.2=aj m e.2/\dh D' m' e.2):=λe hm=>
    ⟨lv e.1 (ho e hm).1 λi hi=>hx.2 i (List.mem_append.2 (.inl (ga.2 ⟨e.1,List.mem_map.2 ⟨e,hm,rfl⟩,hi⟩))),lv e.2 (ho e hm).2 λi hi=>hx.2 i (List.mem_append.2 (.inr (ga.2 ⟨e.2,List.mem_map.2 ⟨e,hm,rfl⟩,hi⟩)))⟩
   exact⟨en,ck,hb,he.trans (List.map_congr_left λe hm=>by grind),λe hm=>⟨(hv e hm).1.2,(hv e hm).2.2⟩⟩
 | d s p=>exact hr
 | c r=>exact absurd hx.1 (by nofun)
 | e=>exact hr
theorem OP{b:Nat}{ρ:List (Nat×Nat)}{D':Nat->Prop}(h:Fl b ρ D D' m m'){o:Option Obj}(hr:fX D m l x o)(hx:WD b ρ x x'):fX D' m' l x' o:=by
 rcases hx with⟨rfl,hl⟩|⟨cs,cs',rw',g,rfl,hm,rfl⟩
 . exact wv h hr hl
 . obtain⟨c,e,fz,hb,hc⟩:=hr;obtain⟨h1,h2⟩:=Ru h hm hc.a0;refine⟨c,e,fz,hb,⟨λi v hi=>?_,h2,hc.c0,hc.b0⟩⟩;have e2:(ap m cs)[i]? = some (aj m' v):=by grind [d_]
   rw[d_,List.getElem?_map]at e2;obtain⟨u,hu,e3⟩:=Option.map_eq_some_iff.1 e2;rw[hc.d0 i u hu,e3]
theorem Lq{b:Nat}{ρ:List (Nat×Nat)}(hx:WD b ρ x x'):oQ x'=oQ x/\Ep x'=Ep x:=by
 rcases hx with⟨rfl,_⟩|⟨cs,cs',rw',g,rfl,_,rfl⟩
 . simp
 . exact⟨rfl,rfl⟩
def Ns(C:bg):Prop:=∀id,id<C.lo->cR C.lo (gB C.B id)
def eM(lo:Nat):Nat->List Nat->List (Nat×Nat)
 | _,[]=>[]
 | j,s::ss=>(lo+s,lo+j)::eM lo (j+1) ss
theorem xE{lo:Nat}:∀{ss:List Nat} {j i k:Nat},xx (eM lo j ss) i=some k->∃t,t<ss.length/\i=lo+ss.getD t 0/\k=lo+(j+t)
 | [],j,i,k,h=>by cases h
 | s::ss,j,i,k,h=>by
   rw[eM,xx]at h;by_cases e:lo+s=i
   . rw[gm e,cond_true,zAb]at h;exact⟨0,by simp,by grind,by omega⟩
   . rw[ic e,cond_false]at h;obtain⟨t,h1,h2,h3⟩:=xE h;exact⟨t+1,by grind,by grind,by omega⟩
theorem oX(hK:qX cfg){kb:Nat}{sel:List Nat}{ts':Ts}{o':aB}(hlow:Ns C)(hkb:kb<=st.o.n)
 (hsel:∀s∈sel,kb<=s/\s<st.o.n) (hnd:sel.Nodup)
 (hle:∀p∈st.o.le,cR (C.lo+kb) p.2) (hle':o'.le=st.o.le) (hn:o'.n=kb+sel.length) (hlen:o'.os.length=o'.n)
 (hold:∀i,i<kb->o'.at i=st.o.at i/\cR (C.lo+kb) (st.o.at i))
 (hnew:∀t,t<sel.length->WD (C.lo+kb) (eM C.lo kb sel) (st.o.at (sel.getD t 0)) (o'.at (kb+t)))
 (hts:xB (kG (C.lo+kb) (eM C.lo kb sel) 20) st.ts=some ts') (hds:∀d∈st.ds,d<C.lo+kb) (hro:∀i,st.ro=some i->i<C.lo+kb) :
 Wk cfg C kb st λs=>s=⟨ts',st.tn,o',st.ds,st.ro⟩:=by
 intro D m a w hi ht;obtain⟨D',hD'⟩:∃D':Nat->Prop,D'=λid=>(id<C.lo+kb/\D id)\/∃t,t<sel.length/\id=C.lo+kb+t/\D (C.lo+sel.getD t 0):=⟨_,rfl⟩;obtain⟨m',hm'⟩:∃m':Nat->bv,m'=λid=>if id<C.lo+kb then m id else m (C.lo+sel.getD (id-(C.lo+kb)) 0):=⟨_,rfl⟩
 have mlow:∀i,i<C.lo+kb->m' i=m i:=λi h=>by grind
 have mnew:∀t,m' (C.lo+kb+t)=m (C.lo+sel.getD t 0):=λt=>by
  grind
 have ok:Fl (C.lo+kb) (eM C.lo kb sel) D D' m m':=by
  refine⟨λi hd hlt=>⟨by grind,mlow i hlt⟩,λi j hl hd=>?_⟩;grind [xE]
 have hselt:∀t,t<sel.length->kb<=sel.getD t 0/\sel.getD t 0<st.o.n:=λt h=>hsel _ η;have glow:∀i,i<C.lo+kb->fB C o' i=fB C st.o i/\cR (C.lo+kb) (fB C st.o i):=λi h=>by
  unfold fB gB;by_cases hc:C.lo<=i
  . grind [eK]
  . rw[jT hc,cond_false,cond_false,hle'];refine⟨rfl,?_⟩;simp only;have lw:cR (C.lo+kb) (gB C.B i):=⟨(hlow i δ).1,λj hj=>by have:=(hlow i δ).2 j hj;omega⟩;cases hx:fp st.o.le i with
    | none=>omega
    | some x=>
      have:∀le:List (Nat×cD),fp le i=some x->∃p∈le,p.2=x:=by
       intro le;induction le<;>grind [fp]
      grind
 have gnew:∀t,t<sel.length->WD (C.lo+kb) (eM C.lo kb sel) (fB C st.o (C.lo+sel.getD t 0)) (fB C o' (C.lo+kb+t)):=λt h=>by
  unfold fB gB;rw[eK.2 (by omega:C.lo<=C.lo+sel.getD t 0),eK.2 (by omega:C.lo<=C.lo+kb+t),cond_true,cond_true,show C.lo+sel.getD t 0-C.lo=sel.getD t 0 by omega,show C.lo+kb+t-C.lo=kb+t by omega];grind
 have inj:∀t u,t<sel.length->u<sel.length->sel.getD t 0=sel.getD u 0->t=u:=λt u h1 h2 e=>by
  grind [List.pairwise_iff_getElem]
 have src:∀i,D' i->∃j,D j/\m' i=m j/\oQ (fB C o' i)=oQ (fB C st.o j)/\Ep (fB C o' i)=Ep (fB C st.o j)/\((i<C.lo+kb/\j=i)\/∃t,t<sel.length/\i=C.lo+kb+t/\j=C.lo+sel.getD t 0):=λi h=>by
  rw[hD']at h;rcases h with⟨h1,h2⟩|⟨t,h1,rfl,h2⟩
  . exact⟨i,h2,mlow i h1,by rw[(glow i h1).1],by rw[(glow i h1).1],.inl ⟨h1,rfl⟩⟩
  . have:=Lq (gnew t h1);exact⟨_,h2,mnew t,this.1,this.2,.inr ⟨t,h1,rfl,rfl⟩⟩
 have hinv:dX cfg D' m' C o' w:=by
  refine⟨λi hd=>?_,λi j hdi hdj hij hl hr=>?_,λi hd=>?_,λg hg=>?_,λi hid=>?_,λi hid=>hi.le i (by rw[hle']at hid;exact hid),hi.lo,hlen⟩
  . rw[hD']at hd;rcases hd with⟨h1,h2⟩|⟨t,h1,rfl,h2⟩
    . rw[mlow i h1,(glow i h1).1];exact wv ok (hi.a0 i h2) (glow i h1).2
    . rw[mnew t];exact OP ok (hi.a0 _ h2) (gnew t h1)
  . obtain⟨i',di,ei,li,ri,ci⟩:=src i hdi;obtain⟨j',dj,ej,lj,rj,cj⟩:=src j hdj;rw[ei,ej];refine hi.inj i' j' di dj (λe=>hij ?_) (by rw[<-li];exact hl) (by rw[<-rj];exact hr);rcases ci with⟨c1,rfl⟩|⟨t,c1,rfl,rfl⟩<;>rcases cj with⟨d1,rfl⟩|⟨u,d1,rfl,rfl⟩
    . exact e
    . have:=hselt u d1;omega
    . have:=hselt t c1;omega
    . have:=inj t u c1 d1 δ;omega
  . rw[hD']at hd;rcases hd with⟨h1,h2⟩|⟨t,h1,rfl,h2⟩<;>omega
  . obtain⟨a1,a2,a3⟩:=hi.c0 g hg;have hlt:g<C.lo+kb:=by have:=hK.G;have:=hi.lo;omega
    exact⟨by rw[hD'];exact .inl ⟨hlt,a1⟩,by rw[mlow g hlt];exact a2,by rw[mlow g hlt];exact a3⟩
  . obtain⟨a1,a2⟩:=hi.b0 i hid;have hlt:i<C.lo+kb:=by have:=hi.lo;omega
    exact⟨by rw[hD'];exact .inl ⟨hlt,a1⟩,by rw[(glow i hlt).1];exact a2⟩
 refine⟨_,D',m',rfl,⟨ht.b0,λt=>?_,λt=>?_,?_,λd hd=>by rw[hD'];exact .inl ⟨hds d hd,ht.e0 d hd⟩,λi h=>by rw[hD'];exact .inl ⟨hro i h,ht.f0 i h⟩⟩,rfl,?_,hinv,λD0 m0 o0 w0 ho hl he=>?_⟩
 . have:=wx (f:=kG (C.lo+kb) (eM C.lo kb sel) 20) rfl t hts;rw[ht.d0 t];exact(tG ok this (ht.c0 t)).1.symm
 . have:=wx (f:=kG (C.lo+kb) (eM C.lo kb sel) 20) rfl t hts;exact(tG ok this (ht.c0 t)).2
 . rw[ht.a0];exact List.map_congr_left λd hd=>by rw[mlow d (hds d hd)]
 . cases hr:st.ro with
   | none=>rfl
   | some i=>simp only[wo,Option.map_some,mlow i (hro i hr)]
 . have low0:∀i,D0 i->i<C.lo+kb:=λi h=>by have:=hl i h;omega
   refine⟨hinv,λi h=>by rw[hD'];exact .inl ⟨low0 i h,he.g0 i h⟩,λi h=>by rw[mlow i (low0 i h)];exact he.a0 i h,λi h=>?_,by simp only;omega,he.os,he.j0,he.c0,he.i0,he.f0,by simp only[hle'];exact he.m0,λi h hn=>?_⟩
   . rw[hD']at h;rcases h with⟨h1,h2⟩|⟨t,h1,rfl,h2⟩
     . exact he.l0 i h2
     . exact .inr δ
   . rw[hD']at h;rcases h with⟨h1,h2⟩|⟨t,h1,rfl,h2⟩
     . rw[mlow i h1];exact he.e0 i h2 hn
     . rw[mnew t];have:=hselt t h1;exact he.e0 _ h2 λh0=>by have:=hl _ h0;omega
end
end Go.Ev
end
