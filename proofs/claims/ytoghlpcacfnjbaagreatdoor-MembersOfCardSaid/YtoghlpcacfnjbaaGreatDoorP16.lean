import Derived.Test.YtoghlpcacfnjbaaGreatDoorP15
set_option linter.all false
set_option maxRecDepth 100000
set_option maxHeartbeats 4000000
section
namespace Go.Ev
open Go Go.Proofs
variable{Q:AV->Prop}
def cK(a b c d:Int):Int:=if jb a c=0 then jb b d else jb a c
def Hg:dJ:=λargs=>match args with
 | [.agg [.int .i8 a,.int .i64 b],.agg [.int .i8 c,.int .i64 d]]=>some (.ret (.int .i64 (cK a b c d)))
 | _=>none
def a_(a b c d:Int):Int:=if cw a b=0/\cw c d=0 then(if 0<a\/c<0 then 4 else if 0<cK a b c d then 12 else 0)else 5
def O2:dJ:=λargs=>match args with
 | [.agg [.int .i8 a,.int .i64 b,.int .i8 c,.int .i64 d]]=>some (.ret (.int .i64 (a_ a b c d)))
 | _=>none
def S2:aR:=oC S1 56 Hg
def S3:aR:=oC S2 45 O2
def GU(a b c d e f g h:Int):Int:=if cK a b e f=0 then cK c d g h else cK a b e f
def tt(i j k l:Int):Prop:=cK k l i j<=0\/cw i j=0/\(i=0/\j<9223372036854775807/\k=0/\l=j+1\/i≠0/\i=k/\j=l)
instance {i j k l:Int}:Decidable (tt i j k l):=by unfold tt;infer_instance
def s7(a b c d e f g h:Int):Bool:=decide (a_ a b c d=0/\a_ e f g h=0/\(cK e f a b<0/\tt g h a b\/0<=cK e f a b/\tt c d e f))
def GV(n:Int):Prop:=-9223372036854775808<=n/\n<=9223372036854775807
def Xs(a b c d:Int):ask Q (lO tab cfg S1 1000 56 [vH a b,vH c d]) (.e (.e (.e (.e (.e (.e (.e (.e (.b .z (.e (.e (.e (.e (.e (.b .z (.e (.e .z)))))))))))))))))=((Bool.not (aa (jb a c) 0)->Q (AV.int .i64 (jb a c)))/\(Bool.not (aa (jb a c) 0)=false->((Bool.not (aa (jb b d) 0)->Q (AV.int .i64 (jb b d)))/\(Bool.not (aa (jb b d) 0)=false->Q (AV.int .i64 0))))):=by kernel_rfl
def w57(a b c d:Int):ask Q (lO tab cfg S2 1000 45 [kD a b c d]) (.e (.e (.b (.t (.e (.e (.t (.t (.f (.b .z (.e (.b (.t (.t (.e (.t (.f (.b .z (.e (.e (.e (.e (.b .z .z))))))))))) (.f (.f (.f (.t (.e .z)))))))))))))) (.f (.f (.f (.t (.e .z))))))))=((Bool.not (Bool.not (aa (cw a b) 0))->(Bool.not (Bool.not (aa (cw a b) 0))/\(Bool.not (Bool.not (aa (cw a b) 0))/\(Bool.not (Bool.not (aa (cw a b) 0))/\(Bool.not (aa (cw a b) 0)=false/\((Bool.not (aa (cw c d) 0)->Q (AV.int .i64 5))/\(Bool.not (aa (cw c d) 0)=false->((Bool.not (Bool.not (ab a 0))->(Bool.not (Bool.not (ab a 0))/\(Bool.not (Bool.not (ab a 0))/\(Bool.not (Bool.not (ab a 0))/\(Bool.not (ab a 0)=false/\((Bool.not (ab 0 c)->Q (AV.int .i64 4))/\(Bool.not (ab 0 c)=false->((Bool.not (ab (cK a b c d) 0)->Q (AV.int .i64 12))/\(Bool.not (ab (cK a b c d) 0)=false->Q (AV.int .i64 0))))))))))/\(Bool.not (Bool.not (ab a 0))=false->(Bool.not (Bool.not (ab a 0))=false/\(Bool.not (Bool.not (ab a 0))=false/\(Bool.not (Bool.not (ab a 0))=false/\(Bool.not (ab a 0)/\Q (AV.int .i64 4))))))))))))))/\(Bool.not (Bool.not (aa (cw a b) 0))=false->(Bool.not (Bool.not (aa (cw a b) 0))=false/\(Bool.not (Bool.not (aa (cw a b) 0))=false/\(Bool.not (Bool.not (aa (cw a b) 0))=false/\(Bool.not (aa (cw a b) 0)/\Q (AV.int .i64 5))))))):=by kernel_rfl
def XF(a b c d e f g h:Int):ask Q (lO tab cfg S2 1000 79 [kD a b c d,kD e f g h]) (.e (.e (.e (.e (.e (.e (.e (.e (.e (.e (.e (.e (.b .z (.e (.e (.e (.e (.e (.b .z (.e (.e .z)))))))))))))))))))))=((Bool.not (aa (cK a b e f) 0)->Q (AV.int .i64 (cK a b e f)))/\(Bool.not (aa (cK a b e f) 0)=false->((Bool.not (aa (cK c d g h) 0)->Q (AV.int .i64 (cK c d g h)))/\(Bool.not (aa (cK c d g h) 0)=false->Q (AV.int .i64 0))))):=by kernel_rfl
def Yh(a b c d e f g h:Int):ask Q (lO tab cfg S3 1000 80 [kD a b c d,kD e f g h]) (.e (.e (.e (.e (.e (.e (.e (.e (.e (.e (.e (.e (.b (.e (.e (.e (.e (.t (.t (.t (.b .z (.e (.e (.e (.e (.b (.e (.e (.e (.e (.e (.e (.e (.e (.e (.e (.e (.e (.e (.e (.b .z (.e (.e (.e (.e (.e (.e (.b (.t (.e (.t (.f (.b (.f (.e (.e (.e (.e (.e (.t (.e (.e (.t (.t (.e (.e (.t (.t .z))))))))))))))) (.e (.b (.e (.e (.e (.e (.e (.e (.e (.e (.e (.e (.e (.e (.e .z))))))))))))) (.b (.e (.e (.e (.e (.e (.e (.e (.e (.e (.e .z)))))))))) .z)))))))) (.f (.f (.t (.e (.t (.e (.e (.e (.e (.e (.e (.f (.f (.f (.f (.f .z)))))))))))))))))))))))))))))))))))))) (.e (.e (.e (.e (.b .z (.e (.e (.e (.e (.e (.e (.b (.t (.e (.t (.f (.b (.f (.e (.e (.e (.e (.e (.t (.e (.e (.t (.t (.e (.e (.t (.t .z))))))))))))))) (.e (.b (.e (.e (.e (.e (.e (.e (.e (.e (.e (.e (.e (.e (.e .z))))))))))))) (.b (.e (.e (.e (.e (.e (.e (.e (.e (.e (.e .z)))))))))) .z)))))))) (.f (.f (.t (.e (.t (.e (.e (.e (.e (.e (.e (.f (.f (.f (.f (.f .z))))))))))))))))))))))))))))))))))))))))) (.f (.f (.f (.e .z)))))))))))))))))=((aa (a_ a b c d) 0->(aa (a_ a b c d) 0/\(aa (a_ a b c d) 0/\(aa (a_ a b c d) 0/\((Bool.not (aa (a_ e f g h) 0)->Q (AV.bool Bool.false))/\(Bool.not (aa (a_ e f g h) 0)=false->((Bool.not (ab 0 (cK e f a b))->((ab (cK a b g h) 0->Q (AV.bool Bool.true))/\(ab (cK a b g h) 0=false->((Bool.not (Bool.not (aa (cw g h) 0))->(Bool.not (Bool.not (aa (cw g h) 0))/\(Bool.not (Bool.not (aa (cw g h) 0))/\(Bool.not (aa (cw g h) 0)=false/\((Bool.not (aa g 0)->(Bool.not (aa (cw g h) 0)=false/\(aa (cw g h) 0/\(aa (cw g h) 0/\(aa (cw g h) 0/\(aa (cw g h) 0/\(aa (cw g h) 0/\Q (AV.bool (Bool.and (aa g a) (Bool.and (aa h b) Bool.true))))))))))/\(Bool.not (aa g 0)=false->((ae .i64 (Int.add h 1)->Q (AV.bool (Bool.and (aa 0 a) (Bool.and (aa (Int.add h 1) b) Bool.true))))/\(ae .i64 (Int.add h 1)=false->((aa h 9223372036854775807->Q (AV.bool Bool.false))/\(aa h 9223372036854775807=false->False))))))))))/\(Bool.not (Bool.not (aa (cw g h) 0))=false->(Bool.not (Bool.not (aa (cw g h) 0))=false/\(Bool.not (Bool.not (aa (cw g h) 0))=false/\(Bool.not (aa (cw g h) 0)/\(Bool.not (aa (cw g h) 0)/\(aa (cw g h) 0=false/\(aa (cw g h) 0=false/\(aa (cw g h) 0=false/\(aa (cw g h) 0=false/\(aa (cw g h) 0=false/\Q (AV.bool Bool.false)))))))))))))))/\(Bool.not (ab 0 (cK e f a b))=false->((ab (cK e f c d) 0->Q (AV.bool Bool.true))/\(ab (cK e f c d) 0=false->((Bool.not (Bool.not (aa (cw c d) 0))->(Bool.not (Bool.not (aa (cw c d) 0))/\(Bool.not (Bool.not (aa (cw c d) 0))/\(Bool.not (aa (cw c d) 0)=false/\((Bool.not (aa c 0)->(Bool.not (aa (cw c d) 0)=false/\(aa (cw c d) 0/\(aa (cw c d) 0/\(aa (cw c d) 0/\(aa (cw c d) 0/\(aa (cw c d) 0/\Q (AV.bool (Bool.and (aa c e) (Bool.and (aa d f) Bool.true))))))))))/\(Bool.not (aa c 0)=false->((ae .i64 (Int.add d 1)->Q (AV.bool (Bool.and (aa 0 e) (Bool.and (aa (Int.add d 1) f) Bool.true))))/\(ae .i64 (Int.add d 1)=false->((aa d 9223372036854775807->Q (AV.bool Bool.false))/\(aa d 9223372036854775807=false->False))))))))))/\(Bool.not (Bool.not (aa (cw c d) 0))=false->(Bool.not (Bool.not (aa (cw c d) 0))=false/\(Bool.not (Bool.not (aa (cw c d) 0))=false/\(Bool.not (aa (cw c d) 0)/\(Bool.not (aa (cw c d) 0)/\(aa (cw c d) 0=false/\(aa (cw c d) 0=false/\(aa (cw c d) 0=false/\(aa (cw c d) 0=false/\(aa (cw c d) 0=false/\Q (AV.bool Bool.false))))))))))))))))))))))/\(aa (a_ a b c d) 0=false->(aa (a_ a b c d) 0=false/\(aa (a_ a b c d) 0=false/\(aa (a_ a b c d) 0=false/\Q (AV.bool Bool.false)))))):=by kernel_rfl
def Zw(a b c d:Int):ask Q (lO tab cfg gX 1000 52 [vH a b,vH c d]) (.e (.e (.b .z (.e (.e (.b .z (.e (.e (.b .z (.e (.e (.b .z .z))))))))))))=((Bool.not (ab c a)->Q (AV.int .i64 (Neg.neg 1)))/\(Bool.not (ab c a)=false->((Bool.not (ab a c)->Q (AV.int .i64 1))/\(Bool.not (ab a c)=false->((Bool.not (ab d b)->Q (AV.int .i64 (Neg.neg 1)))/\(Bool.not (ab d b)=false->((Bool.not (ab b d)->Q (AV.int .i64 1))/\(Bool.not (ab b d)=false->Q (AV.int .i64 0))))))))):=by kernel_rfl
def Yu(a b:Int):ask Q (lO tab cfg gX 1000 107 [vH a b]) (.e (.b .z (.b (.t (.e (.b .z .z))) (.b (.e (.b .z .z)) .z))))=((aa a 0->Q (AV.int .i64 0))/\(aa a 0=false->((aa a 1->(aa a 1/\((aa b 0->Q (AV.int .i64 0))/\(aa b 0=false->Q (AV.int .i64 5)))))/\(aa a 1=false->((aa a (Neg.neg 1)->((aa b 0->Q (AV.int .i64 0))/\(aa b 0=false->Q (AV.int .i64 5))))/\(aa a (Neg.neg 1)=false->Q (AV.int .i64 5))))))):=by kernel_rfl
theorem VI(a b c d:Int):gF Tryz.prog cfg 56 [vH a b,vH c d] (.int .i64 (cK a b c d)):=
 cF.ask Pa (n:=1000) (D:=_) (by rw[Xs];simp only[az,reduceCtorEq];(repeat' first|exact trivial|refine⟨?_,?_⟩|intro)<;>((try simp only[qP,eq_comm (a:=true),eq_comm (a:=false),cK]at *)<;>(repeat' split)<;>(first|omega|(simp_all;done)|(simp_all;omega))))
theorem Nl:jR Tryz.prog cfg 56 Hg:=by(intro args t v he hv;unfold Hg at he;split at he<;>first|(cases he;cases hv;apply VI;done)|(cases he;done))
theorem Fq:ak Tryz.prog cfg S2:=d7 Pa Nl
theorem ZN(a b c d:Int):gF Tryz.prog cfg 45 [kD a b c d] (.int .i64 (a_ a b c d)):=
 cF.ask Fq (n:=1000) (D:=_) (by rw[w57];simp only[az,reduceCtorEq];(repeat' first|exact trivial|refine⟨?_,?_⟩|intro)<;>((try simp only[qP,eq_comm (a:=true),eq_comm (a:=false),a_]at *)<;>(repeat' split)<;>(first|omega|(simp_all;done)|(simp_all;omega))))
theorem DH:jR Tryz.prog cfg 45 O2:=by(intro args t v he hv;unfold O2 at he;split at he<;>first|(cases he;cases hv;apply ZN;done)|(cases he;done))
theorem UZ(a b c d e f g h:Int):gF Tryz.prog cfg 79 [kD a b c d,kD e f g h] (.int .i64 (GU a b c d e f g h)):=
 cF.ask Fq (n:=1000) (D:=_) (by rw[XF];simp only[az,reduceCtorEq];(repeat' first|exact trivial|refine⟨?_,?_⟩|intro)<;>((try simp only[qP,eq_comm (a:=true),eq_comm (a:=false),GU]at *)<;>(repeat' split)<;>(first|omega|(simp_all;done)|(simp_all;omega))))
theorem O4:ak Tryz.prog cfg S3:=d7 Fq DH
theorem Uq(a b c d e f g h:Int)(hd:GV d)(hh:GV h):gF Tryz.prog cfg 80 [kD a b c d,kD e f g h] (.bool (s7 a b c d e f g h)):=by
 have hd:=hd;have hh:=hh
 unfold GV at hd hh;refine cF.ask O4 ((Yh ..).mpr ?_);simp only[az,reduceCtorEq]
 (repeat' first|exact trivial|refine⟨?_,?_⟩|intro)<;>first|omega|(first|omega|(rw[AV.bool.injEq,Bool.eq_iff_iff]<;>simp only[vx,JP,LA,al,ao,mr,AZ,DG,ay,bY,zAb,and_true,Bool.false_eq_true,true_iff,false_iff,iff_true,iff_false,s7]<;>(try simp only[tt])<;>first|omega|(simp_all;done)|(simp_all;omega)))
theorem WS(a b c d:Int):gF Tryz.prog cfg 52 [vH a b,vH c d] (.int .i64 (cK a b c d)):=
 cF.ask aV ((Zw ..).mpr (by simp only[az,reduceCtorEq];(repeat' first|exact trivial|refine⟨?_,?_⟩|intro)<;>((try simp only[qP,eq_comm (a:=true),eq_comm (a:=false),cK,jb]at *)<;>(repeat' split)<;>(first|omega|(simp_all;done)|(simp_all;omega)))))
theorem QM(a b:Int):gF Tryz.prog cfg 107 [vH a b] (.int .i64 (cw a b)):=
 cF.ask aV ((Yu ..).mpr (by simp only[az,reduceCtorEq];(repeat' first|exact trivial|refine⟨?_,?_⟩|intro)<;>((try simp only[qP,eq_comm (a:=true),eq_comm (a:=false),cw]at *)<;>(repeat' split)<;>(first|omega|(simp_all;done)|(simp_all;omega)))))
end Go.Ev
end
section
namespace Go.Ev
open Go
def XQ(T:fb)(cfg:cG)(S:aR)(n:Nat)(C:bg)(f:FuncId)(args:List AV)(o:aC):Tr AV:=
 rC T (cH cfg S) (sS S) false (rV T (cH cfg S) (sS S) n) C f args o λr=>.ret r.1
theorem xF.row{P:Program}{T:fb}{cfg:cG}(g:xF P T cfg){S:aR}(hS:ak P cfg S){n:Nat}{C:bg}{f:FuncId}{args:List AV}{o:aC}{Q:AV->Prop}{t:DT}(h:Ev.ask Q (XQ T cfg S n C f args o) t)
 {D:Nat->Prop} {m:Nat->bq} {w:World} (hi:dV cfg D m C o w) (hok:fN D m args) :
 ∃v o',Q v/\jX P f (ap m args).toArray w λV w'=>∃D' m',V=aj m' v/\db D' m' v/\dk cfg C D m o w D' m' o' w'/\(dw args (cfg.lend f)=[]->ni D w D' m' w'):=by
 have gg:=g.good hS;obtain⟨a,ha,hq⟩:=iv h;obtain⟨x,hx,hr⟩:=lQ (R:=AV) (inl:=false) (mX cfg S) (lH (mX cfg S) n) _ _ _ _ _ _ ha;cases hr;refine⟨x.1,x.2,hq,(Nu gg.tab gg.mixed gg.lv gg.orc gg.foot n C f args o x hx D m w (dV.to (cfg:=cfg) (cfg':=cH cfg S) rfl rfl hi) hok).mono ?_⟩;rintro V w' ⟨D',m',h1,h2,h3,h4⟩;exact⟨D',m',h1,h2,dk.to (cfg:=cH cfg S) (cfg':=cfg) rfl rfl h3,h4 trivial⟩
end Go.Ev
end
section
namespace Go.Ev
open Go Go.Proofs
def SQ:dJ:=λargs=>match args with
 | [.agg [.int .i8 a,.int .i64 b,.int .i8 c,.int .i64 d],.agg [.int .i8 e,.int .i64 f,.int .i8 g,.int .i64 h]]=>some (.ret (.int .i64 (GU a b c d e f g h)))
 | _=>none
def RE:dJ:=λargs=>match args with
 | [.agg [.int .i8 a,.int .i64 b,.int .i8 c,.int .i64 d],.agg [.int .i8 e,.int .i64 f,.int .i8 g,.int .i64 h]]=>some (fI (ae .i64 d) (fI (ae .i64 h) (.ret (.bool (s7 a b c d e f g h)))))
 | _=>none
def S4:aR:=oC (oC (oC (oC S3 79 SQ) 80 RE) 52 Hg) 107 HP
def S5:aR:=oC S4 60 O2
theorem FZ{a b:Int}:cw a b=0↔a=0\/(a=1\/a = -1)/\b=0:=by unfold cw;split<;>simp_all
theorem wH(a b:Int):a<b/\jb a b = -1\/a=b/\jb a b=0\/b<a/\jb a b=1:=by unfold jb;split<;>(try split)<;>omega
theorem wT(a b c d:Int):(a<c\/a=c/\b<d)/\cK a b c d = -1\/(a=c/\b=d)/\cK a b c d=0\/(c<a\/a=c/\d<b)/\cK a b c d=1:=by
 have h1:=wH a c;have h2:=wH b d;unfold cK;split<;>omega
def co(a b c d n:Int):Bool:=decide ((a = -1\/b<=n)/\(c=1\/n<=d))
def Q4:dJ:=λargs=>match args with
 | [.agg [.int .i8 a,.int .i64 b,.int .i8 c,.int .i64 d],.int .i64 n]=>some (.ret (.bool (co a b c d n)))
 | _=>none
def S6:aR:=oC S5 61 Q4
def S7:aR:=S6
def w64(a b c d:Int){Q:AV->Prop}:ask Q (lO tab cfg S4 1000 60 [kD a b c d]) (.e (.e (.b (.t (.e (.e (.t (.t (.f (.b .z (.e (.b (.t (.t (.e (.t (.f (.b .z (.e (.e (.e (.e (.b .z .z))))))))))) (.f (.f (.f (.t (.e .z)))))))))))))) (.f (.f (.f (.t (.e .z))))))))=((Bool.not (Bool.not (aa (cw a b) 0))->(Bool.not (Bool.not (aa (cw a b) 0))/\(Bool.not (Bool.not (aa (cw a b) 0))/\(Bool.not (Bool.not (aa (cw a b) 0))/\(Bool.not (aa (cw a b) 0)=false/\((Bool.not (aa (cw c d) 0)->Q (AV.int .i64 5))/\(Bool.not (aa (cw c d) 0)=false->((Bool.not (aa a 1)->(Bool.not (aa a 1)/\(Bool.not (aa a 1)/\(Bool.not (aa a 1)/\(aa a 1=false/\((aa c (Neg.neg 1)->Q (AV.int .i64 4))/\(aa c (Neg.neg 1)=false->((aa (cK a b c d) 1->Q (AV.int .i64 12))/\(aa (cK a b c d) 1=false->Q (AV.int .i64 0))))))))))/\(Bool.not (aa a 1)=false->(Bool.not (aa a 1)=false/\(Bool.not (aa a 1)=false/\(Bool.not (aa a 1)=false/\(aa a 1/\Q (AV.int .i64 4))))))))))))))/\(Bool.not (Bool.not (aa (cw a b) 0))=false->(Bool.not (Bool.not (aa (cw a b) 0))=false/\(Bool.not (Bool.not (aa (cw a b) 0))=false/\(Bool.not (Bool.not (aa (cw a b) 0))=false/\(Bool.not (aa (cw a b) 0)/\Q (AV.int .i64 5))))))):=by kernel_rfl
def YR(a b c d n:Int){Q:AV->Prop}:ask Q (lO tab cfg S4 1000 61 [kD a b c d,.int .i64 n]) (.e (.b (.t (.t (.e (.t (.t (.f (.b (.t (.t (.e (.t (.t (.b (.t (.t (.t (.e (.t (.t (.f (.t .z)))))))) (.f (.f (.f (.f (.t (.t (.t .z))))))))))))) (.f (.f (.f (.f (.e (.e (.e (.e (.e (.f (.f .z)))))))))))))))))) (.f (.f (.f (.f (.t (.e (.e (.e (.e (.e (.e (.b (.t (.t (.t (.e (.t (.e (.f (.e .z)))))))) (.f (.f (.f (.f (.e (.t (.e .z)))))))))))))))))))))=((Bool.not (aa a (Neg.neg 1))->(Bool.not (aa a (Neg.neg 1))/\(Bool.not (aa a (Neg.neg 1))/\(Bool.not (aa a (Neg.neg 1))/\(Bool.not (aa a (Neg.neg 1))/\(aa a (Neg.neg 1)=false/\((ab b n->(ab b n/\(ab b n/\(ab b n/\(ab b n/\((Bool.not (aa c 1)->(Bool.not (aa c 1)/\(Bool.not (aa c 1)/\(Bool.not (aa c 1)/\(Bool.not (aa c 1)/\(ab b n/\(aa c 1=false/\(ab b n/\Q (AV.bool (ab n d))))))))))/\(Bool.not (aa c 1)=false->(Bool.not (aa c 1)=false/\(Bool.not (aa c 1)=false/\(Bool.not (aa c 1)=false/\(Bool.not (aa c 1)=false/\(ab b n/\(aa c 1/\(ab b n/\Q (AV.bool Bool.true)))))))))))))))/\(ab b n=false->(ab b n=false/\(ab b n=false/\(ab b n=false/\(ab b n=false/\(ab b n=false/\(ab b n=false/\Q (AV.bool Bool.false)))))))))))))))/\(Bool.not (aa a (Neg.neg 1))=false->(Bool.not (aa a (Neg.neg 1))=false/\(Bool.not (aa a (Neg.neg 1))=false/\(Bool.not (aa a (Neg.neg 1))=false/\(Bool.not (aa a (Neg.neg 1))=false/\(aa a (Neg.neg 1)/\((Bool.not (aa c 1)->(Bool.not (aa c 1)/\(Bool.not (aa c 1)/\(Bool.not (aa c 1)/\(Bool.not (aa c 1)/\(aa c 1=false/\Q (AV.bool (ab n d))))))))/\(Bool.not (aa c 1)=false->(Bool.not (aa c 1)=false/\(Bool.not (aa c 1)=false/\(Bool.not (aa c 1)=false/\(Bool.not (aa c 1)=false/\(aa c 1/\Q (AV.bool Bool.true))))))))))))))):=by kernel_rfl
theorem MY:jR Tryz.prog cfg 79 SQ:=by(intro args t v he hv;unfold SQ at he;split at he<;>first|(cases he;cases hv;apply UZ;done)|(cases he;done))
theorem NY:jR Tryz.prog cfg 80 RE:=by
 intro args t v he hv;unfold RE at he;split at he
 . cases he;obtain⟨h1,hv⟩:=bE hv;obtain⟨h2,hv⟩:=bE hv;cases hv;exact Uq _ _ _ _ _ _ _ _ (aB.mp h1) (aB.mp h2)
 . cases he
theorem Mw:jR Tryz.prog cfg 52 Hg:=by(intro args t v he hv;unfold Hg at he;split at he<;>first|(cases he;cases hv;apply WS;done)|(cases he;done))
theorem NN:jR Tryz.prog cfg 107 HP:=by(intro args t v he hv;unfold HP at he;split at he<;>first|(cases he;cases hv;apply QM;done)|(cases he;done))
theorem Jq:ak Tryz.prog cfg S4:=d7 (d7 (d7 (d7 O4 MY) NY) Mw) NN
theorem ZX(a b c d:Int):gF Tryz.prog cfg 60 [kD a b c d] (.int .i64 (a_ a b c d)):=
 cF.ask Jq ((w64 ..).mpr (by
  have h1:=wT a b c d;have h2:=@FZ a b;have h3:=@FZ c d;simp only[az,reduceCtorEq];(repeat' first|exact trivial|refine⟨?_,?_⟩|intro)<;>((try simp only[qP,eq_comm (a:=true),eq_comm (a:=false),a_]at *)<;>(repeat' split)<;>(first|omega|(simp_all;done)|(simp_all;omega)))))
theorem P2:jR Tryz.prog cfg 60 O2:=by(intro args t v he hv;unfold O2 at he;split at he<;>first|(cases he;cases hv;apply ZX;done)|(cases he;done))
theorem Uw:ak Tryz.prog cfg S5:=d7 Jq P2
theorem Uy(a b c d n:Int):gF Tryz.prog cfg 61 [kD a b c d,.int .i64 n] (.bool (co a b c d n)):=
 cF.ask Jq ((YR ..).mpr (by simp only[az,reduceCtorEq];(repeat' first|exact trivial|refine⟨?_,?_⟩|intro)<;>(first|omega|(rw[AV.bool.injEq,Bool.eq_iff_iff]<;>simp only[vx,JP,LA,al,ao,mr,AZ,DG,ay,bY,zAb,and_true,Bool.false_eq_true,true_iff,false_iff,iff_true,iff_false,co]<;>(try simp only[])<;>first|omega|(simp_all;done)|(simp_all;omega)))))
theorem MB:jR Tryz.prog cfg 61 Q4:=by(intro args t v he hv;unfold Q4 at he;split at he<;>first|(cases he;cases hv;apply Uy;done)|(cases he;done))
theorem VN:ak Tryz.prog cfg S6:=d7 Uw MB
theorem tK:ak Tryz.prog cfg S7:=VN
end Go.Ev
end
section
namespace Go.Ev
open Go Go.RowKit
variable{c b:Code}{id k:Nat}{A:St->Prop}
def bO(P:Program)(cfg:cG)(C:bg)(c:Code)(st:St)(Q:AX×St->Prop):Prop:=
 ∀D m a w,dV cfg D m C st.o w->TR D m st a->∀K:Exit->Act->World->Prop,
  (∀r,Q r->r.2.ro=st.ro->∀D' m' a' w',TR D' m' r.2 a'->dk cfg C D m st.o w D' m' r.2.o w'->K (lE r.1) a' w')->c.wpIn (FR (vL m st.ro)) 0 P K a w
def pV(F:St->Prop)(Q:AX×St->Prop)(r:AX×St):Prop:=match r.1 with
 | .normal=>F r.2
 | _=>Q r
section
variable{P:Program}{cfg:cG}{C:bg}{st:St}{Q:AX×St->Prop}
theorem bO.mono{Q':AX×St->Prop}(h:bO P cfg C c st Q)(hq:∀r,Q r->Q' r):bO P cfg C c st Q':=λD m a w hi ht K hK=>h D m a w hi ht K λr hr=>hK r (hq r hr)
theorem Kd{T:fb}(g:mE P T cfg){n:Nat}{r:AX×St}(h:eT T cfg n C c st=some r)(hq:Q r):bO P cfg C c st Q:=λD m a w hi ht K hK=>
 (rg g.tab g.mixed g.lv g.orc g.foot n).1 C c st r h D m a w hi ht K λD' m' a' w' ht' he=>hK r hq (pC g.foot n C c st r h).2 D' m' a' w' ht' he
theorem M9{c1 c2:Code}(h:bO P cfg C c1 st (pV (λst'=>bO P cfg C c2 st' Q) Q)):bO P cfg C (.seq c1 c2) st Q:=by
 intro D m a w hi ht K hK;refine wpIn_seq (h D m a w hi ht _ λr hr hro D' m' a' w' ht' he=>?_);have fr:vL m' r.2.ro=vL m st.ro:=by rw[hro,qL ht.roD he.same]
 unfold pV at hr;cases hx:r.1 with
 | normal=>
   rw[hx]at hr;have:=hr D' m' a' w' he.inv ht' K λr2 hr2 hro2 D2 m2 a2 w2 ht2 he2=>hK r2 hr2 (hro2.trans hro) D2 m2 a2 w2 ht2 (he.trans he2);rw[fr]at this;exact this
 | exit id=>rw[hx]at hr;have:=hK r hr hro D' m' a' w' ht' he;rw[hx]at this;exact this
 | ret=>rw[hx]at hr;have:=hK r hr hro D' m' a' w' ht' he;rw[hx]at this;exact this
theorem H2(h:bO P cfg C b st λr=>Q (lx id r)):bO P cfg C (.block id b) st Q:=by
 intro D m a w hi ht K hK;refine wpIn_block (h D m a w hi ht _ λr hr hro D' m' a' w' ht' he=>?_);have hr:Q (lx id r):=hr;unfold lx at hr;cases hx:r.1 with
 | normal=>rw[hx]at hr;have:=hK r hr hro D' m' a' w' ht' he;rw[hx]at this;exact this
 | ret=>rw[hx]at hr;have:=hK r hr hro D' m' a' w' ht' he;rw[hx]at this;exact this
 | exit j=>
   rw[hx]at hr;simp only at hr;by_cases e:j=id
   . rw[gb e,cond_true]at hr;have:=hK _ hr hro D' m' a' w' ht' he;simpa [Exit.inBlock,e,lE]using this
   . rw[g7 e,cond_false]at hr;have:=hK _ hr hro D' m' a' w' ht' he;rw[hx]at this;simpa [Exit.inBlock,e,lE]using this
theorem He(h:bO P cfg C b st Q):bO P cfg C (.scope b) st Q:=by
 intro D m a w hi ht K hK;refine jU (h D m a w hi ht _ λr hr hro D' m' a' w' ht' he=>?_);have:=hK r hr hro D' m' a' w' ht' he;cases hre:r.1<;>rw[hre]at this<;>exact this
theorem KX(h:Q (.normal,st)):bO P cfg C .skip st Q:=λD m a w hi ht K hK=>wpIn_skip (hK _ h rfl D m a w ht (dk.refl hi))
theorem HE{l:Nat}(h:Q (.normal,st)):bO P cfg C (.label l) st Q:=λD m a w hi ht K hK=>wpIn_label (hK _ h rfl D m a w ht (dk.refl hi))
theorem Ly(h:Q (.exit id,st)):bO P cfg C (.exit id) st Q:=λD m a w hi ht K hK=>wpIn_exit (hK _ h rfl D m a w ht (dk.refl hi))
theorem M8(h:Q (.ret,st)):bO P cfg C .ret st Q:=λD m a w hi ht K hK=>wpIn_ret (hK _ h rfl D m a w ht (dk.refl hi))
theorem IT{x:Operand}{b:Bool}{c1 c2:Code}(hv:e9 cfg.G st.ts x=some (.bool b))(h1:b->bO P cfg C c1 st Q)(h2:b=false->bO P cfg C c2 st Q):bO P cfg C (.cond x c1 c2) st Q:=by
 intro D m a w hi ht K hK;obtain⟨e,_⟩:=mI hi ht hv;cases b with
 | true=>exact wpIn_cond_true (by rw[e];simp[aj]) (h1 rfl D m a w hi ht K hK)
 | false=>exact wpIn_cond_false (by rw[e];simp[aj]) (h2 rfl D m a w hi ht K hK)
def Wk(cfg:cG)(C:bg)(k:Nat)(st:St)(A:St->Prop):Prop:=
 ∀D m a w,dV cfg D m C st.o w->TR D m st a->∃st' D' m',A st'/\TR D' m' st' a/\st'.ro=st.ro/\vL m' st'.ro=vL m st.ro/\dV cfg D' m' C st'.o w/\
  ∀D0 m0 o0 w0,o0.n<=k->(∀i,D0 i->i<C.lo+o0.n)->dk cfg C D0 m0 o0 w0 D m st.o w->dk cfg C D0 m0 o0 w0 D' m' st'.o w
theorem Wk.mono{B:St->Prop}(h:Wk cfg C k st A)(hab:∀s,A s->B s):Wk cfg C k st B:=λD m a w hi ht=>by
 obtain⟨s,D',m',hA,h1⟩:=h D m a w hi ht;exact⟨s,D',m',hab s hA,h1⟩
theorem Wk.refl(h:A st):Wk cfg C k st A:=λD m a w hi ht=>⟨st,D,m,h,ht,rfl,rfl,hi,λ_ _ _ _ _ _ h=>h⟩
theorem Wk.trans{B:St->Prop}(h:Wk cfg C k st A)(hb:∀s,A s->Wk cfg C k s B):Wk cfg C k st B:=λD m a w hi ht=>by
 obtain⟨s,D1,m1,hA,h1,h2,h3,h4,h5⟩:=h D m a w hi ht;obtain⟨t,D2,m2,hB,k1,k2,k3,k4,k5⟩:=hb s hA D1 m1 a w h4 h1;exact⟨t,D2,m2,hB,k1,k2.trans h2,k3.trans h3,k4,λD0 m0 o0 w0 ho hl he=>k5 _ _ _ _ ho hl (h5 _ _ _ _ ho hl he)⟩
theorem Oo(h:Wk cfg C k st A)(hk:st.o.n<=k)(hs:∀s,A s->bO P cfg C c s Q):bO P cfg C c st Q:=by
 intro D m a w hi ht K hK;obtain⟨s,D1,m1,hA,h1,h2,h3,h4,h5⟩:=h D m a w hi ht;have:=hs s hA D1 m1 a w h4 h1 K λr hr hro D' m' a' w' ht' he=>hK r hr (hro.trans h2) D' m' a' w' ht' ((h5 _ _ _ _ hk hi.lt (dk.refl hi)).trans he);rw[h3]at this;exact this
theorem ID{Q':AX×St->Prop}(h:bO P cfg C c st Q')(hk:st.o.n<=k)(hw:∀r,Q' r->Wk cfg C k r.2 λs=>Q (r.1,s)):bO P cfg C c st Q:=by
 intro D m a w hi ht K hK;refine h D m a w hi ht K λr hr hro D' m' a' w' ht' he=>?_;obtain⟨s,D1,m1,hA,h1,h2,h3,h4,h5⟩:=hw r hr D' m' a' w' he.inv ht';exact hK (r.1,s) hA (h2.trans hro) D1 m1 a' w' h1 (h5 _ _ _ _ hk hi.lt he)
theorem I7{ι:Type}(μ:ι->Nat)(S:ι->St->Prop)(h0:Wk cfg C k st λs=>∃x,S x s)(hk:st.o.n<=k)
 (hr:∀x s,S x s->bO P cfg C b s (pV (λs'=>Wk cfg C k s' λs2=>∃y,μ y<μ x/\S y s2) Q)):bO P cfg C (.loop b) st Q:=by
 intro D m a w hi ht K hK;have key:∀n x s D1 m1 a1 w1,S x s->μ x<n->TR D1 m1 s a1->dk cfg C D m st.o w D1 m1 s.o w1->s.ro=st.ro->vL m1 s.ro=vL m st.ro->Code.roundsIn (FR (vL m st.ro)) 0 P b K n a1 w1:=by
  intro n;induction n with
  | zero=>intro x s D1 m1 a1 w1 _ h;omega
  | succ n ih=>
    intro x s D1 m1 a1 w1 hs hμ ht1 he1 hro1 hf1;rw[roundsIn_succ,<-hf1];refine hr x s hs D1 m1 a1 w1 he1.inv ht1 _ λr hq hro D2 m2 a2 w2 ht2 he2=>?_;rw[hf1];have he:=he1.trans he2;have fr:vL m2 r.2.ro=vL m st.ro:=by rw[hro,qL ht1.roD he2.same,hf1]
    unfold pV at hq;cases hx:r.1 with
    | normal=>
      rw[hx]at hq;obtain⟨s2,D3,m3,⟨y,hy,hS⟩,h1,h2,h3,h4,h5⟩:=hq D2 m2 a2 w2 he2.inv ht2;exact ih y s2 D3 m3 a2 w2 hS (by omega) h1 (h5 _ _ _ _ hk hi.lt he) (h2.trans (hro.trans hro1)) (h3.trans fr)
    | exit id=>rw[hx]at hq;have:=hK r hq (hro.trans hro1) D2 m2 a2 w2 ht2 he;rw[hx]at this;exact this
    | ret=>rw[hx]at hq;have:=hK r hq (hro.trans hro1) D2 m2 a2 w2 ht2 he;rw[hx]at this;exact this
 obtain⟨s,D1,m1,⟨x,hS⟩,h1,h2,h3,h4,h5⟩:=h0 D m a w hi ht;exact wpIn_loop_rounds (μ x+1) (key _ x s D1 m1 a w hS (Nat.lt_succ_self _) h1 (h5 _ _ _ _ hk hi.lt (dk.refl hi)) h2 h3)
end
section
variable{P:Program}{T:fb}(hT:fF P T){cfg:cG}
include hT
theorem GO{f:FuncId}{fn:Func}(hb:bh T f=some (fn,c)){C:bg}{D:Nat->Prop}{m:Nat->bq}{args:List AV}{o0:aC}{w:World}(hlen:args.length<=1000){R:AV×aC->Prop}
 (h:bO P cfg C c (jH fn args o0) λx=>∃r,vJ T C fn x=some r/\R r)
 (hi:dV cfg D m C o0 w) (hok:fN D m args) {RR:Value->World->Prop} (hR:∀r D' m' w',R r->db D' m' r.1->dk cfg C D m o0 w D' m' r.2 w'->RR (aj m' r.1) w') :
 (callFunc f (ap m args).toArray).run P w=.ok (.enter f (ap m args).toArray) w/\Calls P f (ap m args).toArray w λe w'=>∃v,e=.returned v/\RR v w':=by
 simp only[bh,ai,zAc,Prod.mk.injEq]at hb;obtain⟨fn',hfn,c',hbody,rfl,rfl⟩:=hb;obtain⟨hf,hname⟩:=hT.fn f fn' hfn;refine⟨by simp[callFunc,hf,hname,hbody],callsIn_wide.1 (callsIn_of_wp_marks (n:=0) hf hbody trivial ?_)⟩;refine h D m _ w hi (CT hT hlen hok) _ λx hx hro D' m' a' w' ht he=>?_;obtain⟨r,hend,hRr⟩:=hx;have this:LeavesInM Fence.wide 0 P fn' a'.tmps (λe w''=>∃v,e=.returned v/\RR v w'') a'.defers .returning w'/\∀id,x.1≠.exit id:=by
  unfold vJ at hend;split at hend
  . cases hend
  . rename_i hne;simp only[ai,zAc]at hend;obtain⟨o,hmk,vs,hres,rfl⟩:=hend;refine⟨?_,λid e=>hne id e⟩;rw[ht.defers];refine sP hmk he.inv ht.dsD λw2 he2=>?_;have ht2:TR D' m' ⟨x.2.ts,x.2.tn,o,[],none⟩ ⟨a'.tmps,[]⟩:=⟨ht.size,ht.at',ht.okt,rfl,λd hd=>(by cases hd),λi hi=>(by cases hi)⟩;obtain⟨h1,h2⟩:=wW hT he2.inv ht2 hres;exact⟨_,h1,_,rfl,hR _ D' m' w2 hRr h2 (he.trans he2)⟩
 cases hxe:x.1 with
 | normal=>exact this.1
 | ret=>exact this.1
 | exit id=>exact absurd hxe (this.2 id)
end
end Go.Ev
end
