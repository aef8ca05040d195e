import Derived.Test.YtafekjglclnegaaGreatDoorP16
set_option linter.all false
section
namespace Go.Ev
open Go Go.Proofs
def LN:dM:=λargs=>match args with
 | [.agg [.int .i8 a,.int .i64 b,.int .i8 c,.int .i64 d],.agg [.int .i8 e,.int .i64 f,.int .i8 g,.int .i64 h]]=>some (.ret (.int .i64 (BV a b c d e f g h)))
 | _=>none
def LV:dM:=λargs=>match args with
 | [.agg [.int .i8 a,.int .i64 b,.int .i8 c,.int .i64 d],.agg [.int .i8 e,.int .i64 f,.int .i8 g,.int .i64 h]]=>some (eh (ae .i64 d) (eh (ae .i64 h) (.ret (.bool (pz a b c d e f g h)))))
 | _=>none
def S4:bq:=j1 (j1 (j1 (j1 S3 105 LN) 112 LV) 117 CI) 120 Cc
def S5:bq:=j1 S4 64 J9
theorem AQ{a b:Int}:cu a b=0↔a=0\/(a=1\/a = -1)/\b=0:=by unfold cu;split<;>simp_all
theorem sg(a b:Int):a<b/\iS a b = -1\/a=b/\iS a b=0\/b<a/\iS a b=1:=by unfold iS;split<;>(try split)<;>omega
theorem sG(a b c d:Int):(a<c\/a=c/\b<d)/\eH a b c d = -1\/(a=c/\b=d)/\eH a b c d=0\/(c<a\/a=c/\d<b)/\eH a b c d=1:=by
 have h1:=sg a c
 have h2:=sg b d
 unfold eH;split<;>omega
def DP(a b c d n:Int):Bool:=decide ((a = -1\/b<=n)/\(c=1\/n<=d))
def NO:dM:=λargs=>match args with
 | [.agg [.int .i8 a,.int .i64 b,.int .i8 c,.int .i64 d],.int .i64 n]=>some (.ret (.bool (DP a b c d n)))
 | _=>none
def S6:bq:=j1 S5 300 NO
def jp(a b c d e f:Int):Bool:=decide (e = -1/\a = -1\/e≠-1/\DP a b c d f=true)
def LE:dM:=λargs=>match args with
 | [.agg [.int .i8 a,.int .i64 b,.int .i8 c,.int .i64 d],.agg [.int .i8 e,.int .i64 f,.int .i8 g,.int .i64 h]]=>some (.ret (.bool (jp a b c d e f)))
 | _=>none
def nH(c d e f:Int):Bool:=decide (c=0/\e=0/\d<9223372036854775807/\d+1=f)
def K3:dM:=λargs=>match args with
 | [.agg [.int .i8 a,.int .i64 b,.int .i8 c,.int .i64 d],.agg [.int .i8 e,.int .i64 f,.int .i8 g,.int .i64 h]]=>some (eh (ae .i64 d) (.ret (.bool (nH c d e f))))
 | _=>none
def S7:bq:=j1 (j1 S6 237 LE) 184 K3
def Lh(a b c d e f g h:Int):Bool:=decide (jp a b c d e f=true\/jp e f g h a b=true\/nH c d e f=true\/nH g h a b=true)
def NQ:dM:=λargs=>match args with
 | [.agg [.int .i8 a,.int .i64 b,.int .i8 c,.int .i64 d],.agg [.int .i8 e,.int .i64 f,.int .i8 g,.int .i64 h]]=>some (eh (ae .i64 d) (eh (ae .i64 h) (.ret (.bool (Lh a b c d e f g h)))))
 | _=>none
theorem Yh(a b c d:Int){Q:AV->Prop}:ask Q (iu tab cfg S4 1000 64 [e8 a b c d]) (.e (.e (.b (.t (.e (.e (.t (.t (.f (.b .z (.e (.b (.t (.t (.e (.t (.f (.b .z (.e (.e (.e (.e (.b .z .z))))))))))) (.f (.f (.f (.t (.e .z)))))))))))))) (.f (.f (.f (.t (.e .z))))))))=((Bool.not (Bool.not (aa (cu a b) 0))=true->(Bool.not (Bool.not (aa (cu a b) 0))=true/\(Bool.not (Bool.not (aa (cu a b) 0))=true/\(Bool.not (Bool.not (aa (cu a b) 0))=true/\(Bool.not (aa (cu a b) 0)=false/\((Bool.not (aa (cu c d) 0)=true->Q (AV.int .i64 5))/\(Bool.not (aa (cu c d) 0)=false->((Bool.not (aa a 1)=true->(Bool.not (aa a 1)=true/\(Bool.not (aa a 1)=true/\(Bool.not (aa a 1)=true/\(aa a 1=false/\((aa c (Neg.neg 1)=true->Q (AV.int .i64 4))/\(aa c (Neg.neg 1)=false->((aa (eH a b c d) 1=true->Q (AV.int .i64 12))/\(aa (eH a b c d) 1=false->Q (AV.int .i64 0))))))))))/\(Bool.not (aa a 1)=false->(Bool.not (aa a 1)=false/\(Bool.not (aa a 1)=false/\(Bool.not (aa a 1)=false/\(aa a 1=true/\Q (AV.int .i64 4))))))))))))))/\(Bool.not (Bool.not (aa (cu a b) 0))=false->(Bool.not (Bool.not (aa (cu a b) 0))=false/\(Bool.not (Bool.not (aa (cu a b) 0))=false/\(Bool.not (Bool.not (aa (cu a b) 0))=false/\(Bool.not (aa (cu a b) 0)=true/\Q (AV.int .i64 5))))))):=by kernel_rfl
theorem WN(a b c d n:Int){Q:AV->Prop}:ask Q (iu tab cfg S4 1000 300 [e8 a b c d,.int .i64 n]) (.e (.b (.t (.t (.e (.t (.t (.f (.b (.t (.t (.e (.t (.t (.b (.t (.t (.t (.e (.t (.t (.f (.t .z)))))))) (.f (.f (.f (.f (.t (.t (.t .z))))))))))))) (.f (.f (.f (.f (.e (.e (.e (.e (.e (.f (.f .z)))))))))))))))))) (.f (.f (.f (.f (.t (.e (.e (.e (.e (.e (.e (.b (.t (.t (.t (.e (.t (.e (.f (.e .z)))))))) (.f (.f (.f (.f (.e (.t (.e .z)))))))))))))))))))))=((Bool.not (aa a (Neg.neg 1))=true->(Bool.not (aa a (Neg.neg 1))=true/\(Bool.not (aa a (Neg.neg 1))=true/\(Bool.not (aa a (Neg.neg 1))=true/\(Bool.not (aa a (Neg.neg 1))=true/\(aa a (Neg.neg 1)=false/\((ab b n=true->(ab b n=true/\(ab b n=true/\(ab b n=true/\(ab b n=true/\((Bool.not (aa c 1)=true->(Bool.not (aa c 1)=true/\(Bool.not (aa c 1)=true/\(Bool.not (aa c 1)=true/\(Bool.not (aa c 1)=true/\(ab b n=true/\(aa c 1=false/\(ab b n=true/\Q (AV.bool (ab n d))))))))))/\(Bool.not (aa c 1)=false->(Bool.not (aa c 1)=false/\(Bool.not (aa c 1)=false/\(Bool.not (aa c 1)=false/\(Bool.not (aa c 1)=false/\(ab b n=true/\(aa c 1=true/\(ab b n=true/\Q (AV.bool Bool.true)))))))))))))))/\(ab b n=false->(ab b n=false/\(ab b n=false/\(ab b n=false/\(ab b n=false/\(ab b n=false/\(ab b n=false/\Q (AV.bool Bool.false)))))))))))))))/\(Bool.not (aa a (Neg.neg 1))=false->(Bool.not (aa a (Neg.neg 1))=false/\(Bool.not (aa a (Neg.neg 1))=false/\(Bool.not (aa a (Neg.neg 1))=false/\(Bool.not (aa a (Neg.neg 1))=false/\(aa a (Neg.neg 1)=true/\((Bool.not (aa c 1)=true->(Bool.not (aa c 1)=true/\(Bool.not (aa c 1)=true/\(Bool.not (aa c 1)=true/\(Bool.not (aa c 1)=true/\(aa c 1=false/\Q (AV.bool (ab n d))))))))/\(Bool.not (aa c 1)=false->(Bool.not (aa c 1)=false/\(Bool.not (aa c 1)=false/\(Bool.not (aa c 1)=false/\(Bool.not (aa c 1)=false/\(aa c 1=true/\Q (AV.bool Bool.true))))))))))))))):=by kernel_rfl
theorem Vy(a b c d e f g h:Int){Q:AV->Prop}:ask Q (iu tab cfg S6 1000 237 [e8 a b c d,e8 e f g h]) (.e (.b (.e .z) (.e (.e (.e (.e (.e .z)))))))=((aa e (Neg.neg 1)=true->Q (AV.bool (aa a (Neg.neg 1))))/\(aa e (Neg.neg 1)=false->Q (AV.bool (DP a b c d f)))):=by kernel_rfl
theorem WR(a b c d e f g h:Int)(hd : -9223372036854775808<=d/\d<=9223372036854775807){Q:AV->Prop}:ask Q (iu tab cfg S4 1000 184 [e8 a b c d,e8 e f g h]) (.e (.b (.t (.t (.e (.t (.t (.b (.t (.t (.e (.t (.t (.b (.t (.t (.e (.t (.t (.t (.t (.t (.e (.t (.t .z))))))))))) (.f (.f (.f (.f (.f (.f (.f (.f .z)))))))))))))) (.f (.f (.f (.f (.e (.e (.e (.e (.e (.e (.e (.e (.e .z))))))))))))))))))) (.f (.f (.f (.f (.e (.e (.e (.e (.e (.e (.e (.e (.e (.e (.e (.e (.e (.e .z))))))))))))))))))))=((aa c 0=true->(aa c 0=true/\(aa c 0=true/\(aa c 0=true/\(aa c 0=true/\((aa e 0=true->(aa e 0=true/\(aa e 0=true/\(aa e 0=true/\(aa e 0=true/\((Bool.not (ab 9223372036854775807 d)=true->(Bool.not (ab 9223372036854775807 d)=true/\(Bool.not (ab 9223372036854775807 d)=true/\(Bool.not (ab 9223372036854775807 d)=true/\(ae .i64 (Int.add d 1)=true/\(Bool.not (ab 9223372036854775807 d)=true/\(Bool.not (ab 9223372036854775807 d)=true/\(Bool.not (ab 9223372036854775807 d)=true/\(Bool.not (ab 9223372036854775807 d)=true/\(Bool.not (ab 9223372036854775807 d)=true/\Q (AV.bool (aa (Int.add d 1) f))))))))))))/\(Bool.not (ab 9223372036854775807 d)=false->(Bool.not (ab 9223372036854775807 d)=false/\(Bool.not (ab 9223372036854775807 d)=false/\(Bool.not (ab 9223372036854775807 d)=false/\(Bool.not (ab 9223372036854775807 d)=false/\(Bool.not (ab 9223372036854775807 d)=false/\(Bool.not (ab 9223372036854775807 d)=false/\(Bool.not (ab 9223372036854775807 d)=false/\(Bool.not (ab 9223372036854775807 d)=false/\Q (AV.bool Bool.false))))))))))))))))/\(aa e 0=false->(aa e 0=false/\(aa e 0=false/\(aa e 0=false/\(aa e 0=false/\Q (AV.bool Bool.false))))))))))))/\(aa c 0=false->(aa c 0=false/\(aa c 0=false/\(aa c 0=false/\(aa c 0=false/\Q (AV.bool Bool.false))))))):=by kernel_rfl
theorem WQ(a b c d e f g h:Int)(hd : -9223372036854775808<=d/\d<=9223372036854775807)(hh : -9223372036854775808<=h/\h<=9223372036854775807){Q:AV->Prop}:ask Q (iu tab cfg S7 1000 118 [e8 a b c d,e8 e f g h]) (.e (.e (.e (.e (.e (.e (.e (.e (.e (.e (.e (.e (.e (.e (.e (.e (.b (.e (.e (.e (.e (.t (.e (.e (.e (.e (.t (.f (.b (.e (.e (.e (.e (.t (.e (.e (.e (.e (.t (.t (.f (.b (.e (.e (.e (.e (.t (.e (.e (.e (.e (.t (.t (.f .z)))))))))))) (.f (.f (.t .z)))))))))))))))) (.f (.f (.t (.e (.e (.e (.e .z))))))))))))))))))) (.f (.f (.t (.e (.e (.e (.e (.e (.e (.e (.e .z))))))))))))))))))))))))))))=((Bool.not (jp a b c d e f)=true->(Bool.not (jp a b c d e f)=true/\(Bool.not (jp a b c d e f)=true/\(jp a b c d e f=false/\((Bool.not (jp e f g h a b)=true->(Bool.not (jp e f g h a b)=true/\(Bool.not (jp e f g h a b)=true/\(ae .i64 d=true/\(jp e f g h a b=false/\((Bool.not (nH c d e f)=true->(Bool.not (nH c d e f)=true/\(Bool.not (nH c d e f)=true/\(ae .i64 h=true/\(nH c d e f=false/\Q (AV.bool (nH g h a b)))))))/\(Bool.not (nH c d e f)=false->(Bool.not (nH c d e f)=false/\(Bool.not (nH c d e f)=false/\(nH c d e f=true/\Q (AV.bool Bool.true)))))))))))/\(Bool.not (jp e f g h a b)=false->(Bool.not (jp e f g h a b)=false/\(Bool.not (jp e f g h a b)=false/\(jp e f g h a b=true/\Q (AV.bool Bool.true))))))))))/\(Bool.not (jp a b c d e f)=false->(Bool.not (jp a b c d e f)=false/\(Bool.not (jp a b c d e f)=false/\(jp a b c d e f=true/\Q (AV.bool Bool.true)))))):=by kernel_rfl
theorem I3:gM Tryz.prog cfg 105 LN:=by(intro args t v he hv;unfold LN at he;split at he<;>first|(cases he;cases hv;apply QB;done)|(cases he;done))
theorem Jx:gM Tryz.prog cfg 112 LV:=by
 intro args t v he hv
 unfold LV at he
 split at he
 · cases he
   obtain⟨h1,hv⟩:=bu hv
   obtain⟨h2,hv⟩:=bu hv
   cases hv
   exact TF _ _ _ _ _ _ _ _ (aQ.mp h1) (aQ.mp h2)
 · cases he
theorem Jr:gM Tryz.prog cfg 117 CI:=by(intro args t v he hv;unfold CI at he;split at he<;>first|(cases he;cases hv;apply Tj;done)|(cases he;done))
theorem I7:gM Tryz.prog cfg 120 Cc:=by(intro args t v he hv;unfold Cc at he;split at he<;>first|(cases he;cases hv;apply NY;done)|(cases he;done))
theorem AI:az Tryz.prog cfg S4:=dr (dr (dr (dr JN I3) Jx) Jr) I7
theorem X8(a b c d:Int):ey Tryz.prog cfg 64 [e8 a b c d] (.int .i64 (bH a b c d)):=
 cV.ask AI ((Yh ..).mpr (by
  have h1:=sG a b c d
  have h2:=@AQ a b
  have h3:=@AQ c d
  simp only[aD,reduceCtorEq,bA,bB,ne_eq];(repeat' first|exact trivial|refine⟨?_,?_⟩|intro)<;>((try simp only[nE,eq_comm (a:=true),eq_comm (a:=false),bH]at *)<;>(repeat' split)<;>(first|omega|(simp_all;done)|(simp_all;omega)))))
theorem LF:gM Tryz.prog cfg 64 J9:=by(intro args t v he hv;unfold J9 at he;split at he<;>first|(cases he;cases hv;apply X8;done)|(cases he;done))
theorem Px:az Tryz.prog cfg S5:=dr AI LF
theorem O6(a b c d n:Int):ey Tryz.prog cfg 300 [e8 a b c d,.int .i64 n] (.bool (DP a b c d n)):=
 cV.ask AI ((WN ..).mpr (by simp only[aD,reduceCtorEq,bA,bB,ne_eq];(repeat' first|exact trivial|refine⟨?_,?_⟩|intro)<;>(first|omega|(rw[AV.bool.injEq,Bool.eq_iff_iff]<;>simp only[kP,vv,tZ,aS,aK,iK,lT,pf,aF,dc,decide_eq_true_eq,and_true,Bool.false_eq_true,true_iff,false_iff,iff_true,iff_false,DP]<;>(try simp only[])<;>first|omega|(simp_all;done)|(simp_all;omega)))))
theorem II:gM Tryz.prog cfg 300 NO:=by(intro args t v he hv;unfold NO at he;split at he<;>first|(cases he;cases hv;apply O6;done)|(cases he;done))
theorem JX:az Tryz.prog cfg S6:=dr Px II
theorem Rv(a b c d e f g h:Int):ey Tryz.prog cfg 237 [e8 a b c d,e8 e f g h] (.bool (jp a b c d e f)):=
 cV.ask JX ((Vy ..).mpr (by simp only[aD,reduceCtorEq,bA,bB,ne_eq];(repeat' first|exact trivial|refine⟨?_,?_⟩|intro)<;>(first|omega|(rw[AV.bool.injEq,Bool.eq_iff_iff]<;>simp only[kP,vv,tZ,aS,aK,iK,lT,pf,aF,dc,decide_eq_true_eq,and_true,Bool.false_eq_true,true_iff,false_iff,iff_true,iff_false,jp]<;>(try simp only[])<;>first|omega|(simp_all;done)|(simp_all;omega)))))
theorem Ic:gM Tryz.prog cfg 237 LE:=by(intro args t v he hv;unfold LE at he;split at he<;>first|(cases he;cases hv;apply Rv;done)|(cases he;done))
theorem Qt(a b c d e f g h:Int)(hd : -9223372036854775808<=d/\d<=9223372036854775807):ey Tryz.prog cfg 184 [e8 a b c d,e8 e f g h] (.bool (nH c d e f)):=
 cV.ask AI ((WR (hd:=hd) ..).mpr (by simp only[aD,reduceCtorEq,bA,bB,ne_eq];(repeat' first|exact trivial|refine⟨?_,?_⟩|intro)<;>(first|omega|(rw[AV.bool.injEq,Bool.eq_iff_iff]<;>simp only[kP,vv,tZ,aS,aK,iK,lT,pf,aF,dc,decide_eq_true_eq,and_true,Bool.false_eq_true,true_iff,false_iff,iff_true,iff_false,nH]<;>(try simp only[])<;>first|omega|(simp_all;done)|(simp_all;omega)))))
theorem Je:gM Tryz.prog cfg 184 K3:=by
 intro args t v he hv
 unfold K3 at he
 split at he
 · cases he
   obtain⟨h1,hv⟩:=bu hv
   cases hv
   exact Qt _ _ _ _ _ _ _ _ (aQ.mp h1)
 · cases he
theorem n6:az Tryz.prog cfg S7:=dr (dr JX Ic) Je
theorem QT(a b c d e f g h:Int)(hd : -9223372036854775808<=d/\d<=9223372036854775807)(hh : -9223372036854775808<=h/\h<=9223372036854775807):ey Tryz.prog cfg 118 [e8 a b c d,e8 e f g h] (.bool (Lh a b c d e f g h)):=
 cV.ask n6 ((WQ (hd:=hd) (hh:=hh) ..).mpr (by simp only[aD,reduceCtorEq,bA,bB,ne_eq];(repeat' first|exact trivial|refine⟨?_,?_⟩|intro)<;>(first|omega|(rw[AV.bool.injEq,Bool.eq_iff_iff]<;>simp only[kP,vv,tZ,aS,aK,iK,lT,pf,aF,dc,decide_eq_true_eq,and_true,Bool.false_eq_true,true_iff,false_iff,iff_true,iff_false,Lh]<;>(try simp only[])<;>first|omega|(simp_all;done)|(simp_all;omega)))))
theorem Iz:gM Tryz.prog cfg 118 NQ:=by
 intro args t v he hv
 unfold NQ at he
 split at he
 · cases he
   obtain⟨h1,hv⟩:=bu hv
   obtain⟨h2,hv⟩:=bu hv
   cases hv
   exact QT _ _ _ _ _ _ _ _ (aQ.mp h1) (aQ.mp h2)
 · cases he
end Go.Ev
end
section
namespace Go.Ev
open Go Go.RowKit
def bJ(P:Program)(cfg:cx)(C:bg)(c:Code)(st:St)(Q:AX×St->Prop):Prop:=
 ∀D m a w,dQ cfg D m C st.o w->TR D m st a->∀K:Exit->Act->World->Prop,
  (∀r,Q r->r.2.ro=st.ro->∀D' m' a' w',TR D' m' r.2 a'->dk cfg C D m st.o w D' m' r.2.o w'->K (jz r.1) a' w')->c.wpIn (FR (qk m st.ro)) 0 P K a w
def mK(F:St->Prop)(Q:AX×St->Prop)(r:AX×St):Prop:=match r.1 with
 | .normal=>F r.2
 | _=>Q r
section
variable{P:Program}{cfg:cx}{C:bg}{st:St}{Q:AX×St->Prop}
theorem bJ.mono{c:Code}{Q':AX×St->Prop}(h:bJ P cfg C c st Q)(hq:∀r,Q r->Q' r):bJ P cfg C c st Q':=λD m a w hi ht K hK=>h D m a w hi ht K λr hr=>hK r (hq r hr)
theorem De{T:eA}(g:fV P T cfg){n:Nat}{c:Code}{r:AX×St}(h:ec T cfg n C c st=some r)(hq:Q r):bJ P cfg C c st Q:=λD m a w hi ht K hK=>
 (qv g.tab g.mixed g.lv g.orc g.foot n).1 C c st r h D m a w hi ht K λD' m' a' w' ht' he=>hK r hq (nR g.foot n C c st r h).2 D' m' a' w' ht' he
theorem HR{c1 c2:Code}(h:bJ P cfg C c1 st (mK (λst'=>bJ P cfg C c2 st' Q) Q)):bJ P cfg C (.seq c1 c2) st Q:=by
 intro D m a w hi ht K hK
 refine wpIn_seq (h D m a w hi ht _ λr hr hro D' m' a' w' ht' he=>?_)
 have fr:qk m' r.2.ro=qk m st.ro:=by rw[hro,ot ht.roD he.same]
 unfold mK at hr
 cases hx:r.1 with
 | normal=>
   rw[hx]at hr
   have:=hr D' m' a' w' he.inv ht' K λr2 hr2 hro2 D2 m2 a2 w2 ht2 he2=>hK r2 hr2 (hro2.trans hro) D2 m2 a2 w2 ht2 (he.trans he2)
   rw[fr]at this
   exact this
 | exit id=>rw[hx]at hr;have:=hK r hr hro D' m' a' w' ht' he;rw[hx]at this;exact this
 | ret=>rw[hx]at hr;have:=hK r hr hro D' m' a' w' ht' he;rw[hx]at this;exact this
theorem CJ{id:Nat}{b:Code}(h:bJ P cfg C b st λr=>Q (jA id r)):bJ P cfg C (.block id b) st Q:=by
 intro D m a w hi ht K hK
 refine wpIn_block (h D m a w hi ht _ λr hr hro D' m' a' w' ht' he=>?_)
 have hr:Q (jA id r):=hr
 unfold jA at hr
 cases hx:r.1 with
 | normal=>rw[hx]at hr;have:=hK r hr hro D' m' a' w' ht' he;rw[hx]at this;exact this
 | ret=>rw[hx]at hr;have:=hK r hr hro D' m' a' w' ht' he;rw[hx]at this;exact this
 | exit j=>
   rw[hx]at hr
   simp only at hr
   by_cases e:j=id
   · rw[dI e,cond_true]at hr
     have:=hK _ hr hro D' m' a' w' ht' he
     simpa [Exit.inBlock,e,jz]using this
   · rw[iH e,cond_false]at hr
     have:=hK _ hr hro D' m' a' w' ht' he
     rw[hx]at this
     simpa [Exit.inBlock,e,jz]using this
theorem Cy{b:Code}(h:bJ P cfg C b st Q):bJ P cfg C (.scope b) st Q:=by
 intro D m a w hi ht K hK
 refine iy (h D m a w hi ht _ λr hr hro D' m' a' w' ht' he=>?_)
 have:=hK r hr hro D' m' a' w' ht' he
 cases hre:r.1<;>rw[hre]at this<;>exact this
theorem DR(h:Q (.normal,st)):bJ P cfg C .skip st Q:=λD m a w hi ht K hK=>wpIn_skip (hK _ h rfl D m a w ht (dk.refl hi))
theorem CO{l:Nat}(h:Q (.normal,st)):bJ P cfg C (.label l) st Q:=λD m a w hi ht K hK=>wpIn_label (hK _ h rfl D m a w ht (dk.refl hi))
theorem EU{id:Nat}(h:Q (.exit id,st)):bJ P cfg C (.exit id) st Q:=λD m a w hi ht K hK=>wpIn_exit (hK _ h rfl D m a w ht (dk.refl hi))
theorem JA(h:Q (.ret,st)):bJ P cfg C .ret st Q:=λD m a w hi ht K hK=>wpIn_ret (hK _ h rfl D m a w ht (dk.refl hi))
theorem D6{x:Operand}{b:Bool}{c1 c2:Code}(hv:ea cfg.G st.ts x=some (.bool b))(h1:b=true->bJ P cfg C c1 st Q)(h2:b=false->bJ P cfg C c2 st Q):bJ P cfg C (.cond x c1 c2) st Q:=by
 intro D m a w hi ht K hK
 obtain⟨e,_⟩:=j6 hi ht hv
 cases b with
 | true=>exact wpIn_cond_true (by rw[e];simp[aj]) (h1 rfl D m a w hi ht K hK)
 | false=>exact wpIn_cond_false (by rw[e];simp[aj]) (h2 rfl D m a w hi ht K hK)
def Wk(cfg:cx)(C:bg)(k:Nat)(st:St)(A:St->Prop):Prop:=
 ∀D m a w,dQ cfg D m C st.o w->TR D m st a->∃st' D' m',A st'/\TR D' m' st' a/\st'.ro=st.ro/\qk m' st'.ro=qk m st.ro/\dQ cfg D' m' C st'.o w/\
  ∀D0 m0 o0 w0,o0.n<=k->(∀i,D0 i->i<C.lo+o0.n)->dk cfg C D0 m0 o0 w0 D m st.o w->dk cfg C D0 m0 o0 w0 D' m' st'.o w
theorem Wk.mono{k:Nat}{A B:St->Prop}(h:Wk cfg C k st A)(hab:∀s,A s->B s):Wk cfg C k st B:=λD m a w hi ht=>by
 obtain⟨s,D',m',hA,h1⟩:=h D m a w hi ht
 exact⟨s,D',m',hab s hA,h1⟩
theorem Wk.refl{k:Nat}{A:St->Prop}(h:A st):Wk cfg C k st A:=λD m a w hi ht=>⟨st,D,m,h,ht,rfl,rfl,hi,λ_ _ _ _ _ _ h=>h⟩
theorem Wk.trans{k:Nat}{A B:St->Prop}(h:Wk cfg C k st A)(hb:∀s,A s->Wk cfg C k s B):Wk cfg C k st B:=λD m a w hi ht=>by
 obtain⟨s,D1,m1,hA,h1,h2,h3,h4,h5⟩:=h D m a w hi ht
 obtain⟨t,D2,m2,hB,k1,k2,k3,k4,k5⟩:=hb s hA D1 m1 a w h4 h1
 exact⟨t,D2,m2,hB,k1,k2.trans h2,k3.trans h3,k4,λD0 m0 o0 w0 ho hl he=>k5 _ _ _ _ ho hl (h5 _ _ _ _ ho hl he)⟩
theorem I9{k:Nat}{A:St->Prop}{c:Code}(h:Wk cfg C k st A)(hk:st.o.n<=k)(hs:∀s,A s->bJ P cfg C c s Q):bJ P cfg C c st Q:=by
 intro D m a w hi ht K hK
 obtain⟨s,D1,m1,hA,h1,h2,h3,h4,h5⟩:=h D m a w hi ht
 have:=hs s hA D1 m1 a w h4 h1 K λr hr hro D' m' a' w' ht' he=>hK r hr (hro.trans h2) D' m' a' w' ht' ((h5 _ _ _ _ hk hi.lt (dk.refl hi)).trans he)
 rw[h3]at this
 exact this
theorem DQ{k:Nat}{c:Code}{Q':AX×St->Prop}(h:bJ P cfg C c st Q')(hk:st.o.n<=k)(hw:∀r,Q' r->Wk cfg C k r.2 λs=>Q (r.1,s)):bJ P cfg C c st Q:=by
 intro D m a w hi ht K hK
 refine h D m a w hi ht K λr hr hro D' m' a' w' ht' he=>?_
 obtain⟨s,D1,m1,hA,h1,h2,h3,h4,h5⟩:=hw r hr D' m' a' w' he.inv ht'
 exact hK (r.1,s) hA (h2.trans hro) D1 m1 a' w' h1 (h5 _ _ _ _ hk hi.lt he)
theorem FF{ι:Type}(μ:ι->Nat)(S:ι->St->Prop){k:Nat}{b:Code}(h0:Wk cfg C k st λs=>∃x,S x s)(hk:st.o.n<=k)
 (hr:∀x s,S x s->bJ P cfg C b s (mK (λs'=>Wk cfg C k s' λs2=>∃y,μ y<μ x/\S y s2) Q)):bJ P cfg C (.loop b) st Q:=by
 intro D m a w hi ht K hK
 have key:∀n x s D1 m1 a1 w1,S x s->μ x<n->TR D1 m1 s a1->dk cfg C D m st.o w D1 m1 s.o w1->s.ro=st.ro->qk m1 s.ro=qk m st.ro->Code.roundsIn (FR (qk m st.ro)) 0 P b K n a1 w1:=by
  intro n
  induction n with
  | zero=>intro x s D1 m1 a1 w1 _ h;omega
  | succ n ih=>
    intro x s D1 m1 a1 w1 hs hμ ht1 he1 hro1 hf1
    rw[roundsIn_succ,<-hf1]
    refine hr x s hs D1 m1 a1 w1 he1.inv ht1 _ λr hq hro D2 m2 a2 w2 ht2 he2=>?_
    rw[hf1]
    have he:=he1.trans he2
    have fr:qk m2 r.2.ro=qk m st.ro:=by rw[hro,ot ht1.roD he2.same,hf1]
    unfold mK at hq
    cases hx:r.1 with
    | normal=>
      rw[hx]at hq
      obtain⟨s2,D3,m3,⟨y,hy,hS⟩,h1,h2,h3,h4,h5⟩:=hq D2 m2 a2 w2 he2.inv ht2
      exact ih y s2 D3 m3 a2 w2 hS (by omega) h1 (h5 _ _ _ _ hk hi.lt he) (h2.trans (hro.trans hro1)) (h3.trans fr)
    | exit id=>rw[hx]at hq;have:=hK r hq (hro.trans hro1) D2 m2 a2 w2 ht2 he;rw[hx]at this;exact this
    | ret=>rw[hx]at hq;have:=hK r hq (hro.trans hro1) D2 m2 a2 w2 ht2 he;rw[hx]at this;exact this
 obtain⟨s,D1,m1,⟨x,hS⟩,h1,h2,h3,h4,h5⟩:=h0 D m a w hi ht
 exact wpIn_loop_rounds (μ x+1) (key _ x s D1 m1 a w hS (Nat.lt_succ_self _) h1 (h5 _ _ _ _ hk hi.lt (dk.refl hi)) h2 h3)
end
section
variable{P:Program}{T:eA}(hT:eE P T){cfg:cx}
include hT
theorem CP{f:FuncId}{fn:Func}{c:Code}(hb:aH T f=some (fn,c)){C:bg}{D:Nat->Prop}{m:Nat->bo}{args:List AV}{o0:aC}{w:World}(hlen:args.length<=1000){R:AV×aC->Prop}
 (h:bJ P cfg C c (ij fn args o0) λx=>∃r,qj T C fn x=some r/\R r)
 (hi:dQ cfg D m C o0 w) (hok:eI D m args) {RR:Value->World->Prop} (hR:∀r D' m' w',R r->cY D' m' r.1->dk cfg C D m o0 w D' m' r.2 w'->RR (aj m' r.1) w') :
 (callFunc f (ar m args).toArray).run P w=.ok (.enter f (ar m args).toArray) w/\Calls P f (ar m args).toArray w λe w'=>∃v,e=.returned v/\RR v w':=by
 simp only[aH,ag,Option.some.injEq,Prod.mk.injEq]at hb
 obtain⟨fn',hfn,c',hbody,rfl,rfl⟩:=hb
 obtain⟨hf,hname⟩:=hT.fn f fn' hfn
 refine⟨by simp[callFunc,hf,hname,hbody],callsIn_wide.1 (callsIn_of_wp_marks (n:=0) hf hbody trivial ?_)⟩
 refine h D m _ w hi (yL hT hlen hok) _ λx hx hro D' m' a' w' ht he=>?_
 obtain⟨r,hend,hRr⟩:=hx
 have this:LeavesInM Fence.wide 0 P fn' a'.tmps (λe w''=>∃v,e=.returned v/\RR v w'') a'.defers .returning w'/\∀id,x.1≠.exit id:=by
  unfold qj at hend
  split at hend
  · cases hend
  · rename_i hne
    simp only[ag,Option.some.injEq]at hend
    obtain⟨o,hmk,vs,hres,rfl⟩:=hend
    refine⟨?_,λid e=>hne id e⟩
    rw[ht.defers]
    refine o5 hmk he.inv ht.dsD λw2 he2=>?_
    have ht2:TR D' m' ⟨x.2.ts,x.2.tn,o,[],none⟩ ⟨a'.tmps,[]⟩:=⟨ht.size,ht.at',ht.okt,rfl,λd hd=>(by cases hd),λi hi=>(by cases hi)⟩
    obtain⟨h1,h2⟩:=rX hT he2.inv ht2 hres
    exact⟨_,h1,_,rfl,hR _ D' m' w2 hRr h2 (he.trans he2)⟩
 cases hxe:x.1 with
 | normal=>exact this.1
 | ret=>exact this.1
 | exit id=>exact absurd hxe (this.2 id)
end
section
variable{cfg:cx}{C:bg}{st:St}
def qY:List (Nat×Nat)->Nat->Option Nat
 | [],_=>none
 | p::ps,i=>bif Nat.beq p.1 i then some p.2 else qY ps i
def N4(b:Nat)(ρ:List (Nat×Nat))(i:Nat):Option Nat:=bif bm i b then some i else qY ρ i
def s_(f:AV->Option AV):List AV->Option (List AV)
 | []=>some []
 | v::vs=>ob (f v) λv'=>ob (s_ f vs) λvs'=>some (v'::vs')
def jB(b:Nat)(ρ:List (Nat×Nat)):Nat->AV->Option AV
 | 0,_=>none
 | d+1,v=>match v with
   | .ptr id off=>ob (N4 b ρ id) λi=>some (.ptr i off)
   | .slice id off len c=>ob (N4 b ρ id) λi=>some (.slice i off len c)
   | .map id=>ob (N4 b ρ id) λi=>some (.map i)
   | .yield id=>ob (N4 b ρ id) λi=>some (.yield i)
   | .func f x y=>ob (s_ (jB b ρ d) x) λx'=>ob (s_ (jB b ρ d) y) λy'=>some (.func f x' y')
   | .iface t v=>ob (jB b ρ d v) λv'=>some (.iface t v')
   | .agg cs=>ob (s_ (jB b ρ d) cs) λcs'=>some (.agg cs')
   | .tuple cs=>ob (s_ (jB b ρ d) cs) λcs'=>some (.tuple cs')
   | v=>some v
def tz(f:AV->Option AV):Ts->Option Ts
 | .nil=>some .nil
 | .node v l r=>ob (f v) λv'=>ob (tz f l) λl'=>ob (tz f r) λr'=>some (.node v' l' r')
structure zw(b:Nat)(ρ:List (Nat×Nat))(D D':Nat->Prop)(m m':Nat->bo):Prop where
 low:∀i,D i->i<b->D' i/\m' i=m i
 mv:∀i j,qY ρ i=some j->D i->D' j/\m' j=m i
theorem M9{b:Nat}{ρ:List (Nat×Nat)}{D D':Nat->Prop}{m m':Nat->bo}(h:zw b ρ D D' m m'){i j:Nat}(hm:N4 b ρ i=some j)(hd:D i):D' j/\m' j=m i:=by
 unfold N4 at hm
 cases hb:bm i b with
 | true=>
   rw[hb,cond_true,Option.some.injEq]at hm
   subst hm
   exact h.low i hd (ba.1 hb)
 | false=>rw[hb,cond_false]at hm;exact h.mv i j hm hd
section
variable{b:Nat}{ρ:List (Nat×Nat)}{D D':Nat->Prop}{m m':Nat->bo}(h:zw b ρ D D' m m')
include h
theorem xa{f:AV->Option AV}(hf:∀v v',f v=some v'->cY D m v->aj m' v'=aj m v/\cY D' m' v'):∀{vs vs':List AV},s_ f vs=some vs'->eI D m vs->ar m' vs'=ar m vs/\eI D' m' vs'
 | [],vs',hm,_=>by cases hm;exact⟨by simp[ar],eL⟩
 | v::vs,vs',hm,hok=>by
   simp only[s_,ag,Option.some.injEq]at hm
   obtain⟨v1,h1,vs1,h2,rfl⟩:=hm
   obtain⟨a1,a2⟩:=cq.1 hok
   obtain⟨b1,b2⟩:=hf v v1 h1 a1
   obtain⟨c1,c2⟩:=xa hf h2 a2
   exact⟨by simp[ar,b1,c1],cq.2 ⟨b2,c2⟩⟩
theorem pC:∀{d:Nat} {v v':AV},jB b ρ d v=some v'->cY D m v->aj m' v'=aj m v/\cY D' m' v'
 | 0,v,v',hm,_=>by cases hm
 | d+1,v,v',hm,hok=>by
   have ih:∀{vs vs':List AV},s_ (jB b ρ d) vs=some vs'->eI D m vs->ar m' vs'=ar m vs/\eI D' m' vs':=λh1 h2=>xa h (λv v' h1 h2=>pC h1 h2) h1 h2
   have one:∀{id j n:Nat},N4 b ρ id=some j->(D id/\n<=(m id).cap)->m' j=m id/\(D' j/\n<=(m' j).cap):=λh1 h2=>by
    obtain⟨x,y⟩:=M9 h h1 h2.1
    exact⟨y,x,by rw[y];exact h2.2⟩
   unfold jB at hm
   cases v<;>simp only[ag,Option.some.injEq]at hm
   case ptr id off=>
    obtain⟨j,hj,rfl⟩:=hm
    obtain⟨e,hd⟩:=one hj (hok (id,0) (by simp[aq]))
    exact⟨by simp[aj,e],λi hi=>by simp only[aq,List.mem_singleton]at hi;subst hi;exact hd⟩
   case slice id off len c=>
    obtain⟨j,hj,rfl⟩:=hm
    obtain⟨e,hd⟩:=one hj (hok (id,d6 len c) (by simp[aq]))
    exact⟨by simp[aj,e],λi hi=>by simp only[aq,List.mem_singleton]at hi;subst hi;exact hd⟩
   case map id=>
    obtain⟨j,hj,rfl⟩:=hm
    obtain⟨e,hd⟩:=one hj (hok (id,0) (by simp[aq]))
    exact⟨by simp[aj,e],λi hi=>by simp only[aq,List.mem_singleton]at hi;subst hi;exact hd⟩
   case yield id=>
    obtain⟨j,hj,rfl⟩:=hm
    obtain⟨e,hd⟩:=one hj (hok (id,0) (by simp[aq]))
    exact⟨by simp[aj,e],λi hi=>by simp only[aq,List.mem_singleton]at hi;subst hi;exact hd⟩
   case func f x y=>
    obtain⟨x',hx,y',hy,rfl⟩:=hm
    obtain⟨a1,a2⟩:=ih hx (λi hi=>hok i (by simp[aq,hi]))
    obtain⟨b1,b2⟩:=ih hy (λi hi=>hok i (by simp[aq,hi]))
    refine⟨by simp[aj,a1,b1],λi hi=>?_⟩
    simp only[aq,List.mem_append]at hi
    exact hi.elim (a2 i) (b2 i)
   case iface t u=>
    obtain⟨u',hu,rfl⟩:=hm
    obtain⟨a1,a2⟩:=pC hu (λi hi=>hok i (by simpa [aq]using hi))
    exact⟨by simp[aj,a1],λi hi=>a2 i (by simpa [aq]using hi)⟩
   case agg cs=>
    obtain⟨x',hx,rfl⟩:=hm
    obtain⟨a1,a2⟩:=ih hx (gA.1 hok)
    exact⟨by simp[aj,a1],gA.2 a2⟩
   case tuple cs=>
    obtain⟨x',hx,rfl⟩:=hm
    obtain⟨a1,a2⟩:=ih hx (eU.1 hok)
    exact⟨by simp[aj,a1],eU.2 a2⟩
   all_goals subst hm;exact⟨by simp[aj],bQ (by simp[aq])⟩
theorem LI{d:Nat}{vs vs':List AV}(h1:s_ (jB b ρ d) vs=some vs')(h2:eI D m vs):ar m' vs'=ar m vs/\eI D' m' vs':=xa h (λv v' h1 h2=>pC h h1 h2) h1 h2
end
theorem qr{f:AV->Option AV}(hu:f bj=some bj):∀{t t':Ts} (i:Nat),tz f t=some t'->f (t.get i)=some (t'.get i)
 | .nil,t',i,h=>by cases h;rw[Ts.get_nil];exact hu
 | .node v l r,t',i,h=>by
   simp only[tz,ag,Option.some.injEq]at h
   obtain⟨v',hv,l',hl,r',hr,rfl⟩:=h
   by_cases h0:i=0
   · subst h0;exact hv
   · rcases Nat.mod_two_eq_zero_or_one i with h2|h2
     · rw[Ts.get_even _ i h0 h2,Ts.get_even _ i h0 h2];exact qr hu _ hr
     · rw[Ts.get_odd _ i h0 h2,Ts.get_odd _ i h0 h2];exact qr hu _ hl
def eG(b:Nat)(x:aw):Prop:=sL x=true/\∀i∈B4 x,i.1<b
def RA(b:Nat)(ρ:List (Nat×Nat))(x x':aw):Prop:=(x'=x/\eG b x)\/∃cs cs' rw g,x=.cells cs rw g/\s_ (jB b ρ 20) cs=some cs'/\x'=.cells cs' rw g
theorem qs{b:Nat}{ρ:List (Nat×Nat)}{D D':Nat->Prop}{m m':Nat->bo}(h:zw b ρ D D' m m'){l:bo}{x:aw}{o:Option Obj}(hr:cH D m l x o)(hx:eG b x):cH D' m' l x o:=by
 have lv:∀v,cY D m v->(∀i∈aq v,i.1<b)->aj m' v=aj m v/\cY D' m' v:=λv hv hb=>by
  have hs:∀i∈aq v,D' i.1/\m' i.1=m i.1:=λi hi=>h.low i.1 (hv i hi).1 (hb i hi)
  exact⟨gY v λi hi=>(hs i hi).2,λi hi=>⟨(hs i hi).1,by rw[(hs i hi).2];exact(hv i hi).2⟩⟩
 cases x with
 | dead=>trivial
 | cells cs rw g=>
   obtain⟨c,e,fz,hb,hc⟩:=hr
   have hv:∀v∈cs,aj m' v=aj m v/\cY D' m' v:=λv hv=>lv v (dy.1 hc.okc v hv) λi hi=>hx.2 i (eP.2 ⟨v,hv,hi⟩)
   exact⟨c,e,fz,hb,⟨λi v hi=>by rw[hc.at' i v hi,(hv v (List.mem_of_getElem? hi)).1],dy.2 λv hm=>(hv v hm).2,hc.free,hc.grow⟩⟩
 | map es=>
   obtain⟨en,ck,hb,he,ho⟩:=hr
   have hv:∀e∈es,(aj m' e.1=aj m e.1/\cY D' m' e.1)/\(aj m' e.2=aj m e.2/\cY D' m' e.2):=λe hm=>
    ⟨lv e.1 (ho e hm).1 λi hi=>hx.2 i (List.mem_append.2 (.inl (eP.2 ⟨e.1,List.mem_map.2 ⟨e,hm,rfl⟩,hi⟩))),lv e.2 (ho e hm).2 λi hi=>hx.2 i (List.mem_append.2 (.inr (eP.2 ⟨e.2,List.mem_map.2 ⟨e,hm,rfl⟩,hi⟩)))⟩
   exact⟨en,ck,hb,he.trans (List.map_congr_left λe hm=>by rw[(hv e hm).1.1,(hv e hm).2.1]),λe hm=>⟨(hv e hm).1.2,(hv e hm).2.2⟩⟩
 | siter s p=>exact hr
 | loop r=>exact absurd hx.1 (by simp[sL])
 | defs=>exact hr
theorem Jv{b:Nat}{ρ:List (Nat×Nat)}{D D':Nat->Prop}{m m':Nat->bo}(h:zw b ρ D D' m m'){l:bo}{x x':aw}{o:Option Obj}(hr:cH D m l x o)(hx:RA b ρ x x'):cH D' m' l x' o:=by
 rcases hx with⟨rfl,hl⟩|⟨cs,cs',rw',g,rfl,hm,rfl⟩
 · exact qs h hr hl
 · obtain⟨c,e,fz,hb,hc⟩:=hr
   obtain⟨h1,h2⟩:=LI h hm hc.okc
   refine⟨c,e,fz,hb,⟨λi v hi=>?_,h2,hc.free,hc.grow⟩⟩
   have e2:(ar m cs)[i]? = some (aj m' v):=by rw[<-h1,eB,List.getElem?_map,hi];rfl
   rw[eB,List.getElem?_map]at e2
   obtain⟨u,hu,e3⟩:=Option.map_eq_some_iff.1 e2
   rw[hc.at' i u hu,e3]
theorem Gg{b:Nat}{ρ:List (Nat×Nat)}{x x':aw}(hx:RA b ρ x x'):ls x'=ls x/\zi x'=zi x:=by
 rcases hx with⟨rfl,_⟩|⟨cs,cs',rw',g,rfl,_,rfl⟩
 · exact⟨rfl,rfl⟩
 · exact⟨rfl,rfl⟩
def H6(C:bg):Prop:=∀id,id<C.lo->eG C.lo (ff C.B id)
def gL(lo:Nat):Nat->List Nat->List (Nat×Nat)
 | _,[]=>[]
 | j,s::ss=>(lo+s,lo+j)::gL lo (j+1) ss
theorem sS{lo:Nat}:∀{ss:List Nat} {j i k:Nat},qY (gL lo j ss) i=some k->∃t,t<ss.length/\i=lo+ss.getD t 0/\k=lo+(j+t)
 | [],j,i,k,h=>by cases h
 | s::ss,j,i,k,h=>by
   rw[gL,qY]at h
   by_cases e:lo+s=i
   · rw[dI e,cond_true,Option.some.injEq]at h
     exact⟨0,by simp,by simp[e],by simp[<-h]⟩
   · rw[iH e,cond_false]at h
     obtain⟨t,h1,h2,h3⟩:=sS h
     exact⟨t+1,by simpa using h1,by simpa using h2,by omega⟩
theorem qI(hK:nL cfg){kb:Nat}{sel:List Nat}{ts':Ts}{o':aC}(hlow:H6 C)(hkb:kb<=st.o.n)
 (hsel:∀s∈sel,kb<=s/\s<st.o.n) (hnd:sel.Nodup)
 (hle:∀p∈st.o.le,eG (C.lo+kb) p.2) (hle':o'.le=st.o.le) (hn:o'.n=kb+sel.length) (hlen:o'.os.length=o'.n)
 (hold:∀i,i<kb->o'.at i=st.o.at i/\eG (C.lo+kb) (st.o.at i))
 (hnew:∀t,t<sel.length->RA (C.lo+kb) (gL C.lo kb sel) (st.o.at (sel.getD t 0)) (o'.at (kb+t)))
 (hts:tz (jB (C.lo+kb) (gL C.lo kb sel) 20) st.ts=some ts') (hds:∀d∈st.ds,d<C.lo+kb) (hro:∀i,st.ro=some i->i<C.lo+kb) :
 Wk cfg C kb st λs=>s=⟨ts',st.tn,o',st.ds,st.ro⟩:=by
 intro D m a w hi ht
 obtain⟨D',hD'⟩:∃D':Nat->Prop,D'=λid=>(id<C.lo+kb/\D id)\/∃t,t<sel.length/\id=C.lo+kb+t/\D (C.lo+sel.getD t 0):=⟨_,rfl⟩
 obtain⟨m',hm'⟩:∃m':Nat->bo,m'=λid=>if id<C.lo+kb then m id else m (C.lo+sel.getD (id-(C.lo+kb)) 0):=⟨_,rfl⟩
 have mlow:∀i,i<C.lo+kb->m' i=m i:=λi h=>by rw[hm'];simp[h]
 have mnew:∀t,m' (C.lo+kb+t)=m (C.lo+sel.getD t 0):=λt=>by
  rw[hm']
  simp only[if_neg (by omega:¬C.lo+kb+t<C.lo+kb)]
  rw[show C.lo+kb+t-(C.lo+kb)=t by omega]
 have ok:zw (C.lo+kb) (gL C.lo kb sel) D D' m m':=by
  refine⟨λi hd hlt=>⟨by rw[hD'];exact .inl ⟨hlt,hd⟩,mlow i hlt⟩,λi j hl hd=>?_⟩
  obtain⟨t,h1,rfl,rfl⟩:=sS hl
  rw[show C.lo+(kb+t)=C.lo+kb+t by omega]
  exact⟨by rw[hD'];exact .inr ⟨t,h1,rfl,hd⟩,mnew t⟩
 have hselt:∀t,t<sel.length->kb<=sel.getD t 0/\sel.getD t 0<st.o.n:=λt h=>hsel _ (by simp[List.getD_eq_getElem?_getD,h])
 have glow:∀i,i<C.lo+kb->get C o' i=get C st.o i/\eG (C.lo+kb) (get C st.o i):=λi h=>by
  unfold get ff
  by_cases hc:C.lo<=i
  · rw[bt.2 hc,cond_true,cond_true]
    exact hold (i-C.lo) (by omega)
  · rw[im hc,cond_false,cond_false,hle']
    refine⟨rfl,?_⟩
    simp only
    have lw:eG (C.lo+kb) (ff C.B i):=⟨(hlow i (by omega)).1,λj hj=>by have:=(hlow i (by omega)).2 j hj;omega⟩
    cases hx:ew st.o.le i with
    | none=>exact lw
    | some x=>
      have:∀le:List (Nat×aw),ew le i=some x->∃p∈le,p.2=x:=by
       intro le
       induction le with
       | nil=>intro h;cases h
       | cons p le ih=>
         intro h
         rw[ew]at h
         by_cases e:p.1=i
         · rw[dI e,cond_true,Option.some.injEq]at h;exact⟨p,List.mem_cons_self,h⟩
         · rw[iH e,cond_false]at h
           obtain⟨q,hq,e'⟩:=ih h
           exact⟨q,List.mem_cons_of_mem _ hq,e'⟩
      obtain⟨p,hp,e⟩:=this _ hx
      rw[<-e];exact hle p hp
 have gnew:∀t,t<sel.length->RA (C.lo+kb) (gL C.lo kb sel) (get C st.o (C.lo+sel.getD t 0)) (get C o' (C.lo+kb+t)):=λt h=>by
  unfold get ff
  rw[bt.2 (by omega:C.lo<=C.lo+sel.getD t 0),bt.2 (by omega:C.lo<=C.lo+kb+t),cond_true,cond_true,show C.lo+sel.getD t 0-C.lo=sel.getD t 0 by omega,show C.lo+kb+t-C.lo=kb+t by omega]
  exact hnew t h
 have inj:∀t u,t<sel.length->u<sel.length->sel.getD t 0=sel.getD u 0->t=u:=λt u h1 h2 e=>by
  have hp:=List.pairwise_iff_getElem.1 hnd
  have e':sel[t]=sel[u]:=by simpa [List.getD_eq_getElem?_getD,h1,h2]using e
  rcases Nat.lt_trichotomy t u with h|h|h
  · exact absurd e' (hp t u h1 h2 h)
  · exact h
  · exact absurd e'.symm (hp u t h2 h1 h)
 have src:∀i,D' i->∃j,D j/\m' i=m j/\ls (get C o' i)=ls (get C st.o j)/\zi (get C o' i)=zi (get C st.o j)/\((i<C.lo+kb/\j=i)\/∃t,t<sel.length/\i=C.lo+kb+t/\j=C.lo+sel.getD t 0):=λi h=>by
  rw[hD']at h
  rcases h with⟨h1,h2⟩|⟨t,h1,rfl,h2⟩
  · exact⟨i,h2,mlow i h1,by rw[(glow i h1).1],by rw[(glow i h1).1],.inl ⟨h1,rfl⟩⟩
  · have:=Gg (gnew t h1)
    exact⟨_,h2,mnew t,this.1,this.2,.inr ⟨t,h1,rfl,rfl⟩⟩
 have hinv:dQ cfg D' m' C o' w:=by
  refine⟨λi hd=>?_,λi j hdi hdj hij hl hr=>?_,λi hd=>?_,λg hg=>?_,λi hid=>?_,λi hid=>hi.le i (by rw[hle']at hid;exact hid),hi.lo,hlen⟩
  · rw[hD']at hd
    rcases hd with⟨h1,h2⟩|⟨t,h1,rfl,h2⟩
    · rw[mlow i h1,(glow i h1).1];exact qs ok (hi.obj i h2) (glow i h1).2
    · rw[mnew t];exact Jv ok (hi.obj _ h2) (gnew t h1)
  · obtain⟨i',di,ei,li,ri,ci⟩:=src i hdi
    obtain⟨j',dj,ej,lj,rj,cj⟩:=src j hdj
    rw[ei,ej]
    refine hi.inj i' j' di dj (λe=>hij ?_) (by rw[<-li];exact hl) (by rw[<-rj];exact hr)
    rcases ci with⟨c1,rfl⟩|⟨t,c1,rfl,rfl⟩<;>rcases cj with⟨d1,rfl⟩|⟨u,d1,rfl,rfl⟩
    · exact e
    · have:=hselt u d1;omega
    · have:=hselt t c1;omega
    · have:=inj t u c1 d1 (by omega);omega
  · rw[hD']at hd
    rcases hd with⟨h1,h2⟩|⟨t,h1,rfl,h2⟩<;>omega
  · obtain⟨a1,a2,a3⟩:=hi.glob g hg
    have hlt:g<C.lo+kb:=by have:=hK.G;have:=hi.lo;omega
    exact⟨by rw[hD'];exact .inl ⟨hlt,a1⟩,by rw[mlow g hlt];exact a2,by rw[mlow g hlt];exact a3⟩
  · obtain⟨a1,a2⟩:=hi.root i hid
    have hlt:i<C.lo+kb:=by have:=hi.lo;omega
    exact⟨by rw[hD'];exact .inl ⟨hlt,a1⟩,by rw[(glow i hlt).1];exact a2⟩
 refine⟨_,D',m',rfl,⟨ht.size,λt=>?_,λt=>?_,?_,λd hd=>by rw[hD'];exact .inl ⟨hds d hd,ht.dsD d hd⟩,λi h=>by rw[hD'];exact .inl ⟨hro i h,ht.roD i h⟩⟩,rfl,?_,hinv,λD0 m0 o0 w0 ho hl he=>?_⟩
 · have:=qr (f:=jB (C.lo+kb) (gL C.lo kb sel) 20) rfl t hts
   rw[ht.at' t];exact(pC ok this (ht.okt t)).1.symm
 · have:=qr (f:=jB (C.lo+kb) (gL C.lo kb sel) 20) rfl t hts
   exact(pC ok this (ht.okt t)).2
 · rw[ht.defers]
   exact List.map_congr_left λd hd=>by rw[mlow d (hds d hd)]
 · cases hr:st.ro with
   | none=>rfl
   | some i=>simp only[qk,Option.map_some,mlow i (hro i hr)]
 · have low0:∀i,D0 i->i<C.lo+kb:=λi h=>by have:=hl i h;omega
   refine⟨hinv,λi h=>by rw[hD'];exact .inl ⟨low0 i h,he.sub i h⟩,λi h=>by rw[mlow i (low0 i h)];exact he.same i h,λi h=>?_,by simp only;omega,he.os,he.tape,he.output,he.size,he.frame,by simp only[hle'];exact he.leIds,λi h hn=>?_⟩
   · rw[hD']at h
     rcases h with⟨h1,h2⟩|⟨t,h1,rfl,h2⟩
     · exact he.new i h2
     · exact .inr (by omega)
   · rw[hD']at h
     rcases h with⟨h1,h2⟩|⟨t,h1,rfl,h2⟩
     · rw[mlow i h1];exact he.fresh i h2 hn
     · rw[mnew t]
       have:=hselt t h1
       exact he.fresh _ h2 λh0=>by have:=hl _ h0;omega
end
end Go.Ev
end
