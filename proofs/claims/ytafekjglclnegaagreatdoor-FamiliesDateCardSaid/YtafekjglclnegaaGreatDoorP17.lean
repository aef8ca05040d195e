import Derived.Test.YtafekjglclnegaaGreatDoorP16
set_option linter.all false
section
namespace Go.Ev
open Go Go.Proofs
def cmpE (a b c d:Int):Int:=if cmpI a c=0 then cmpI b d else cmpI a c
def s111:Sum:=fun args=>match args with
 | [.agg [.int .i8 a,.int .i64 b],.agg [.int .i8 c,.int .i64 d]]=>some (.ret (.int .i64 (cmpE a b c d)))
 | _=>none
def rChk (a b c d:Int):Int:=if eChk a b=0/\eChk c d=0 then (if 0<a∨c<0 then 4 else if 0<cmpE a b c d then 12 else 0) else 5
def s57:Sum:=fun args=>match args with
 | [.agg [.int .i8 a,.int .i64 b,.int .i8 c,.int .i64 d]]=>some (.ret (.int .i64 (rChk a b c d)))
 | _=>none
def S2:Sums:=addS S1 111 s111
def S3:Sums:=addS S2 57 s57
def cmpR (a b c d e f g h:Int):Int:=if cmpE a b e f=0 then cmpE c d g h else cmpE a b e f
def touch1 (i j k l:Int):Prop:=cmpE k l i j≤0∨eChk i j=0/\(i=0/\j<9223372036854775807/\k=0/\l=j+1∨i≠0/\i=k/\j=l)
instance {i j k l:Int}:Decidable (touch1 i j k l):=by unfold touch1;infer_instance
def touchB (a b c d e f g h:Int):Bool:=decide (rChk a b c d=0/\rChk e f g h=0/\(cmpE e f a b<0/\touch1 g h a b∨0≤cmpE e f a b/\touch1 c d e f))
def inL (n:Int):Prop:=-9223372036854775808≤n/\n≤9223372036854775807
theorem w111 (a b c d:Int) {Q:AV->Prop}:ask Q (bodyT tab cfg S1 1000 111 [vEnd a b,vEnd c d]) (.e (.e (.e (.e (.e (.e (.e (.e (.b .z (.e (.e (.e (.e (.e (.b .z (.e (.e .z)))))))))))))))))=((Bool.not (intEq (cmpI a c) 0)=true->Q (AV.int .i64 (cmpI a c)))/\(Bool.not (intEq (cmpI a c) 0)=false->((Bool.not (intEq (cmpI b d) 0)=true->Q (AV.int .i64 (cmpI b d)))/\(Bool.not (intEq (cmpI b d) 0)=false->Q (AV.int .i64 0))))):=by kernel_rfl
theorem w57 (a b c d:Int) {Q:AV->Prop}:ask Q (bodyT tab cfg S2 1000 57 [vRun a b c d]) (.e (.e (.b (.t (.e (.e (.t (.t (.f (.b .z (.e (.b (.t (.t (.e (.t (.f (.b .z (.e (.e (.e (.e (.b .z .z))))))))))) (.f (.f (.f (.t (.e .z)))))))))))))) (.f (.f (.f (.t (.e .z))))))))=((Bool.not (Bool.not (intEq (eChk a b) 0))=true->(Bool.not (Bool.not (intEq (eChk a b) 0))=true/\(Bool.not (Bool.not (intEq (eChk a b) 0))=true/\(Bool.not (Bool.not (intEq (eChk a b) 0))=true/\(Bool.not (intEq (eChk a b) 0)=false/\((Bool.not (intEq (eChk c d) 0)=true->Q (AV.int .i64 5))/\(Bool.not (intEq (eChk c d) 0)=false->((Bool.not (Bool.not (intLe a 0))=true->(Bool.not (Bool.not (intLe a 0))=true/\(Bool.not (Bool.not (intLe a 0))=true/\(Bool.not (Bool.not (intLe a 0))=true/\(Bool.not (intLe a 0)=false/\((Bool.not (intLe 0 c)=true->Q (AV.int .i64 4))/\(Bool.not (intLe 0 c)=false->((Bool.not (intLe (cmpE a b c d) 0)=true->Q (AV.int .i64 12))/\(Bool.not (intLe (cmpE a b c d) 0)=false->Q (AV.int .i64 0))))))))))/\(Bool.not (Bool.not (intLe a 0))=false->(Bool.not (Bool.not (intLe a 0))=false/\(Bool.not (Bool.not (intLe a 0))=false/\(Bool.not (Bool.not (intLe a 0))=false/\(Bool.not (intLe a 0)=true/\Q (AV.int .i64 4))))))))))))))/\(Bool.not (Bool.not (intEq (eChk a b) 0))=false->(Bool.not (Bool.not (intEq (eChk a b) 0))=false/\(Bool.not (Bool.not (intEq (eChk a b) 0))=false/\(Bool.not (Bool.not (intEq (eChk a b) 0))=false/\(Bool.not (intEq (eChk a b) 0)=true/\Q (AV.int .i64 5))))))):=by kernel_rfl
theorem w105 (a b c d e f g h:Int) {Q:AV->Prop}:ask Q (bodyT tab cfg S2 1000 105 [vRun a b c d,vRun e f g h]) (.e (.e (.e (.e (.e (.e (.e (.e (.e (.e (.e (.e (.b .z (.e (.e (.e (.e (.e (.b .z (.e (.e .z)))))))))))))))))))))=((Bool.not (intEq (cmpE a b e f) 0)=true->Q (AV.int .i64 (cmpE a b e f)))/\(Bool.not (intEq (cmpE a b e f) 0)=false->((Bool.not (intEq (cmpE c d g h) 0)=true->Q (AV.int .i64 (cmpE c d g h)))/\(Bool.not (intEq (cmpE c d g h) 0)=false->Q (AV.int .i64 0))))):=by kernel_rfl
theorem w112 (a b c d e f g h:Int) {Q:AV->Prop}:ask Q (bodyT tab cfg S3 1000 112 [vRun a b c d,vRun e f g h]) (.e (.e (.e (.e (.e (.e (.e (.e (.e (.e (.e (.e (.b (.e (.e (.e (.e (.t (.t (.t (.b .z (.e (.e (.e (.e (.b (.e (.e (.e (.e (.e (.e (.e (.e (.e (.e (.e (.e (.e (.e (.b .z (.e (.e (.e (.e (.e (.e (.b (.t (.e (.t (.f (.b (.f (.e (.e (.e (.e (.e (.t (.e (.e (.t (.t (.e (.e (.t (.t .z))))))))))))))) (.e (.b (.e (.e (.e (.e (.e (.e (.e (.e (.e (.e (.e (.e (.e .z))))))))))))) (.b (.e (.e (.e (.e (.e (.e (.e (.e (.e (.e .z)))))))))) .z)))))))) (.f (.f (.t (.e (.t (.e (.e (.e (.e (.e (.e (.f (.f (.f (.f (.f .z)))))))))))))))))))))))))))))))))))))) (.e (.e (.e (.e (.b .z (.e (.e (.e (.e (.e (.e (.b (.t (.e (.t (.f (.b (.f (.e (.e (.e (.e (.e (.t (.e (.e (.t (.t (.e (.e (.t (.t .z))))))))))))))) (.e (.b (.e (.e (.e (.e (.e (.e (.e (.e (.e (.e (.e (.e (.e .z))))))))))))) (.b (.e (.e (.e (.e (.e (.e (.e (.e (.e (.e .z)))))))))) .z)))))))) (.f (.f (.t (.e (.t (.e (.e (.e (.e (.e (.e (.f (.f (.f (.f (.f .z))))))))))))))))))))))))))))))))))))))))) (.f (.f (.f (.e .z)))))))))))))))))=((intEq (rChk a b c d) 0=true->(intEq (rChk a b c d) 0=true/\(intEq (rChk a b c d) 0=true/\(intEq (rChk a b c d) 0=true/\((Bool.not (intEq (rChk e f g h) 0)=true->Q (AV.bool Bool.false))/\(Bool.not (intEq (rChk e f g h) 0)=false->((Bool.not (intLe 0 (cmpE e f a b))=true->((intLe (cmpE a b g h) 0=true->Q (AV.bool Bool.true))/\(intLe (cmpE a b g h) 0=false->((Bool.not (Bool.not (intEq (eChk g h) 0))=true->(Bool.not (Bool.not (intEq (eChk g h) 0))=true/\(Bool.not (Bool.not (intEq (eChk g h) 0))=true/\(Bool.not (intEq (eChk g h) 0)=false/\((Bool.not (intEq g 0)=true->(Bool.not (intEq (eChk g h) 0)=false/\(intEq (eChk g h) 0=true/\(intEq (eChk g h) 0=true/\(intEq (eChk g h) 0=true/\(intEq (eChk g h) 0=true/\(intEq (eChk g h) 0=true/\Q (AV.bool (Bool.and (intEq g a) (Bool.and (intEq h b) Bool.true))))))))))/\(Bool.not (intEq g 0)=false->((inR .i64 (Int.add h 1)=true->Q (AV.bool (Bool.and (intEq 0 a) (Bool.and (intEq (Int.add h 1) b) Bool.true))))/\(inR .i64 (Int.add h 1)=false->((intEq h 9223372036854775807=true->Q (AV.bool Bool.false))/\(intEq h 9223372036854775807=false->False))))))))))/\(Bool.not (Bool.not (intEq (eChk g h) 0))=false->(Bool.not (Bool.not (intEq (eChk g h) 0))=false/\(Bool.not (Bool.not (intEq (eChk g h) 0))=false/\(Bool.not (intEq (eChk g h) 0)=true/\(Bool.not (intEq (eChk g h) 0)=true/\(intEq (eChk g h) 0=false/\(intEq (eChk g h) 0=false/\(intEq (eChk g h) 0=false/\(intEq (eChk g h) 0=false/\(intEq (eChk g h) 0=false/\Q (AV.bool Bool.false)))))))))))))))/\(Bool.not (intLe 0 (cmpE e f a b))=false->((intLe (cmpE e f c d) 0=true->Q (AV.bool Bool.true))/\(intLe (cmpE e f c d) 0=false->((Bool.not (Bool.not (intEq (eChk c d) 0))=true->(Bool.not (Bool.not (intEq (eChk c d) 0))=true/\(Bool.not (Bool.not (intEq (eChk c d) 0))=true/\(Bool.not (intEq (eChk c d) 0)=false/\((Bool.not (intEq c 0)=true->(Bool.not (intEq (eChk c d) 0)=false/\(intEq (eChk c d) 0=true/\(intEq (eChk c d) 0=true/\(intEq (eChk c d) 0=true/\(intEq (eChk c d) 0=true/\(intEq (eChk c d) 0=true/\Q (AV.bool (Bool.and (intEq c e) (Bool.and (intEq d f) Bool.true))))))))))/\(Bool.not (intEq c 0)=false->((inR .i64 (Int.add d 1)=true->Q (AV.bool (Bool.and (intEq 0 e) (Bool.and (intEq (Int.add d 1) f) Bool.true))))/\(inR .i64 (Int.add d 1)=false->((intEq d 9223372036854775807=true->Q (AV.bool Bool.false))/\(intEq d 9223372036854775807=false->False))))))))))/\(Bool.not (Bool.not (intEq (eChk c d) 0))=false->(Bool.not (Bool.not (intEq (eChk c d) 0))=false/\(Bool.not (Bool.not (intEq (eChk c d) 0))=false/\(Bool.not (intEq (eChk c d) 0)=true/\(Bool.not (intEq (eChk c d) 0)=true/\(intEq (eChk c d) 0=false/\(intEq (eChk c d) 0=false/\(intEq (eChk c d) 0=false/\(intEq (eChk c d) 0=false/\(intEq (eChk c d) 0=false/\Q (AV.bool Bool.false))))))))))))))))))))))/\(intEq (rChk a b c d) 0=false->(intEq (rChk a b c d) 0=false/\(intEq (rChk a b c d) 0=false/\(intEq (rChk a b c d) 0=false/\Q (AV.bool Bool.false)))))):=by kernel_rfl
theorem w117 (a b c d:Int) {Q:AV->Prop}:ask Q (bodyT tab cfg nilS 1000 117 [vEnd a b,vEnd c d]) (.e (.e (.b .z (.e (.e (.b .z (.e (.e (.b .z (.e (.e (.b .z .z))))))))))))=((Bool.not (intLe c a)=true->Q (AV.int .i64 (Neg.neg 1)))/\(Bool.not (intLe c a)=false->((Bool.not (intLe a c)=true->Q (AV.int .i64 1))/\(Bool.not (intLe a c)=false->((Bool.not (intLe d b)=true->Q (AV.int .i64 (Neg.neg 1)))/\(Bool.not (intLe d b)=false->((Bool.not (intLe b d)=true->Q (AV.int .i64 1))/\(Bool.not (intLe b d)=false->Q (AV.int .i64 0))))))))):=by kernel_rfl
theorem w120 (a b:Int) {Q:AV->Prop}:ask Q (bodyT tab cfg nilS 1000 120 [vEnd a b]) (.e (.b .z (.b (.t (.e (.b .z .z))) (.b (.e (.b .z .z)) .z))))=((intEq a 0=true->Q (AV.int .i64 0))/\(intEq a 0=false->((intEq a 1=true->(intEq a 1=true/\((intEq b 0=true->Q (AV.int .i64 0))/\(intEq b 0=false->Q (AV.int .i64 5)))))/\(intEq a 1=false->((intEq a (Neg.neg 1)=true->((intEq b 0=true->Q (AV.int .i64 0))/\(intEq b 0=false->Q (AV.int .i64 5))))/\(intEq a (Neg.neg 1)=false->Q (AV.int .i64 5))))))):=by kernel_rfl
theorem f111 (a b c d:Int):Fact Tryz.prog cfg 111 [vEnd a b,vEnd c d] (.int .i64 (cmpE a b c d)):=
 base0.ask S1_ok (n:=1000) (D:=_) (by rw [w111];simp only [q_all,reduceCtorEq,loK,hiK,ne_eq];(repeat' first|exact trivial|refine ⟨?_,?_⟩|intro)<;>((try simp only [q_inj,eq_comm (a:=true),eq_comm (a:=false),cmpE] at *)<;>(repeat' split)<;>(first|omega|(simp_all;done)|(simp_all;omega))))
theorem s111_ok:SumOK Tryz.prog cfg 111 s111:=by (intro args t v he hv;unfold s111 at he;split at he<;>first|(cases he;cases hv;apply f111;done)|(cases he;done))
theorem S2_ok:SumsOK Tryz.prog cfg S2:=sums_add S1_ok s111_ok
theorem f57 (a b c d:Int):Fact Tryz.prog cfg 57 [vRun a b c d] (.int .i64 (rChk a b c d)):=
 base0.ask S2_ok (n:=1000) (D:=_) (by rw [w57];simp only [q_all,reduceCtorEq,loK,hiK,ne_eq];(repeat' first|exact trivial|refine ⟨?_,?_⟩|intro)<;>((try simp only [q_inj,eq_comm (a:=true),eq_comm (a:=false),rChk] at *)<;>(repeat' split)<;>(first|omega|(simp_all;done)|(simp_all;omega))))
theorem s57_ok:SumOK Tryz.prog cfg 57 s57:=by (intro args t v he hv;unfold s57 at he;split at he<;>first|(cases he;cases hv;apply f57;done)|(cases he;done))
theorem f105 (a b c d e f g h:Int):Fact Tryz.prog cfg 105 [vRun a b c d,vRun e f g h] (.int .i64 (cmpR a b c d e f g h)):=
 base0.ask S2_ok (n:=1000) (D:=_) (by rw [w105];simp only [q_all,reduceCtorEq,loK,hiK,ne_eq];(repeat' first|exact trivial|refine ⟨?_,?_⟩|intro)<;>((try simp only [q_inj,eq_comm (a:=true),eq_comm (a:=false),cmpR] at *)<;>(repeat' split)<;>(first|omega|(simp_all;done)|(simp_all;omega))))
theorem S3_ok:SumsOK Tryz.prog cfg S3:=sums_add S2_ok s57_ok
theorem f112 (a b c d e f g h:Int) (hd:inL d) (hh:inL h):Fact Tryz.prog cfg 112 [vRun a b c d,vRun e f g h] (.bool (touchB a b c d e f g h)):=by
 have hd:=hd;have hh:=hh
 unfold inL at hd hh
 refine base0.ask S3_ok ((w112 ..).mpr ?_)
 simp only [q_all,reduceCtorEq,loK,hiK,ne_eq]
 (repeat' first|exact trivial|refine ⟨?_,?_⟩|intro)<;>first|omega|(first|omega|(rw [AV.bool.injEq,Bool.eq_iff_iff]<;>simp only [q_add,q_sub,q_mul,q_eq_t,q_le_t,q_not_t,q_and_t,q_or_t,q_eq_f,q_le_f,decide_eq_true_eq,and_true,Bool.false_eq_true,true_iff,false_iff,iff_true,iff_false,touchB]<;>(try simp only [touch1])<;>first|omega|(simp_all;done)|(simp_all;omega)))
theorem f117 (a b c d:Int):Fact Tryz.prog cfg 117 [vEnd a b,vEnd c d] (.int .i64 (cmpE a b c d)):=
 base0.ask sums_nil ((w117 ..).mpr (by simp only [q_all,reduceCtorEq,loK,hiK,ne_eq];(repeat' first|exact trivial|refine ⟨?_,?_⟩|intro)<;>((try simp only [q_inj,eq_comm (a:=true),eq_comm (a:=false),cmpE,cmpI] at *)<;>(repeat' split)<;>(first|omega|(simp_all;done)|(simp_all;omega)))))
theorem f120 (a b:Int):Fact Tryz.prog cfg 120 [vEnd a b] (.int .i64 (eChk a b)):=
 base0.ask sums_nil ((w120 ..).mpr (by simp only [q_all,reduceCtorEq,loK,hiK,ne_eq];(repeat' first|exact trivial|refine ⟨?_,?_⟩|intro)<;>((try simp only [q_inj,eq_comm (a:=true),eq_comm (a:=false),eChk] at *)<;>(repeat' split)<;>(first|omega|(simp_all;done)|(simp_all;omega)))))
def s105:Sum:=fun args=>match args with
 | [.agg [.int .i8 a,.int .i64 b,.int .i8 c,.int .i64 d],.agg [.int .i8 e,.int .i64 f,.int .i8 g,.int .i64 h]]=>some (.ret (.int .i64 (cmpR a b c d e f g h)))
 | _=>none
def s112:Sum:=fun args=>match args with
 | [.agg [.int .i8 a,.int .i64 b,.int .i8 c,.int .i64 d],.agg [.int .i8 e,.int .i64 f,.int .i8 g,.int .i64 h]]=>some (asrt (inR .i64 d) (asrt (inR .i64 h) (.ret (.bool (touchB a b c d e f g h)))))
 | _=>none
def S4:Sums:=addS (addS (addS (addS S3 105 s105) 112 s112) 117 s111) 120 s110
def S5:Sums:=addS S4 64 s57
theorem eChk0 {a b:Int}:eChk a b=0↔a=0∨(a=1∨a = -1)/\b=0:=by unfold eChk;split<;>simp_all
theorem cmpI_cases (a b:Int):a<b/\cmpI a b = -1∨a=b/\cmpI a b=0∨b<a/\cmpI a b=1:=by unfold cmpI;split<;>(try split)<;>omega
theorem cmpE_cases (a b c d:Int):(a<c∨a=c/\b<d)/\cmpE a b c d = -1∨(a=c/\b=d)/\cmpE a b c d=0∨(c<a∨a=c/\d<b)/\cmpE a b c d=1:=by
 have h1:=cmpI_cases a c
 have h2:=cmpI_cases b d
 unfold cmpE;split<;>omega
def hasB (a b c d n:Int):Bool:=decide ((a = -1∨b≤n)/\(c=1∨n≤d))
def s300:Sum:=fun args=>match args with
 | [.agg [.int .i8 a,.int .i64 b,.int .i8 c,.int .i64 d],.int .i64 n]=>some (.ret (.bool (hasB a b c d n)))
 | _=>none
def S6:Sums:=addS S5 300 s300
def begB (a b c d e f:Int):Bool:=decide (e = -1/\a = -1∨e≠-1/\hasB a b c d f=true)
def s237:Sum:=fun args=>match args with
 | [.agg [.int .i8 a,.int .i64 b,.int .i8 c,.int .i64 d],.agg [.int .i8 e,.int .i64 f,.int .i8 g,.int .i64 h]]=>some (.ret (.bool (begB a b c d e f)))
 | _=>none
def adjB (c d e f:Int):Bool:=decide (c=0/\e=0/\d<9223372036854775807/\d+1=f)
def s184:Sum:=fun args=>match args with
 | [.agg [.int .i8 a,.int .i64 b,.int .i8 c,.int .i64 d],.agg [.int .i8 e,.int .i64 f,.int .i8 g,.int .i64 h]]=>some (asrt (inR .i64 d) (.ret (.bool (adjB c d e f))))
 | _=>none
def S7:Sums:=addS (addS S6 237 s237) 184 s184
def tchB (a b c d e f g h:Int):Bool:=decide (begB a b c d e f=true∨begB e f g h a b=true∨adjB c d e f=true∨adjB g h a b=true)
def s118:Sum:=fun args=>match args with
 | [.agg [.int .i8 a,.int .i64 b,.int .i8 c,.int .i64 d],.agg [.int .i8 e,.int .i64 f,.int .i8 g,.int .i64 h]]=>some (asrt (inR .i64 d) (asrt (inR .i64 h) (.ret (.bool (tchB a b c d e f g h)))))
 | _=>none
theorem w64 (a b c d:Int) {Q:AV->Prop}:ask Q (bodyT tab cfg S4 1000 64 [vRun a b c d]) (.e (.e (.b (.t (.e (.e (.t (.t (.f (.b .z (.e (.b (.t (.t (.e (.t (.f (.b .z (.e (.e (.e (.e (.b .z .z))))))))))) (.f (.f (.f (.t (.e .z)))))))))))))) (.f (.f (.f (.t (.e .z))))))))=((Bool.not (Bool.not (intEq (eChk a b) 0))=true->(Bool.not (Bool.not (intEq (eChk a b) 0))=true/\(Bool.not (Bool.not (intEq (eChk a b) 0))=true/\(Bool.not (Bool.not (intEq (eChk a b) 0))=true/\(Bool.not (intEq (eChk a b) 0)=false/\((Bool.not (intEq (eChk c d) 0)=true->Q (AV.int .i64 5))/\(Bool.not (intEq (eChk c d) 0)=false->((Bool.not (intEq a 1)=true->(Bool.not (intEq a 1)=true/\(Bool.not (intEq a 1)=true/\(Bool.not (intEq a 1)=true/\(intEq a 1=false/\((intEq c (Neg.neg 1)=true->Q (AV.int .i64 4))/\(intEq c (Neg.neg 1)=false->((intEq (cmpE a b c d) 1=true->Q (AV.int .i64 12))/\(intEq (cmpE a b c d) 1=false->Q (AV.int .i64 0))))))))))/\(Bool.not (intEq a 1)=false->(Bool.not (intEq a 1)=false/\(Bool.not (intEq a 1)=false/\(Bool.not (intEq a 1)=false/\(intEq a 1=true/\Q (AV.int .i64 4))))))))))))))/\(Bool.not (Bool.not (intEq (eChk a b) 0))=false->(Bool.not (Bool.not (intEq (eChk a b) 0))=false/\(Bool.not (Bool.not (intEq (eChk a b) 0))=false/\(Bool.not (Bool.not (intEq (eChk a b) 0))=false/\(Bool.not (intEq (eChk a b) 0)=true/\Q (AV.int .i64 5))))))):=by kernel_rfl
theorem w300 (a b c d n:Int) {Q:AV->Prop}:ask Q (bodyT tab cfg S4 1000 300 [vRun a b c d,.int .i64 n]) (.e (.b (.t (.t (.e (.t (.t (.f (.b (.t (.t (.e (.t (.t (.b (.t (.t (.t (.e (.t (.t (.f (.t .z)))))))) (.f (.f (.f (.f (.t (.t (.t .z))))))))))))) (.f (.f (.f (.f (.e (.e (.e (.e (.e (.f (.f .z)))))))))))))))))) (.f (.f (.f (.f (.t (.e (.e (.e (.e (.e (.e (.b (.t (.t (.t (.e (.t (.e (.f (.e .z)))))))) (.f (.f (.f (.f (.e (.t (.e .z)))))))))))))))))))))=((Bool.not (intEq a (Neg.neg 1))=true->(Bool.not (intEq a (Neg.neg 1))=true/\(Bool.not (intEq a (Neg.neg 1))=true/\(Bool.not (intEq a (Neg.neg 1))=true/\(Bool.not (intEq a (Neg.neg 1))=true/\(intEq a (Neg.neg 1)=false/\((intLe b n=true->(intLe b n=true/\(intLe b n=true/\(intLe b n=true/\(intLe b n=true/\((Bool.not (intEq c 1)=true->(Bool.not (intEq c 1)=true/\(Bool.not (intEq c 1)=true/\(Bool.not (intEq c 1)=true/\(Bool.not (intEq c 1)=true/\(intLe b n=true/\(intEq c 1=false/\(intLe b n=true/\Q (AV.bool (intLe n d))))))))))/\(Bool.not (intEq c 1)=false->(Bool.not (intEq c 1)=false/\(Bool.not (intEq c 1)=false/\(Bool.not (intEq c 1)=false/\(Bool.not (intEq c 1)=false/\(intLe b n=true/\(intEq c 1=true/\(intLe b n=true/\Q (AV.bool Bool.true)))))))))))))))/\(intLe b n=false->(intLe b n=false/\(intLe b n=false/\(intLe b n=false/\(intLe b n=false/\(intLe b n=false/\(intLe b n=false/\Q (AV.bool Bool.false)))))))))))))))/\(Bool.not (intEq a (Neg.neg 1))=false->(Bool.not (intEq a (Neg.neg 1))=false/\(Bool.not (intEq a (Neg.neg 1))=false/\(Bool.not (intEq a (Neg.neg 1))=false/\(Bool.not (intEq a (Neg.neg 1))=false/\(intEq a (Neg.neg 1)=true/\((Bool.not (intEq c 1)=true->(Bool.not (intEq c 1)=true/\(Bool.not (intEq c 1)=true/\(Bool.not (intEq c 1)=true/\(Bool.not (intEq c 1)=true/\(intEq c 1=false/\Q (AV.bool (intLe n d))))))))/\(Bool.not (intEq c 1)=false->(Bool.not (intEq c 1)=false/\(Bool.not (intEq c 1)=false/\(Bool.not (intEq c 1)=false/\(Bool.not (intEq c 1)=false/\(intEq c 1=true/\Q (AV.bool Bool.true))))))))))))))):=by kernel_rfl
theorem w237 (a b c d e f g h:Int) {Q:AV->Prop}:ask Q (bodyT tab cfg S6 1000 237 [vRun a b c d,vRun e f g h]) (.e (.b (.e .z) (.e (.e (.e (.e (.e .z)))))))=((intEq e (Neg.neg 1)=true->Q (AV.bool (intEq a (Neg.neg 1))))/\(intEq e (Neg.neg 1)=false->Q (AV.bool (hasB a b c d f)))):=by kernel_rfl
theorem w184 (a b c d e f g h:Int) (hd : -9223372036854775808≤d/\d≤9223372036854775807) {Q:AV->Prop}:ask Q (bodyT tab cfg S4 1000 184 [vRun a b c d,vRun e f g h]) (.e (.b (.t (.t (.e (.t (.t (.b (.t (.t (.e (.t (.t (.b (.t (.t (.e (.t (.t (.t (.t (.t (.e (.t (.t .z))))))))))) (.f (.f (.f (.f (.f (.f (.f (.f .z)))))))))))))) (.f (.f (.f (.f (.e (.e (.e (.e (.e (.e (.e (.e (.e .z))))))))))))))))))) (.f (.f (.f (.f (.e (.e (.e (.e (.e (.e (.e (.e (.e (.e (.e (.e (.e (.e .z))))))))))))))))))))=((intEq c 0=true->(intEq c 0=true/\(intEq c 0=true/\(intEq c 0=true/\(intEq c 0=true/\((intEq e 0=true->(intEq e 0=true/\(intEq e 0=true/\(intEq e 0=true/\(intEq e 0=true/\((Bool.not (intLe 9223372036854775807 d)=true->(Bool.not (intLe 9223372036854775807 d)=true/\(Bool.not (intLe 9223372036854775807 d)=true/\(Bool.not (intLe 9223372036854775807 d)=true/\(inR .i64 (Int.add d 1)=true/\(Bool.not (intLe 9223372036854775807 d)=true/\(Bool.not (intLe 9223372036854775807 d)=true/\(Bool.not (intLe 9223372036854775807 d)=true/\(Bool.not (intLe 9223372036854775807 d)=true/\(Bool.not (intLe 9223372036854775807 d)=true/\Q (AV.bool (intEq (Int.add d 1) f))))))))))))/\(Bool.not (intLe 9223372036854775807 d)=false->(Bool.not (intLe 9223372036854775807 d)=false/\(Bool.not (intLe 9223372036854775807 d)=false/\(Bool.not (intLe 9223372036854775807 d)=false/\(Bool.not (intLe 9223372036854775807 d)=false/\(Bool.not (intLe 9223372036854775807 d)=false/\(Bool.not (intLe 9223372036854775807 d)=false/\(Bool.not (intLe 9223372036854775807 d)=false/\(Bool.not (intLe 9223372036854775807 d)=false/\Q (AV.bool Bool.false))))))))))))))))/\(intEq e 0=false->(intEq e 0=false/\(intEq e 0=false/\(intEq e 0=false/\(intEq e 0=false/\Q (AV.bool Bool.false))))))))))))/\(intEq c 0=false->(intEq c 0=false/\(intEq c 0=false/\(intEq c 0=false/\(intEq c 0=false/\Q (AV.bool Bool.false))))))):=by kernel_rfl
theorem w118 (a b c d e f g h:Int) (hd : -9223372036854775808≤d/\d≤9223372036854775807) (hh : -9223372036854775808≤h/\h≤9223372036854775807) {Q:AV->Prop}:ask Q (bodyT tab cfg S7 1000 118 [vRun a b c d,vRun e f g h]) (.e (.e (.e (.e (.e (.e (.e (.e (.e (.e (.e (.e (.e (.e (.e (.e (.b (.e (.e (.e (.e (.t (.e (.e (.e (.e (.t (.f (.b (.e (.e (.e (.e (.t (.e (.e (.e (.e (.t (.t (.f (.b (.e (.e (.e (.e (.t (.e (.e (.e (.e (.t (.t (.f .z)))))))))))) (.f (.f (.t .z)))))))))))))))) (.f (.f (.t (.e (.e (.e (.e .z))))))))))))))))))) (.f (.f (.t (.e (.e (.e (.e (.e (.e (.e (.e .z))))))))))))))))))))))))))))=((Bool.not (begB a b c d e f)=true->(Bool.not (begB a b c d e f)=true/\(Bool.not (begB a b c d e f)=true/\(begB a b c d e f=false/\((Bool.not (begB e f g h a b)=true->(Bool.not (begB e f g h a b)=true/\(Bool.not (begB e f g h a b)=true/\(inR .i64 d=true/\(begB e f g h a b=false/\((Bool.not (adjB c d e f)=true->(Bool.not (adjB c d e f)=true/\(Bool.not (adjB c d e f)=true/\(inR .i64 h=true/\(adjB c d e f=false/\Q (AV.bool (adjB g h a b)))))))/\(Bool.not (adjB c d e f)=false->(Bool.not (adjB c d e f)=false/\(Bool.not (adjB c d e f)=false/\(adjB c d e f=true/\Q (AV.bool Bool.true)))))))))))/\(Bool.not (begB e f g h a b)=false->(Bool.not (begB e f g h a b)=false/\(Bool.not (begB e f g h a b)=false/\(begB e f g h a b=true/\Q (AV.bool Bool.true))))))))))/\(Bool.not (begB a b c d e f)=false->(Bool.not (begB a b c d e f)=false/\(Bool.not (begB a b c d e f)=false/\(begB a b c d e f=true/\Q (AV.bool Bool.true)))))):=by kernel_rfl
theorem s105_ok:SumOK Tryz.prog cfg 105 s105:=by (intro args t v he hv;unfold s105 at he;split at he<;>first|(cases he;cases hv;apply f105;done)|(cases he;done))
theorem s112_ok:SumOK Tryz.prog cfg 112 s112:=by
 intro args t v he hv
 unfold s112 at he
 split at he
 · cases he
   obtain ⟨h1,hv⟩:=asrt_run hv
   obtain ⟨h2,hv⟩:=asrt_run hv
   cases hv
   exact f112 _ _ _ _ _ _ _ _ (q_inR_t.mp h1) (q_inR_t.mp h2)
 · cases he
theorem s117_ok:SumOK Tryz.prog cfg 117 s111:=by (intro args t v he hv;unfold s111 at he;split at he<;>first|(cases he;cases hv;apply f117;done)|(cases he;done))
theorem s120_ok:SumOK Tryz.prog cfg 120 s110:=by (intro args t v he hv;unfold s110 at he;split at he<;>first|(cases he;cases hv;apply f120;done)|(cases he;done))
theorem S4_ok:SumsOK Tryz.prog cfg S4:=sums_add (sums_add (sums_add (sums_add S3_ok s105_ok) s112_ok) s117_ok) s120_ok
theorem f64 (a b c d:Int):Fact Tryz.prog cfg 64 [vRun a b c d] (.int .i64 (rChk a b c d)):=
 base0.ask S4_ok ((w64 ..).mpr (by
  have h1:=cmpE_cases a b c d
  have h2:=@eChk0 a b
  have h3:=@eChk0 c d
  simp only [q_all,reduceCtorEq,loK,hiK,ne_eq];(repeat' first|exact trivial|refine ⟨?_,?_⟩|intro)<;>((try simp only [q_inj,eq_comm (a:=true),eq_comm (a:=false),rChk] at *)<;>(repeat' split)<;>(first|omega|(simp_all;done)|(simp_all;omega)))))
theorem s64_ok:SumOK Tryz.prog cfg 64 s57:=by (intro args t v he hv;unfold s57 at he;split at he<;>first|(cases he;cases hv;apply f64;done)|(cases he;done))
theorem S5_ok:SumsOK Tryz.prog cfg S5:=sums_add S4_ok s64_ok
theorem f300 (a b c d n:Int):Fact Tryz.prog cfg 300 [vRun a b c d,.int .i64 n] (.bool (hasB a b c d n)):=
 base0.ask S4_ok ((w300 ..).mpr (by simp only [q_all,reduceCtorEq,loK,hiK,ne_eq];(repeat' first|exact trivial|refine ⟨?_,?_⟩|intro)<;>(first|omega|(rw [AV.bool.injEq,Bool.eq_iff_iff]<;>simp only [q_add,q_sub,q_mul,q_eq_t,q_le_t,q_not_t,q_and_t,q_or_t,q_eq_f,q_le_f,decide_eq_true_eq,and_true,Bool.false_eq_true,true_iff,false_iff,iff_true,iff_false,hasB]<;>(try simp only [])<;>first|omega|(simp_all;done)|(simp_all;omega)))))
theorem s300_ok:SumOK Tryz.prog cfg 300 s300:=by (intro args t v he hv;unfold s300 at he;split at he<;>first|(cases he;cases hv;apply f300;done)|(cases he;done))
theorem S6_ok:SumsOK Tryz.prog cfg S6:=sums_add S5_ok s300_ok
theorem f237 (a b c d e f g h:Int):Fact Tryz.prog cfg 237 [vRun a b c d,vRun e f g h] (.bool (begB a b c d e f)):=
 base0.ask S6_ok ((w237 ..).mpr (by simp only [q_all,reduceCtorEq,loK,hiK,ne_eq];(repeat' first|exact trivial|refine ⟨?_,?_⟩|intro)<;>(first|omega|(rw [AV.bool.injEq,Bool.eq_iff_iff]<;>simp only [q_add,q_sub,q_mul,q_eq_t,q_le_t,q_not_t,q_and_t,q_or_t,q_eq_f,q_le_f,decide_eq_true_eq,and_true,Bool.false_eq_true,true_iff,false_iff,iff_true,iff_false,begB]<;>(try simp only [])<;>first|omega|(simp_all;done)|(simp_all;omega)))))
theorem s237_ok:SumOK Tryz.prog cfg 237 s237:=by (intro args t v he hv;unfold s237 at he;split at he<;>first|(cases he;cases hv;apply f237;done)|(cases he;done))
theorem f184 (a b c d e f g h:Int) (hd : -9223372036854775808≤d/\d≤9223372036854775807):Fact Tryz.prog cfg 184 [vRun a b c d,vRun e f g h] (.bool (adjB c d e f)):=
 base0.ask S4_ok ((w184 (hd:=hd) ..).mpr (by simp only [q_all,reduceCtorEq,loK,hiK,ne_eq];(repeat' first|exact trivial|refine ⟨?_,?_⟩|intro)<;>(first|omega|(rw [AV.bool.injEq,Bool.eq_iff_iff]<;>simp only [q_add,q_sub,q_mul,q_eq_t,q_le_t,q_not_t,q_and_t,q_or_t,q_eq_f,q_le_f,decide_eq_true_eq,and_true,Bool.false_eq_true,true_iff,false_iff,iff_true,iff_false,adjB]<;>(try simp only [])<;>first|omega|(simp_all;done)|(simp_all;omega)))))
theorem s184_ok:SumOK Tryz.prog cfg 184 s184:=by
 intro args t v he hv
 unfold s184 at he
 split at he
 · cases he
   obtain ⟨h1,hv⟩:=asrt_run hv
   cases hv
   exact f184 _ _ _ _ _ _ _ _ (q_inR_t.mp h1)
 · cases he
theorem S7_ok:SumsOK Tryz.prog cfg S7:=sums_add (sums_add S6_ok s237_ok) s184_ok
theorem f118 (a b c d e f g h:Int) (hd : -9223372036854775808≤d/\d≤9223372036854775807) (hh : -9223372036854775808≤h/\h≤9223372036854775807):Fact Tryz.prog cfg 118 [vRun a b c d,vRun e f g h] (.bool (tchB a b c d e f g h)):=
 base0.ask S7_ok ((w118 (hd:=hd) (hh:=hh) ..).mpr (by simp only [q_all,reduceCtorEq,loK,hiK,ne_eq];(repeat' first|exact trivial|refine ⟨?_,?_⟩|intro)<;>(first|omega|(rw [AV.bool.injEq,Bool.eq_iff_iff]<;>simp only [q_add,q_sub,q_mul,q_eq_t,q_le_t,q_not_t,q_and_t,q_or_t,q_eq_f,q_le_f,decide_eq_true_eq,and_true,Bool.false_eq_true,true_iff,false_iff,iff_true,iff_false,tchB]<;>(try simp only [])<;>first|omega|(simp_all;done)|(simp_all;omega)))))
theorem s118_ok:SumOK Tryz.prog cfg 118 s118:=by
 intro args t v he hv
 unfold s118 at he
 split at he
 · cases he
   obtain ⟨h1,hv⟩:=asrt_run hv
   obtain ⟨h2,hv⟩:=asrt_run hv
   cases hv
   exact f118 _ _ _ _ _ _ _ _ (q_inR_t.mp h1) (q_inR_t.mp h2)
 · cases he
end Go.Ev
end
section
namespace Go.Ev
open Go Go.RowKit
def Sem (P:Program) (cfg:Cfg) (C:Ctx) (c:Code) (st:St) (Q:AX×St->Prop):Prop:=
 ∀D m a w,Inv cfg D m C st.o w->TR D m st a->∀K:Exit->Act->World->Prop,
  (∀r,Q r->r.2.ro=st.ro->∀D' m' a' w',TR D' m' r.2 a'->Ext cfg C D m st.o w D' m' r.2.o w'->K (exitOf r.1) a' w')->c.wpIn (FR (roB m st.ro)) 0 P K a w
def thenQ (F:St->Prop) (Q:AX×St->Prop) (r:AX×St):Prop:=match r.1 with
 | .normal=>F r.2
 | _=>Q r
section
variable {P:Program} {cfg:Cfg} {C:Ctx} {st:St} {Q:AX×St->Prop}
theorem Sem.mono {c:Code} {Q':AX×St->Prop} (h:Sem P cfg C c st Q) (hq:∀r,Q r->Q' r):Sem P cfg C c st Q':=fun D m a w hi ht K hK=>h D m a w hi ht K fun r hr=>hK r (hq r hr)
theorem sem_code {T:Tab} (g:Good P T cfg) {n:Nat} {c:Code} {r:AX×St} (h:codeA T cfg n C c st=some r) (hq:Q r):Sem P cfg C c st Q:=fun D m a w hi ht K hK=>
 (code_ok g.tab g.mixed g.lv g.orc g.foot n).1 C c st r h D m a w hi ht K fun D' m' a' w' ht' he=>hK r hq (code_ll g.foot n C c st r h).2 D' m' a' w' ht' he
theorem sem_seq {c1 c2:Code} (h:Sem P cfg C c1 st (thenQ (fun st'=>Sem P cfg C c2 st' Q) Q)):Sem P cfg C (.seq c1 c2) st Q:=by
 intro D m a w hi ht K hK
 refine wpIn_seq (h D m a w hi ht _ fun r hr hro D' m' a' w' ht' he=>?_)
 have fr:roB m' r.2.ro=roB m st.ro:=by rw [hro,roB_same ht.roD he.same]
 unfold thenQ at hr
 cases hx:r.1 with
 | normal=>
   rw [hx] at hr
   have:=hr D' m' a' w' he.inv ht' K fun r2 hr2 hro2 D2 m2 a2 w2 ht2 he2=>hK r2 hr2 (hro2.trans hro) D2 m2 a2 w2 ht2 (he.trans he2)
   rw [fr] at this
   exact this
 | exit id=>rw [hx] at hr;have:=hK r hr hro D' m' a' w' ht' he;rw [hx] at this;exact this
 | ret=>rw [hx] at hr;have:=hK r hr hro D' m' a' w' ht' he;rw [hx] at this;exact this
theorem sem_block {id:Nat} {b:Code} (h:Sem P cfg C b st fun r=>Q (leaveA id r)):Sem P cfg C (.block id b) st Q:=by
 intro D m a w hi ht K hK
 refine wpIn_block (h D m a w hi ht _ fun r hr hro D' m' a' w' ht' he=>?_)
 have hr:Q (leaveA id r):=hr
 unfold leaveA at hr
 cases hx:r.1 with
 | normal=>rw [hx] at hr;have:=hK r hr hro D' m' a' w' ht' he;rw [hx] at this;exact this
 | ret=>rw [hx] at hr;have:=hK r hr hro D' m' a' w' ht' he;rw [hx] at this;exact this
 | exit j=>
   rw [hx] at hr
   simp only at hr
   by_cases e:j=id
   · rw [beqT e,cond_true] at hr
     have:=hK _ hr hro D' m' a' w' ht' he
     simpa [Exit.inBlock,e,exitOf] using this
   · rw [beqF e,cond_false] at hr
     have:=hK _ hr hro D' m' a' w' ht' he
     rw [hx] at this
     simpa [Exit.inBlock,e,exitOf] using this
theorem sem_scope {b:Code} (h:Sem P cfg C b st Q):Sem P cfg C (.scope b) st Q:=by
 intro D m a w hi ht K hK
 refine wpIn_scope_straight (h D m a w hi ht _ fun r hr hro D' m' a' w' ht' he=>?_)
 have:=hK r hr hro D' m' a' w' ht' he
 cases hre:r.1<;>rw [hre] at this<;>exact this
theorem sem_skip (h:Q (.normal,st)):Sem P cfg C .skip st Q:=fun D m a w hi ht K hK=>wpIn_skip (hK _ h rfl D m a w ht (Ext.refl hi))
theorem sem_label {l:Nat} (h:Q (.normal,st)):Sem P cfg C (.label l) st Q:=fun D m a w hi ht K hK=>wpIn_label (hK _ h rfl D m a w ht (Ext.refl hi))
theorem sem_exit {id:Nat} (h:Q (.exit id,st)):Sem P cfg C (.exit id) st Q:=fun D m a w hi ht K hK=>wpIn_exit (hK _ h rfl D m a w ht (Ext.refl hi))
theorem sem_ret (h:Q (.ret,st)):Sem P cfg C .ret st Q:=fun D m a w hi ht K hK=>wpIn_ret (hK _ h rfl D m a w ht (Ext.refl hi))
theorem sem_cond {x:Operand} {b:Bool} {c1 c2:Code} (hv:evalA cfg.G st.ts x=some (.bool b)) (h1:b=true->Sem P cfg C c1 st Q) (h2:b=false->Sem P cfg C c2 st Q):Sem P cfg C (.cond x c1 c2) st Q:=by
 intro D m a w hi ht K hK
 obtain ⟨e,_⟩:=evalA_conc hi ht hv
 cases b with
 | true=>exact wpIn_cond_true (by rw [e];simp [conc]) (h1 rfl D m a w hi ht K hK)
 | false=>exact wpIn_cond_false (by rw [e];simp [conc]) (h2 rfl D m a w hi ht K hK)
def Wk (cfg:Cfg) (C:Ctx) (k:Nat) (st:St) (A:St->Prop):Prop:=
 ∀D m a w,Inv cfg D m C st.o w->TR D m st a->∃st' D' m',A st'/\TR D' m' st' a/\st'.ro=st.ro/\roB m' st'.ro=roB m st.ro/\Inv cfg D' m' C st'.o w/\
  ∀D0 m0 o0 w0,o0.n≤k->(∀i,D0 i->i<C.lo+o0.n)->Ext cfg C D0 m0 o0 w0 D m st.o w->Ext cfg C D0 m0 o0 w0 D' m' st'.o w
theorem Wk.mono {k:Nat} {A B:St->Prop} (h:Wk cfg C k st A) (hab:∀s,A s->B s):Wk cfg C k st B:=fun D m a w hi ht=>by
 obtain ⟨s,D',m',hA,h1⟩:=h D m a w hi ht
 exact ⟨s,D',m',hab s hA,h1⟩
theorem Wk.refl {k:Nat} {A:St->Prop} (h:A st):Wk cfg C k st A:=fun D m a w hi ht=>⟨st,D,m,h,ht,rfl,rfl,hi,fun _ _ _ _ _ _ h=>h⟩
theorem Wk.trans {k:Nat} {A B:St->Prop} (h:Wk cfg C k st A) (hb:∀s,A s->Wk cfg C k s B):Wk cfg C k st B:=fun D m a w hi ht=>by
 obtain ⟨s,D1,m1,hA,h1,h2,h3,h4,h5⟩:=h D m a w hi ht
 obtain ⟨t,D2,m2,hB,k1,k2,k3,k4,k5⟩:=hb s hA D1 m1 a w h4 h1
 exact ⟨t,D2,m2,hB,k1,k2.trans h2,k3.trans h3,k4,fun D0 m0 o0 w0 ho hl he=>k5 _ _ _ _ ho hl (h5 _ _ _ _ ho hl he)⟩
theorem sem_pre {k:Nat} {A:St->Prop} {c:Code} (h:Wk cfg C k st A) (hk:st.o.n≤k) (hs:∀s,A s->Sem P cfg C c s Q):Sem P cfg C c st Q:=by
 intro D m a w hi ht K hK
 obtain ⟨s,D1,m1,hA,h1,h2,h3,h4,h5⟩:=h D m a w hi ht
 have:=hs s hA D1 m1 a w h4 h1 K fun r hr hro D' m' a' w' ht' he=>hK r hr (hro.trans h2) D' m' a' w' ht' ((h5 _ _ _ _ hk hi.lt (Ext.refl hi)).trans he)
 rw [h3] at this
 exact this
theorem sem_post {k:Nat} {c:Code} {Q':AX×St->Prop} (h:Sem P cfg C c st Q') (hk:st.o.n≤k) (hw:∀r,Q' r->Wk cfg C k r.2 fun s=>Q (r.1,s)):Sem P cfg C c st Q:=by
 intro D m a w hi ht K hK
 refine h D m a w hi ht K fun r hr hro D' m' a' w' ht' he=>?_
 obtain ⟨s,D1,m1,hA,h1,h2,h3,h4,h5⟩:=hw r hr D' m' a' w' he.inv ht'
 exact hK (r.1,s) hA (h2.trans hro) D1 m1 a' w' h1 (h5 _ _ _ _ hk hi.lt he)
theorem sem_loop {ι:Type} (μ:ι->Nat) (S:ι->St->Prop) {k:Nat} {b:Code} (h0:Wk cfg C k st fun s=>∃x,S x s) (hk:st.o.n≤k)
 (hr:∀x s,S x s->Sem P cfg C b s (thenQ (fun s'=>Wk cfg C k s' fun s2=>∃y,μ y<μ x/\S y s2) Q)):Sem P cfg C (.loop b) st Q:=by
 intro D m a w hi ht K hK
 have key:∀n x s D1 m1 a1 w1,S x s->μ x<n->TR D1 m1 s a1->Ext cfg C D m st.o w D1 m1 s.o w1->s.ro=st.ro->roB m1 s.ro=roB m st.ro->Code.roundsIn (FR (roB m st.ro)) 0 P b K n a1 w1:=by
  intro n
  induction n with
  | zero=>intro x s D1 m1 a1 w1 _ h;omega
  | succ n ih=>
    intro x s D1 m1 a1 w1 hs hμ ht1 he1 hro1 hf1
    rw [roundsIn_succ,←hf1]
    refine hr x s hs D1 m1 a1 w1 he1.inv ht1 _ fun r hq hro D2 m2 a2 w2 ht2 he2=>?_
    rw [hf1]
    have he:=he1.trans he2
    have fr:roB m2 r.2.ro=roB m st.ro:=by rw [hro,roB_same ht1.roD he2.same,hf1]
    unfold thenQ at hq
    cases hx:r.1 with
    | normal=>
      rw [hx] at hq
      obtain ⟨s2,D3,m3,⟨y,hy,hS⟩,h1,h2,h3,h4,h5⟩:=hq D2 m2 a2 w2 he2.inv ht2
      exact ih y s2 D3 m3 a2 w2 hS (by omega) h1 (h5 _ _ _ _ hk hi.lt he) (h2.trans (hro.trans hro1)) (h3.trans fr)
    | exit id=>rw [hx] at hq;have:=hK r hq (hro.trans hro1) D2 m2 a2 w2 ht2 he;rw [hx] at this;exact this
    | ret=>rw [hx] at hq;have:=hK r hq (hro.trans hro1) D2 m2 a2 w2 ht2 he;rw [hx] at this;exact this
 obtain ⟨s,D1,m1,⟨x,hS⟩,h1,h2,h3,h4,h5⟩:=h0 D m a w hi ht
 exact wpIn_loop_rounds (μ x+1) (key _ x s D1 m1 a w hS (Nat.lt_succ_self _) h1 (h5 _ _ _ _ hk hi.lt (Ext.refl hi)) h2 h3)
end
section
variable {P:Program} {T:Tab} (hT:TabOK P T) {cfg:Cfg}
include hT
theorem sem_enter {f:FuncId} {fn:Func} {c:Code} (hb:bodyOf T f=some (fn,c)) {C:Ctx} {D:Nat->Prop} {m:Nat->Loc} {args:List AV} {o0:Own} {w:World} (hlen:args.length≤1000) {R:AV×Own->Prop}
 (h:Sem P cfg C c (startA fn args o0) fun x=>∃r,endA T C fn x=some r/\R r)
 (hi:Inv cfg D m C o0 w) (hok:okL D m args) {RR:Value->World->Prop} (hR:∀r D' m' w',R r->okV D' m' r.1->Ext cfg C D m o0 w D' m' r.2 w'->RR (conc m' r.1) w') :
 (callFunc f (concL m args).toArray).run P w=.ok (.enter f (concL m args).toArray) w/\Calls P f (concL m args).toArray w fun e w'=>∃v,e=.returned v/\RR v w':=by
 simp only [bodyOf,ob_some,Option.some.injEq,Prod.mk.injEq] at hb
 obtain ⟨fn',hfn,c',hbody,rfl,rfl⟩:=hb
 obtain ⟨hf,hname⟩:=hT.fn f fn' hfn
 refine ⟨by simp [callFunc,hf,hname,hbody],callsIn_wide.1 (callsIn_of_wp_marks (n:=0) hf hbody trivial ?_)⟩
 refine h D m _ w hi (start_TR hT hlen hok) _ fun x hx hro D' m' a' w' ht he=>?_
 obtain ⟨r,hend,hRr⟩:=hx
 have this:LeavesInM Fence.wide 0 P fn' a'.tmps (fun e w''=>∃v,e=.returned v/\RR v w'') a'.defers .returning w'/\∀id,x.1≠.exit id:=by
  unfold endA at hend
  split at hend
  · cases hend
  · rename_i hne
    simp only [ob_some,Option.some.injEq] at hend
    obtain ⟨o,hmk,vs,hres,rfl⟩:=hend
    refine ⟨?_,fun id e=>hne id e⟩
    rw [ht.defers]
    refine leaves_ok hmk he.inv ht.dsD fun w2 he2=>?_
    have ht2:TR D' m' ⟨x.2.ts,x.2.tn,o,[],none⟩ ⟨a'.tmps,[]⟩:=⟨ht.size,ht.at',ht.okt,rfl,fun d hd=>(by cases hd),fun i hi=>(by cases hi)⟩
    obtain ⟨h1,h2⟩:=results_ok hT he2.inv ht2 hres
    exact ⟨_,h1,_,rfl,hR _ D' m' w2 hRr h2 (he.trans he2)⟩
 cases hxe:x.1 with
 | normal=>exact this.1
 | ret=>exact this.1
 | exit id=>exact absurd hxe (this.2 id)
end
end Go.Ev
end
