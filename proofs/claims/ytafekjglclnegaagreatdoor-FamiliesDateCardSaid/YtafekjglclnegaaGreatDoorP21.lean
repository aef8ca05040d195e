import Derived.Laws.Runes
import Derived.WalkMore
import Derived.Test.YtafekjglclnegaaGreatDoorP20
import Derived.Test.YtafekjglclnegaaGreatDoorP02
set_option linter.all false
section
set_option maxRecDepth 100000
namespace Go.Ev
open Go Go.Proofs
def twoD (n:Int):List UInt8:=[UInt8.ofNat (48+(n/10).toNat),UInt8.ofNat (48+(n%10).toNat)]
def s133:Sum:=fun args=>match args with
 | [.int .i64 n]=>some (asrts [intLe 0 n,intLe n 99] (.ret (.str (twoD n))))
 | _=>none
def T4:Sums:=addP T3 133 s133
def agB (s:List UInt8) (i:Nat) (d:Int):Bool:=decide ((s.getD i 0).toNat=88) || decide (((s.getD i 0).toNat:Int)=48+d)
def agr (s:List UInt8) (n:Int):Bool:=decide (s.length=2)&&(agB s 0 (n/10)&&agB s 1 (n%10))
def s186:Sum:=fun args=>match args with
 | [.str s,.int .i64 n]=>some (asrts [intLe 0 n,intLe n 99] (.ret (.int .i64 (bI (agr s n)))))
 | _=>none
def T5:Sums:=addP T4 186 s186
def someA (s:List UInt8) (g:Nat):Bool:=(List.range g).any fun k=>agr s (k+1)
def seasR (mo:List UInt8):Int:=bif bytesEq mo [UInt8.ofNat 50,UInt8.ofNat 49] then 21 else bif bytesEq mo [UInt8.ofNat 50,UInt8.ofNat 50] then 22 else bif bytesEq mo [UInt8.ofNat 50,UInt8.ofNat 51] then 23 else bif bytesEq mo [UInt8.ofNat 50,UInt8.ofNat 52] then 24 else bif bytesEq mo [UInt8.ofNat 50,UInt8.ofNat 53] then 25 else bif bytesEq mo [UInt8.ofNat 50,UInt8.ofNat 54] then 26 else bif bytesEq mo [UInt8.ofNat 50,UInt8.ofNat 55] then 27 else bif bytesEq mo [UInt8.ofNat 50,UInt8.ofNat 56] then 28 else bif bytesEq mo [UInt8.ofNat 50,UInt8.ofNat 57] then 29 else bif bytesEq mo [UInt8.ofNat 51,UInt8.ofNat 48] then 30 else bif bytesEq mo [UInt8.ofNat 51,UInt8.ofNat 49] then 31 else bif bytesEq mo [UInt8.ofNat 51,UInt8.ofNat 50] then 32 else bif bytesEq mo [UInt8.ofNat 51,UInt8.ofNat 51] then 33 else bif bytesEq mo [UInt8.ofNat 51,UInt8.ofNat 52] then 34 else bif bytesEq mo [UInt8.ofNat 51,UInt8.ofNat 53] then 35 else bif bytesEq mo [UInt8.ofNat 51,UInt8.ofNat 54] then 36 else bif bytesEq mo [UInt8.ofNat 51,UInt8.ofNat 55] then 37 else bif bytesEq mo [UInt8.ofNat 51,UInt8.ofNat 56] then 38 else bif bytesEq mo [UInt8.ofNat 51,UInt8.ofNat 57] then 39 else bif bytesEq mo [UInt8.ofNat 52,UInt8.ofNat 48] then 40 else bif bytesEq mo [UInt8.ofNat 52,UInt8.ofNat 49] then 41 else 0
def compsR (mo da:List UInt8):Int:=1+(bif bytesEq mo [] then 0 else 1)+(bif bytesEq da [] then 0 else 1)
def errMk (a b c n:Int):Int:=if n<1∨3<n then 4 else if 3<a∨(n≤0/\0<a)∨3<b∨(n≤1/\0<b)∨3<c∨(n≤2/\0<c) then 9 else 0
def v125:LoopV:=fun vs o=>match vs,o with
 | [.str s,.int .i64 g,.int .i64 r,.int .i64 i],⟨0,[],[]⟩=>some (asrts [intLe 0 g,intLe g 99,intEq r 0,intEq i 1]
   (.test (someA s g.toNat) fun b=>bif b then .all fun J=>.ret (.ret,[.str s,.int .i64 g,.int .i64 1,.any (J 0)],own0) else .ret (.exit 0,[.str s,.int .i64 g,.int .i64 0,.int .i64 (g+1)],own0)))
 | _,_=>none
def L125:Loops:=addL noL 0 (loopE 15 [0,1,4,5] v125)
def s125:Sum:=fun args=>match args with
 | [.str s,.int .i64 g]=>some (asrts [intLe 0 g,intLe g 99] (.ret (.int .i64 (bI (someA s g.toNat)))))
 | _=>none
def s86:Sum:=fun args=>match args with
 | [.agg [.bool ng,.bool lg,.str s,.int .i64 e,.int .i64 g,.str mo,.str da,.int .u8 a,.int .u8 b,.int .u8 c]]=>some (.ret (.int .i64 (seasR mo)))
 | _=>none
def s88:Sum:=fun args=>match args with
 | [.agg [.bool ng,.bool lg,.str s,.int .i64 e,.int .i64 g,.str mo,.str da,.int .u8 a,.int .u8 b,.int .u8 c]]=>some (.ret (.int .i64 (compsR mo da)))
 | _=>none
def s126:Sum:=fun args=>match args with
 | [.agg [.int .u8 a,.int .u8 b,.int .u8 c],.int .i64 n]=>some (.ret (.int .i64 (errMk a b c n)))
 | _=>none
def T6:Sums:=addP T5 125 s125
def T7:Sums:=addP (addP (addP T6 86 s86) 88 s88) 126 s126
theorem dig1:∀a:Nat,a<10->List.drop a (List.take (a+1) [UInt8.ofNat 48,UInt8.ofNat 49,UInt8.ofNat 50,UInt8.ofNat 51,UInt8.ofNat 52,UInt8.ofNat 53,UInt8.ofNat 54,UInt8.ofNat 55,UInt8.ofNat 56,UInt8.ofNat 57])=[UInt8.ofNat (48+a)]:=by decide
theorem dig2:∀a:Nat,a<10->(UInt8.ofNat (48+a)).toNat=48+a:=by decide
theorem b133 (n:Int) {Q:AV->Prop}:askA Q (pT T3 noL 133 [.int .i64 n]) (dtN 1142270077020)=((fun (u0 u1:Int)=>(fun (u3 u4:Int) (u2:Prop)=>(fun (u5 u6:Nat)=>(fun (u7:Bool)=>u2/\u2/\inR .i64 u3=true/\intLe 0 u3=true/\Nat.ble u5 10=true/\intLe 0 u0=true/\Nat.ble (Int.toNat u0) u5=true/\inR .i64 u4=true/\intLe 0 u4=true/\Nat.ble u6 10=true/\intLe 0 u1=true/\Nat.ble (Int.toNat u1) u6=true/\(u7=true->Q (AV.str (HAppend.hAppend (List.drop (Int.toNat u0) (List.take u5 [UInt8.ofNat 48,UInt8.ofNat 49,UInt8.ofNat 50,UInt8.ofNat 51,UInt8.ofNat 52,UInt8.ofNat 53,UInt8.ofNat 54,UInt8.ofNat 55,UInt8.ofNat 56,UInt8.ofNat 57])) (List.drop (Int.toNat u1) (List.take u6 [UInt8.ofNat 48,UInt8.ofNat 49,UInt8.ofNat 50,UInt8.ofNat 51,UInt8.ofNat 52,UInt8.ofNat 53,UInt8.ofNat 54,UInt8.ofNat 55,UInt8.ofNat 56,UInt8.ofNat 57])))))/\(u7=false->False)) (Nat.ble (HAdd.hAdd (List.length (List.drop (Int.toNat u0) (List.take u5 [UInt8.ofNat 48,UInt8.ofNat 49,UInt8.ofNat 50,UInt8.ofNat 51,UInt8.ofNat 52,UInt8.ofNat 53,UInt8.ofNat 54,UInt8.ofNat 55,UInt8.ofNat 56,UInt8.ofNat 57]))) (List.length (List.drop (Int.toNat u1) (List.take u6 [UInt8.ofNat 48,UInt8.ofNat 49,UInt8.ofNat 50,UInt8.ofNat 51,UInt8.ofNat 52,UInt8.ofNat 53,UInt8.ofNat 54,UInt8.ofNat 55,UInt8.ofNat 56,UInt8.ofNat 57])))) 1000000)) (Int.toNat u3) (Int.toNat u4)) (Int.add u0 1) (Int.add u1 1) (inR .i64 u0=true)) (Int.tdiv n 10) (Int.tmod n 10)):=by kernel_rfl
theorem b186 (s:List UInt8) (n:Int) {Q:AV->Prop}:askA Q (pT T4 noL 186 [.str s,.int .i64 n]) (dtN 1000633058100203811403020070240020007381033058107381142322007024702423220070247024220)=((fun (u1 u2:Int) (u0:Nat) (u3 u4:Prop)=>(fun (u5 u7 u8 ua ub:Bool) (u6 u9:Prop)=>(fun (uc ud ue uf ug uh ui uj uk:Prop)=>intLe 0 n=true/\intLe n 99=true/\(uc->uc/\u6/\uc/\uc/\(ud->ud/\u6/\ud/\ud/\ud/\uc/\u7=false/\uc/\(ue->ue/\u9/\ue/\ue/\(uf->uf/\u9/\uf/\uf/\uf/\ue/\ua=false/\ue/\ug)/\(uh->uh/\uh/\uh/\uh/\ue/\ua=true/\ue/\u3))/\(ui->ui/\ui/\ui/\ui/\ui/\u4))/\(uj->uj/\uj/\uj/\uj/\uc/\u7=true/\uc/\u9/\(uf->uf/\u9/\uf/\uf/\uf/\ua=false/\ug)/\(uh->uh/\uh/\uh/\uh/\ua=true/\u3)))/\(uk->uk/\uk/\uk/\uk/\uk/\u4)) (u5=true) (not u7=true) (u8=true) (not ua=true) ((ub=true->u3)/\(ub=false->u4)) (not ua=false) (u8=false) (not u7=false) (u5=false)) (intEq (Int.ofNat u0) 2) (intEq u1 88) (intEq u1 (Int.ofNat (UInt8.toNat (List.getD (twoD n) 0 (UInt8.ofNat 0))))) (intEq u2 88) (intEq u2 (Int.ofNat (UInt8.toNat (List.getD (twoD n) 1 (UInt8.ofNat 0))))) (natLt 0 u0=true) (natLt 1 u0=true)) (Int.ofNat (UInt8.toNat (List.getD s 0 (UInt8.ofNat 0)))) (Int.ofNat (UInt8.toNat (List.getD s 1 (UInt8.ofNat 0)))) (List.length s) (Q (AV.int .i64 1)) (Q (AV.int .i64 0))):=by kernel_rfl
theorem r125 (s:List UInt8) (i g:Int) (J:Nat->Value) {Q:VQ->Prop}:askA Q (rT T5 noL [] 125 0 15 [0,1,4,5] [.str s,.int .i64 g,.int .i64 0,.int .i64 i] J own0) (dtN 112142204)=((fun (u1 u2:AV) (u0:Bool)=>(intLe i g=true->intLe 0 i=true/\intLe i 99=true/\(u0=true->Q (AX.ret,([u1,u2,AV.int .i64 1,AV.int .i64 i],{ n:=0,os:=[],le:=[] })))/\(u0=false->inR .i64 (Int.add i 1)=true/\Q (AX.normal,([u1,u2,AV.int .i64 0,AV.int .i64 (Int.add i 1)],{ n:=0,os:=[],le:=[] }))))/\(intLe i g=false->Q (AX.exit 0,([u1,u2,AV.int .i64 0,AV.int .i64 i],{ n:=0,os:=[],le:=[] })))) (AV.str s) (AV.int .i64 g) (intEq (cond (agr s i) 1 0) 1)):=by kernel_rfl
theorem b86 (ng lg:Bool) (s:List UInt8) (e g:Int) (mo da:List UInt8) (a b c:Int) {Q:AV->Prop}:askA Q (pT T6 noL 86 [vDate ng lg s e g mo da a b c]) (dtN 10014005140051400514005140051400514005140051400514005140051400514005140051400514005140051400514005140051405)=((fun (u0 u1 u2 u3 u4 u5 u6 u7 u8 u9 ua ub uc ud ue uf ug uh ui uj uk:Bool)=>(u0=true->Q (AV.int .i64 21))/\(u0=false->(u1=true->Q (AV.int .i64 22))/\(u1=false->(u2=true->Q (AV.int .i64 23))/\(u2=false->(u3=true->Q (AV.int .i64 24))/\(u3=false->(u4=true->Q (AV.int .i64 25))/\(u4=false->(u5=true->Q (AV.int .i64 26))/\(u5=false->(u6=true->Q (AV.int .i64 27))/\(u6=false->(u7=true->Q (AV.int .i64 28))/\(u7=false->(u8=true->Q (AV.int .i64 29))/\(u8=false->(u9=true->Q (AV.int .i64 30))/\(u9=false->(ua=true->Q (AV.int .i64 31))/\(ua=false->(ub=true->Q (AV.int .i64 32))/\(ub=false->(uc=true->Q (AV.int .i64 33))/\(uc=false->(ud=true->Q (AV.int .i64 34))/\(ud=false->(ue=true->Q (AV.int .i64 35))/\(ue=false->(uf=true->Q (AV.int .i64 36))/\(uf=false->(ug=true->Q (AV.int .i64 37))/\(ug=false->(uh=true->Q (AV.int .i64 38))/\(uh=false->(ui=true->Q (AV.int .i64 39))/\(ui=false->(uj=true->Q (AV.int .i64 40))/\(uj=false->(uk=true->Q (AV.int .i64 41))/\(uk=false->Q (AV.int .i64 0))))))))))))))))))))))) (bytesEq mo [UInt8.ofNat 50,UInt8.ofNat 49]) (bytesEq mo [UInt8.ofNat 50,UInt8.ofNat 50]) (bytesEq mo [UInt8.ofNat 50,UInt8.ofNat 51]) (bytesEq mo [UInt8.ofNat 50,UInt8.ofNat 52]) (bytesEq mo [UInt8.ofNat 50,UInt8.ofNat 53]) (bytesEq mo [UInt8.ofNat 50,UInt8.ofNat 54]) (bytesEq mo [UInt8.ofNat 50,UInt8.ofNat 55]) (bytesEq mo [UInt8.ofNat 50,UInt8.ofNat 56]) (bytesEq mo [UInt8.ofNat 50,UInt8.ofNat 57]) (bytesEq mo [UInt8.ofNat 51,UInt8.ofNat 48]) (bytesEq mo [UInt8.ofNat 51,UInt8.ofNat 49]) (bytesEq mo [UInt8.ofNat 51,UInt8.ofNat 50]) (bytesEq mo [UInt8.ofNat 51,UInt8.ofNat 51]) (bytesEq mo [UInt8.ofNat 51,UInt8.ofNat 52]) (bytesEq mo [UInt8.ofNat 51,UInt8.ofNat 53]) (bytesEq mo [UInt8.ofNat 51,UInt8.ofNat 54]) (bytesEq mo [UInt8.ofNat 51,UInt8.ofNat 55]) (bytesEq mo [UInt8.ofNat 51,UInt8.ofNat 56]) (bytesEq mo [UInt8.ofNat 51,UInt8.ofNat 57]) (bytesEq mo [UInt8.ofNat 52,UInt8.ofNat 48]) (bytesEq mo [UInt8.ofNat 52,UInt8.ofNat 49])):=by kernel_rfl
theorem b88 (ng lg:Bool) (s:List UInt8) (e g:Int) (mo da:List UInt8) (a b c:Int) {Q:AV->Prop}:askA Q (pT T6 noL 88 [vDate ng lg s e g mo da a b c]) (dtN 1104011040040)=((fun (u0 u1:Bool) (u2:Prop)=>(u0=true->(u1=true->Q (AV.int .i64 3))/\(u1=false->u2))/\(u0=false->(u1=true->u2)/\(u1=false->Q (AV.int .i64 1)))) (not (bytesEq mo [])) (not (bytesEq da [])) (Q (AV.int .i64 2))):=by kernel_rfl
theorem b126 (a b c n:Int) {Q:AV->Prop}:askA Q (pT T6 noL 126 [.agg [.int .u8 a,.int .u8 b,.int .u8 c],.int .i64 n]) (dtN 1023102358102358102358100033281001437020024740053328102358100143702002274051437020024740053323874514324)=((fun (u0 u1 u3 u5 u7 ua uc:Bool) (u2 u4 u6 u9 ub ud ue uf:Prop)=>(fun (ug uh ui uj uk ul um un:Prop)=>(fun (uo up:Prop)=>(ug->ug/\u0=false/\(u1=true->u2)/\(u1=false->(uh->uh/\uh/\uh/\u4/\u4/\u4/\u4/\uh/\u4/\u3=false/\(ui->ui/\ui/\ui/\(u6->u6/\u6/\u6/\ui/\u6/\u5=false/\(u7=true->u9)/\(u7=false->(uj->uj/\uj/\uj/\ub/\uo)/\up))/\(ue->ue/\ue/\ue/\ui/\ue/\u5=false/\(uj->uj/\uj/\uj/\(ub->uo)/\(uf->uf/\uf/\uf/\uj/\uf/\ua=false/\ud))/\up))/\(ul->ul/\ul/\ul/\ul/\u5=true/\u9))/\(um->um/\um/\um/\um/\u3=true/\u9)))/\(un->un/\u0=true/\u2)) (ub/\ub/\ub/\uj/\ub/\ua=false/\(uc=true->u9)/\(uc=false->ud)) (uk->uk/\uk/\uk/\uk/\ua=true/\u9)) (not u0=true) (not u3=true) (not u5=true) (not ua=true) (not ua=false) (not u5=false) (not u3=false) (not u0=false)) (not (intLe 1 n)) (not (intLe n 3)) (not (intLe a 3)) (not (intLe b 3)) (not (intLe b 0)) (not (intLe c 3)) (not (intLe c 0)) (Q (AV.int .i64 4)) (intLe n 0=false) (intLe n 1=true) (Q (AV.int .i64 9)) (intLe n 2=true) (Q (AV.int .i64 0)) (intLe n 1=false) (intLe n 2=false)):=by kernel_rfl
theorem b125 (s:List UInt8) (g:Int) {Q:AV->Prop}:askA Q (pT T5 L125 125 [.str s,.int .i64 g]) (dtN 1140022)=((fun (u0:Bool)=>intLe 0 g=true/\intLe g 99=true/\(u0=true->(∀J1:Nat->Value,∀J2:Nat->Value,Q (AV.int .i64 1)))/\(u0=false->(∀J1:Nat->Value,Q (AV.int .i64 0)))) (someA s (Int.toNat g))):=by kernel_rfl
theorem body133:bodyOf tab 133=some (fnOf 133,codeOf 133):=by kernel_rfl
theorem body186:bodyOf tab 186=some (fnOf 186,codeOf 186):=by kernel_rfl
theorem body125:bodyOf tab 125=some (fnOf 125,codeOf 125):=by kernel_rfl
theorem body86:bodyOf tab 86=some (fnOf 86,codeOf 86):=by kernel_rfl
theorem body88:bodyOf tab 88=some (fnOf 88,codeOf 88):=by kernel_rfl
theorem body126:bodyOf tab 126=some (fnOf 126,codeOf 126):=by kernel_rfl
theorem loops125:(loopsOf (codeOf 125)).map (·.1)=[0]:=by kernel_rfl
theorem T4_ok:SumsOK Tryz.prog cfg T4:=by
 refine sums_addP T3_ok fun args t v he hv=>?_
 unfold s133 at he
 split at he
 · rename_i n
   cases he
   obtain ⟨h1,hv⟩:=asrts_run hv
   obtain ⟨h2,hv⟩:=asrts_run hv
   rw [q_le_t] at h1 h2
   cases hv
   refine fpOK T3_ok (L:=noL) body133 (by simp) lok_none (askA_wp ((b133 n).mpr ?_)) (by simp [idsA])
   dsimp only
   rw [Int.tdiv_eq_ediv_of_nonneg h1,Int.tmod_eq_emod_of_nonneg h1]
   obtain ⟨k,rfl⟩:∃k:Nat,n=k:=⟨n.toNat,by omega⟩
   have e1:((k:Int)/10)=((k/10:Nat):Int):=by omega
   have e2:((k:Int)%10)=((k%10:Nat):Int):=by omega
   have e3:Int.add ((k/10:Nat):Int) 1=((k/10+1:Nat):Int):=by rw [q_add];omega
   have e4:Int.add ((k%10:Nat):Int) 1=((k%10+1:Nat):Int):=by rw [q_add];omega
   rw [e1,e2,e3,e4]
   simp only [Int.toNat_natCast,dig1 _ (by omega:k/10<10),dig1 _ (by omega:k%10<10)]
   simp only [q_all,reduceCtorEq,loK,hiK,ne_eq]
   simp only [List.length_cons,List.length_nil]
   (repeat' first|exact trivial|refine ⟨?_,?_⟩|intro)<;>first|omega|skip
   show AV.str _=AV.str (twoD k)
   unfold twoD
   rw [e1,e2]
   rfl
 · cases he
theorem agB_iff {s:List UInt8} {i:Nat} {d:Int}:agB s i d=true↔(s.getD i 0).toNat=88∨((s.getD i 0).toNat:Int)=48+d:=by
 unfold agB;rw [Bool.or_eq_true,decide_eq_true_eq,decide_eq_true_eq]
theorem T5_ok:SumsOK Tryz.prog cfg T5:=by
 refine sums_addP T4_ok fun args t v he hv=>?_
 unfold s186 at he
 split at he
 · rename_i s n
   cases he
   obtain ⟨h1,hv⟩:=asrts_run hv
   obtain ⟨h2,hv⟩:=asrts_run hv
   rw [q_le_t] at h1 h2
   cases hv
   refine fpOK T4_ok (L:=noL) body186 (by simp) lok_none (wp_gen fun Q' hQ=>askA_wp ((b186 s n).mpr ?_)) (by simp [idsA])
   dsimp only
   have t0:((twoD n).getD 0 0).toNat=48+(n/10).toNat:=dig2 _ (by omega)
   have t1:((twoD n).getD 1 0).toNat=48+(n%10).toNat:=dig2 _ (by omega)
   have tl:(twoD n).length=2:=rfl
   simp only [q_all,reduceCtorEq,loK,hiK,ne_eq]
   have yes:agr s n=true->Q' (.int .i64 1):=fun h=>hQ _ (by rw [bI_t h])
   have no:agr s n=false->Q' (.int .i64 0):=fun h=>hQ _ (by rw [bI_f h])
   have iff:agr s n=true↔s.length=2/\((s.getD 0 0).toNat=88∨((s.getD 0 0).toNat:Int)=48+n/10)/\((s.getD 1 0).toNat=88∨((s.getD 1 0).toNat:Int)=48+n%10):=by
    unfold agr;rw [Bool.and_eq_true,Bool.and_eq_true,decide_eq_true_eq,agB_iff,agB_iff]
   have iff':agr s n=false↔¬(s.length=2/\((s.getD 0 0).toNat=88∨((s.getD 0 0).toNat:Int)=48+n/10)/\((s.getD 1 0).toNat=88∨((s.getD 1 0).toNat:Int)=48+n%10)):=by
    rw [←iff,Bool.not_eq_true]
   (repeat' first|exact trivial|refine ⟨?_,?_⟩|intro)<;>first|omega|(refine yes (iff.mpr ?_);omega)|(refine no (iff'.mpr ?_);omega)
 · cases he
theorem someA_f {s:List UInt8} {g:Nat}:someA s g=false↔∀k,k<g->agr s ((k:Int)+1)=false:=by
 unfold someA
 rw [List.any_eq_false]
 exact ⟨fun h k hk=>by simpa using h k (List.mem_range.2 hk),fun h k hk=>by simpa using h k (List.mem_range.1 hk)⟩
theorem someA_t {s:List UInt8} {g k:Nat} (hk:k<g) (h:agr s ((k:Int)+1)=true):someA s g=true:=by
 unfold someA
 rw [List.any_eq_true]
 exact ⟨k,List.mem_range.2 hk,h⟩
theorem lv125:LoopVOK Tryz.prog (cfgS cfg T5) (Cw cfg []) (lb 125 0) 15 [0,1,4,5] v125:=by
 intro vs o t Q hv hq J
 unfold v125 at hv
 split at hv
 · rename_i s g r i
   cases hv
   obtain ⟨h1,hq⟩:=asrts_wp hq
   obtain ⟨h2,hq⟩:=asrts_wp hq
   obtain ⟨h3,hq⟩:=asrts_wp hq
   obtain ⟨h4,hq⟩:=asrts_wp hq
   rw [q_le_t] at h1 h2
   rw [q_eq_t] at h3 h4
   subst h3 h4
   have hq:Tr.wp Q (bif someA s g.toNat then .all fun J=>.ret (.ret,[.str s,.int .i64 g,.int .i64 1,.any (J 0)],own0) else .ret (.exit 0,[.str s,.int .i64 g,.int .i64 0,.int .i64 (g+1)],own0)):=hq
   refine lvOK T5_ok rfl rfl lok_none (ι:={i:Nat // i≤g.toNat/\∀k,k<i->agr s ((k:Int)+1)=false}) (fun x=>[.str s,.int .i64 g,.int .i64 0,.int .i64 ((x.1:Int)+1)]) (fun _=>own0) (fun x=>g.toNat-x.1) 0 (fun _=>Nat.le_refl _) (fun x J=>?_) (Nat.le_refl _) (fun J=>Wk.refl ⟨⟨0,Nat.zero_le _,fun k hk=>absurd hk (Nat.not_lt_zero k)⟩,J,rfl⟩) J
   obtain ⟨i,hi,hp⟩:=x
   dsimp only
   refine wp_gen fun Q' hQ=>askA_wp ((r125 s _ g J).mpr ?_)
   simp only [q_all,reduceCtorEq,loK,hiK,ne_eq]
   have ct:∀b:Bool,((bif b then (1:Int) else 0)=1)=(b=true):=fun b=>by cases b<;>simp
   rw [ct]
   (repeat' first|exact trivial|refine ⟨?_,?_⟩|intro)<;>first|omega|refine hQ _ ?_
   · rename_i h5 h6
     rw [someA_t (by omega:i<g.toNat) h6,cond_true] at hq
     exact ⟨_,_,VW.any (.same (.same (.same (.int .nil)))) rfl,hq (jv [_])⟩
   · rename_i h5 h6
     refine ⟨⟨i+1,by omega,fun k hk=>?_⟩,by dsimp only;omega,VW.of_eq (by dsimp only;congr 4) rfl⟩
     by_cases e:k=i
     · subst e;simpa using h6
     · exact hp k (by omega)
   · obtain rfl:i=g.toNat:=by omega
     rw [someA_f.2 hp,cond_false] at hq
     exact ⟨_,_,VW.of_eq (by rw [Int.toNat_of_nonneg h1]) rfl,hq⟩
 · cases hv
theorem T6_ok:SumsOK Tryz.prog cfg T6:=by
 refine sums_addP T5_ok fun args t v he hv=>?_
 unfold s125 at he
 split at he
 · rename_i s g
   cases he
   obtain ⟨h1,hv⟩:=asrts_run hv
   obtain ⟨h2,hv⟩:=asrts_run hv
   rw [q_le_t] at h1 h2
   cases hv
   refine fpOK T5_ok (L:=L125) body125 (by simp) (lok_at loops125 fun i hi e he st Q hw=>?_) (wp_gen fun Q' hQ=>askA_wp ((b125 s g).mpr ?_)) (by simp [idsA])
   · have hi:i=0:=by simp at hi;omega
     subst hi
     cases he
     exact loopE_ok (base0.good T5_ok) (by decide) rfl lv125 hw
   · simp only [q_all,reduceCtorEq,loK,hiK,ne_eq]
     (repeat' first|exact trivial|refine ⟨?_,?_⟩|intro)<;>first|omega|(refine hQ _ ?_;first|(rw [bI_t (by assumption)];done)|(rw [bI_f (by assumption)];done))
 · cases he
theorem T7_ok:SumsOK Tryz.prog cfg T7:=by
 refine sums_addP (sums_addP (sums_addP T6_ok fun args t v he hv=>?_) fun args t v he hv=>?_) fun args t v he hv=>?_
 · unfold s86 at he
   split at he
   · cases he
     cases hv
     refine fpOK T6_ok (L:=noL) body86 (by simp) lok_none (wp_gen fun Q' hQ=>askA_wp ((b86 _ _ _ _ _ _ _ _ _ _).mpr ?_)) (by simp [idsA])
     dsimp only
     (repeat' first|exact trivial|refine ⟨?_,?_⟩|intro)<;>(refine hQ _ ?_;rw [AV.int.injEq];refine ⟨rfl,?_⟩;unfold seasR;simp only [*,cond_true,cond_false])
   · cases he
 · unfold s88 at he
   split at he
   · cases he
     cases hv
     refine fpOK T6_ok (L:=noL) body88 (by simp) lok_none (wp_gen fun Q' hQ=>askA_wp ((b88 _ _ _ _ _ _ _ _ _ _).mpr ?_)) (by simp [idsA])
     simp only [q_not_t,q_not_f]
     (repeat' first|exact trivial|refine ⟨?_,?_⟩|intro)<;>(refine hQ _ ?_;rw [AV.int.injEq];refine ⟨rfl,?_⟩;unfold compsR;simp only [*,cond_true,cond_false];rfl)
   · cases he
 · unfold s126 at he
   split at he
   · cases he
     cases hv
     refine fpOK T6_ok (L:=noL) body126 (by simp) lok_none (wp_gen fun Q' hQ=>askA_wp ((b126 _ _ _ _).mpr ?_)) (by simp [idsA])
     simp only [q_all,reduceCtorEq,loK,hiK,ne_eq]
     (repeat' first|exact trivial|refine ⟨?_,?_⟩|intro)<;>first|omega|(refine hQ _ ?_;rw [AV.int.injEq];refine ⟨rfl,?_⟩;unfold errMk;(repeat' split)<;>omega)
   · cases he
theorem q_i64 {n:Int}:(inR .i64 n=true)=(-9223372036854775808≤n/\n≤9223372036854775807):=q_inR_t
theorem q_minI (a b:Int):minI a b=min a b:=by
 unfold minI
 cases h:intLe a b with
 | true=>rw [q_le_t] at h;rw [cond_true];omega
 | false=>rw [q_le_f] at h;rw [cond_false];omega
theorem q_b0 {b:Bool}:((bif b then (1:Int) else 0)=0)=(b=false):=by cases b<;>simp
theorem q_b1 {b:Bool}:((bif b then (1:Int) else 0)=1)=(b=true):=by cases b<;>simp
theorem okY14_dig {ng lg:Bool} {s:List UInt8} {e g:Int} (h:okY14 ng lg s e g=true) (h0:hasN s 88 88=0):digL s=true/\0≤e/\e≤16/\s.length≤17:=by
 unfold okY14 at h
 rw [decide_eq_true_eq] at h
 exact ⟨digL_of (by omega),by omega,by omega,by omega⟩
def okDYR (ng lg:Bool) (s:List UInt8) (e g:Int) (mo:List UInt8):Bool:=decide (okY14 ng lg s e g=true/\¬(0<g/\bytesEq mo []=false)/\((seasR mo≠24/\seasR mo≠28/\seasR mo≠30)∨1≤hasN s 88 88∨¬(magOk s e.toNat=true/\magV s e.toNat=10000000000000000/\ng=false)))
def s124:Sum:=fun args=>match args with
 | [.agg [.bool ng,.bool lg,.str s,.int .i64 e,.int .i64 g,.str mo,.str da,.int .u8 a,.int .u8 b,.int .u8 c]]=>some (asrts [Nat.ble s.length 1000,inR .i64 e] (.ret (.int .i64 (bI (okDYR ng lg s e g mo)))))
 | _=>none
def T8:Sums:=addP T7 124 s124
def errD (ng lg:Bool) (s:List UInt8) (e g:Int) (mo da:List UInt8) (a b c:Int):Int:=
 if okDYR ng lg s e g mo=false then 6 else if bytesEq mo []=false/\seasR mo=0/\someA mo 12=false then 7 else if bytesEq da []=false/\(bytesEq mo []=true∨0<seasR mo∨someA da 31=false) then 8 else errMk a b c (compsR mo da)
def s71:Sum:=fun args=>match args with
 | [.agg [.bool ng,.bool lg,.str s,.int .i64 e,.int .i64 g,.str mo,.str da,.int .u8 a,.int .u8 b,.int .u8 c]]=>some (asrts [Nat.ble s.length 1000,inR .i64 e] (.ret (.int .i64 (errD ng lg s e g mo da a b c))))
 | _=>none
def T9:Sums:=addP T8 71 s71
theorem seasR_nn (mo:List UInt8):0≤seasR mo:=by
 unfold seasR
 repeat' (first|omega|(cases bytesEq mo _<;>simp only [cond_true,cond_false]))
theorem b124 (ng lg:Bool) (s:List UInt8) (e g:Int) (mo da:List UInt8) (a b c:Int) {Q:AV->Prop}:askA Q (pT T7 noL 124 [vDate ng lg s e g mo da a b c]) (dtN 10230003811110051038114220224444420001400200063311110051038114220224444420001400263310281111005103811422022444442000143220205242242240006332331111005103811422022444442000140020006331111005103811422022444442000140026331028111100510381142202244444200014322020524224224006143702422022422005)=((fun (u1 u2 u3 u6 u8 u9:Bool) (u5:Int) (u0 u4 u7:Prop)=>(fun (uc ud ue:Bool) (ua ub uf ug uh ui:Prop)=>(fun (uj uk ul um un uo up:Prop)=>(fun (uq:Prop)=>u0/\inR .i64 e=true/\(ua->ua/\ua/\ua/\ua/\(ub->ub/\ub/\ua/\ub/\u1=false/\(u3=true->u4)/\(u3=false->uq))/\(uh->uh/\uh/\ua/\uh/\u1=false/\uq))/\(ui->ui/\ui/\ui/\ui/\ui/\u1=true/\u4)) ((uj->uj/\uj/\(uk->uk/\uk/\(ul->ul/\ul/\u0/\ul/\ue=false/\um)/\(un->un/\un/\un/\ue=true/\u7))/\(uo->uo/\uo/\u0/\um))/\(up->up/\up/\u0/\um))) (uc=true) (ud=true) (not ue=true) ((u6=true->u7)/\(u6=false->u0/\(intLe 0 e=true->(intLe e 1000=true->(digL s=true->(u8=true->(uf->uf/\uf/\uf/\uf/\(not ng=true->u4)/\(not ng=false->u7))/\(ug->ug/\ug/\ug/\ug/\u7))/\(u8=false->u7))/\(digL s=false->False))/\(intLe e 1000=false->False))/\(intLe 0 e=false->False))) (not ue=false) (ud=false) (uc=false)) (not (intEq u5 24)) (not (intEq u5 28)) (not (intEq u5 30)) (not u1=true) (u2=true) (u9=true) (u9=false) (u2=false) (not u1=false)) (intEq (cond (okY14 ng lg s e g) 1 0) 0) (not (intLe g 0)) (not (bytesEq mo [])) (intEq (minI 1 (Int.ofNat (hasN s 88 88))) 1) (magOk s (Int.toNat e)) (intEq (Int.ofNat (magV s (Int.toNat e))) 10000000000000000) (seasR mo) (Nat.ble (List.length s) 1000=true) (Q (AV.int .i64 0)) (Q (AV.int .i64 1))):=by kernel_rfl
theorem b71 (ng lg:Bool) (s:List UInt8) (e g:Int) (mo da:List UInt8) (a b c:Int) {Q:AV->Prop}:askA Q (pT T8 noL 71 [vDate ng lg s e g mo da a b c]) (dtN 100056335330008102025782202400058100056335330008107810056142322000202423220206702400381000563353300081005614232200020732202067024014220002024220206401422006)=((fun (u0 u1 u2 u3 u4 u5 u6:Bool) (u7 u8:Prop)=>(fun (u9 ua ub uc ud ue uf ug:Prop)=>(fun (uh ui:Prop)=>Nat.ble (List.length s) 1000=true/\inR .i64 e=true/\(u0=true->Q (AV.int .i64 6))/\(u0=false->(u9->u9/\u9/\u9/\(ua->ua/\ua/\ua/\ua/\(u3=true->Q (AV.int .i64 7))/\(u3=false->(ub->ub/\ub/\ub/\u9/\u9/\u9/\ub/\u1=false/\ub/\uc/\uh)/\ui))/\(ue->ue/\ue/\ue/\ue/\(ub->ub/\ub/\ub/\u9/\u9/\u9/\ub/\u1=false/\ub/\(uc->uh)/\(uf->uf/\uf/\uf/\ub/\u5=true/\ub/\u7))/\ui))/\(ug->ug/\ug/\ug/\(ub->ub/\ub/\ub/\ug/\ug/\ug/\ub/\u1=true/\ub/\ub/\ub/\u7)/\ui))) (uc/\uc/\uc/\ub/\u5=false/\ub/\(u6=true->u7)/\(u6=false->u8)) (ud->ud/\ud/\ud/\ud/\ud/\ud/\ud/\u8)) (not u1=true) (u2=true) (u4=true) (not u5=true) (u4=false) (u2=false) (not u5=false) (not u1=false)) (intEq (cond (okDYR ng lg s e g mo) 1 0) 0) (bytesEq mo []) (intEq (seasR mo) 0) (intEq (cond (someA mo 12) 1 0) 0) (not (bytesEq da [])) (not (intLe (seasR mo) 0)) (intEq (cond (someA da 31) 1 0) 0) (Q (AV.int .i64 8)) (Q (AV.int .i64 (errMk a b c (compsR mo da))))):=by kernel_rfl
theorem body124:bodyOf tab 124=some (fnOf 124,codeOf 124):=by kernel_rfl
theorem body71:bodyOf tab 71=some (fnOf 71,codeOf 71):=by kernel_rfl
theorem T8_ok:SumsOK Tryz.prog cfg T8:=by
 refine sums_addP T7_ok fun args t v he hv=>?_
 unfold s124 at he
 split at he
 · rename_i ng lg s e g mo da a b c
   cases he
   obtain ⟨h1,hv⟩:=asrts_run hv
   obtain ⟨h2,hv⟩:=asrts_run hv
   rw [q_ble_t] at h1
   rw [q_i64] at h2
   cases hv
   refine fpOK T7_ok (L:=noL) body124 (by simp) lok_none (wp_gen fun Q' hQ=>askA_wp ((b124 ng lg s e g mo da a b c).mpr ?_)) (by simp [idsA])
   simp only [q_all,reduceCtorEq,loK,hiK,ne_eq]
   simp only [q_minI,q_b0,q_b1,Bool.not_eq_false,Bool.not_eq_true,Classical.not_not]
   have yes:okDYR ng lg s e g mo=true->Q' (.int .i64 1):=fun h=>hQ _ (by rw [bI_t h])
   have no:okDYR ng lg s e g mo=false->Q' (.int .i64 0):=fun h=>hQ _ (by rw [bI_f h])
   have dg:=@okY14_dig ng lg s e g
   (repeat' first|exact trivial|refine ⟨?_,?_⟩|intro)<;>first|assumption|omega|(refine no ?_;unfold okDYR;rw [decide_eq_false_iff_not];simp_all;try omega)|(refine yes ?_;unfold okDYR;rw [decide_eq_true_eq];simp_all;try omega)|(exfalso;have:=dg (by assumption) (by omega);simp_all;try omega)
 · cases he
theorem T9_ok:SumsOK Tryz.prog cfg T9:=by
 refine sums_addP T8_ok fun args t v he hv=>?_
 unfold s71 at he
 split at he
 · rename_i ng lg s e g mo da a b c
   cases he
   obtain ⟨h1,hv⟩:=asrts_run hv
   obtain ⟨h2,hv⟩:=asrts_run hv
   rw [q_ble_t] at h1
   rw [q_i64] at h2
   cases hv
   refine fpOK T8_ok (L:=noL) body71 (by simp) lok_none (wp_gen fun Q' hQ=>askA_wp ((b71 ng lg s e g mo da a b c).mpr ?_)) (by simp [idsA])
   simp only [q_all,reduceCtorEq,loK,hiK,ne_eq]
   simp only [q_minI,q_b0,q_b1,Bool.not_eq_false,Bool.not_eq_true,Classical.not_not]
   have nn:=seasR_nn mo
   (repeat' first|exact trivial|refine ⟨?_,?_⟩|intro)<;>first|assumption|omega|(refine hQ _ ?_;unfold errD;simp_all;done)|(refine hQ _ ?_;unfold errD;simp_all;omega)
 · cases he
end Go.Ev
end
section
namespace Go.Proofs.YtafekjglclnegaaGreatDoor
open Go.RowKit
theorem ints_size (a:Nat) (w:World) (h:a≤9223372036854775807):Calls Tryz.prog 265 #[.int .i64 (a:Int)] w fun e w'=>e=.returned (.int .u64 (a:Int))/\w=w':=by
 go_enter Tryz.func265,Tryz.ntmps265
 go_wp2
 go_ret
 simp
theorem ints_signed_ok (a:Nat) (w:World) (h:a≤9223372036854775807):Calls Tryz.prog 266 #[.int .u64 (a:Int),.bool false] w fun e w'=>e=.returned (.tuple #[.int .i64 (a:Int),.int .i64 0])/\w=w':=by
 go_enter Tryz.func266,Tryz.ntmps266
 go_wp2
 go_ret2
 simp
theorem ints_signed_no (a:Nat) (w:World) (h:9223372036854775807<a):Calls Tryz.prog 266 #[.int .u64 (a:Int),.bool false] w fun e w'=>e=.returned (.tuple #[.int .i64 0,.int .i64 15])/\w=w':=by
 go_enter Tryz.func266,Tryz.ntmps266
 go_wp2
 go_ret2
 simp
theorem Mul64 (x y:Nat) (w:World) (hx:x<18446744073709551616) (hy:y<18446744073709551616) (a b:Nat) (ha:x*y/18446744073709551616=a) (hb:x*y%18446744073709551616=b) :
 Calls Tryz.prog 264 #[.int .u64 (x:Int),.int .u64 (y:Int)] w fun e w'=>e=.returned (.tuple #[.int .u64 (a:Int),.int .u64 (b:Int)])/\w=w':=by
 subst ha;subst hb
 refine (Tryz.bits_Mul64 x y hx hy w).mono ?_
 rintro e w' ⟨rfl,rfl⟩
 exact ⟨rfl,rfl⟩
theorem Mul_ok (a b:Nat) (w:World) (ha:a≤9223372036854775807) (hb0:b≤9223372036854775807) (h:a*b≤9223372036854775807) :
 Calls Tryz.prog 213 #[.int .i64 (a:Int),.int .i64 (b:Int)] w fun e w'=>e=.returned (.tuple #[.int .i64 ((a*b:Nat):Int),.int .i64 0])/\Below w.heap.size w w':=by
 obtain ⟨m,hm⟩:∃m,a*b=m:=⟨_,rfl⟩
 have e1:a*b/18446744073709551616=0:=by omega
 have e2:a*b%18446744073709551616=m:=by omega
 rw [hm] at h ⊢
 clear hm
 go_enter Tryz.func213,Tryz.ntmps213
 go_wp2_with (first|(go_at_call 265;refine (ints_size _ _ (by omega)).mono ?_;rintro e w' ⟨rfl,rfl⟩)|(go_at_call 264;refine (Mul64 _ _ _ (by omega) (by omega) _ _ e1 e2).mono ?_;rintro e w' ⟨rfl,rfl⟩)|(go_at_call 266;refine (ints_signed_ok _ _ (by omega)).mono ?_;rintro e w' ⟨rfl,rfl⟩))
 go_ret2
 exact ⟨by simp,by (repeat (first|exact Below.refl _ _|assumption|refine balloc ?_ _|refine Below.drew ?_|refine bdrewN ?_ _|(refine bset ?_ (by first|exact Nat.le_refl _|(simp;done)|(simp;omega)) _)|refine bnext ?_ (by assumption)))⟩
theorem Mul_no (a b:Nat) (w:World) (ha:a≤9223372036854775807) (hb0:b≤9223372036854775807) (h:9223372036854775807<a*b) :
 Calls Tryz.prog 213 #[.int .i64 (a:Int),.int .i64 (b:Int)] w fun e w'=>e=.returned (.tuple #[.int .i64 0,.int .i64 15])/\Below w.heap.size w w':=by
 obtain ⟨q,e1⟩:∃q,a*b/18446744073709551616=q:=⟨_,rfl⟩
 obtain ⟨m,e2⟩:∃m,a*b%18446744073709551616=m:=⟨_,rfl⟩
 have hm:m<18446744073709551616:=by omega
 by_cases hq:0<q
 · clear h
   go_enter Tryz.func213,Tryz.ntmps213
   go_wp2_with (first|(go_at_call 265;refine (ints_size _ _ (by omega)).mono ?_;rintro e w' ⟨rfl,rfl⟩)|(go_at_call 264;refine (Mul64 _ _ _ (by omega) (by omega) _ _ e1 e2).mono ?_;rintro e w' ⟨rfl,rfl⟩))
   go_ret2
   exact ⟨by simp,by (repeat (first|exact Below.refl _ _|assumption|refine balloc ?_ _|refine Below.drew ?_|refine bdrewN ?_ _|(refine bset ?_ (by first|exact Nat.le_refl _|(simp;done)|(simp;omega)) _)|refine bnext ?_ (by assumption)))⟩
 · have hq0:q=0:=by omega
   have h2:9223372036854775807<m:=by omega
   subst hq0
   clear h
   go_enter Tryz.func213,Tryz.ntmps213
   go_wp2_with (first|(go_at_call 265;refine (ints_size _ _ (by omega)).mono ?_;rintro e w' ⟨rfl,rfl⟩)|(go_at_call 264;refine (Mul64 _ _ _ (by omega) (by omega) _ _ e1 e2).mono ?_;rintro e w' ⟨rfl,rfl⟩)|(go_at_call 266;refine (ints_signed_no _ _ (by omega)).mono ?_;rintro e w' ⟨rfl,rfl⟩))
   go_ret2
   exact ⟨by simp,by (repeat (first|exact Below.refl _ _|assumption|refine balloc ?_ _|refine Below.drew ?_|refine bdrewN ?_ _|(refine bset ?_ (by first|exact Nat.le_refl _|(simp;done)|(simp;omega)) _)|refine bnext ?_ (by assumption)))⟩
theorem enc_facts {r:Nat} (h:128≤r) (h2:r≤1114111):∃rs:ByteArray,Utf8.encode (r:Int)=rs/\2≤rs.size/\rs.size≤4/\∀(i:Nat) (hi:i<rs.size),i+1=rs.size->128≤rs[i].toNat:=by
 have key:∀c:Nat,128≤c->c≤1114111->∀rs:ByteArray,rs=(let b (n:Nat):UInt8:=UInt8.ofNat n
  if c<0x80 then ⟨#[b c]⟩
  else if c<0x800 then ⟨#[b (0xC0+c/64),b (0x80+c%64)]⟩
  else if c<0x10000 then ⟨#[b (0xE0+c/4096),b (0x80+c/64%64),b (0x80+c%64)]⟩
  else ⟨#[b (0xF0+c/262144),b (0x80+c/4096%64),b (0x80+c/64%64),b (0x80+c%64)]⟩:ByteArray)->2≤rs.size/\rs.size≤4/\∀(i:Nat) (hi:i<rs.size),i+1=rs.size->128≤rs[i].toNat:=by
  intro c h1 h2 rs e
  have hb:128≤(UInt8.ofNat (0x80+c%64)).toNat:=by simp;omega
  rw [if_neg (by omega)] at e
  split at e
  · subst e
    refine ⟨show 2≤2 by decide,show 2≤4 by decide,fun i hi k=>?_⟩
    have:i=1:=by have e2:i+1=2:=k;omega
    subst this;exact hb
  · split at e
    · subst e
      refine ⟨show 2≤3 by decide,show 3≤4 by decide,fun i hi k=>?_⟩
      have:i=2:=by have e2:i+1=3:=k;omega
      subst this;exact hb
    · subst e
      refine ⟨show 2≤4 by decide,show 4≤4 by decide,fun i hi k=>?_⟩
      have:i=3:=by have e2:i+1=4:=k;omega
      subst this;exact hb
 refine ⟨_,rfl,?_⟩
 by_cases hv:Utf8.valid (r:Int)
 · refine key r h h2 _ ?_
   unfold Utf8.encode
   simp only [hv,if_true,Int.toNat_natCast]
 · refine key Utf8.runeError (by decide) (by decide) _ ?_
   unfold Utf8.encode
   simp only [hv]
   rfl
theorem indexByte_high:∀(l:List UInt8) (c:UInt8),(∀b∈l,b.toNat<128)->128≤c.toNat->¬0≤Lib.indexByte l c:=by
 intro l c h hc hi
 rw [←decide_eq_true_iff (p:=0≤Lib.indexByte l c),←Lib.contains_iff_indexByte] at hi
 have:=h c (by simpa using hi)
 omega
theorem indexByte_no {l:List UInt8} {c:UInt8} (h:¬0≤Lib.indexByte l c):Lib.indexByte l c = -1:=by
 have:=Lib.indexByte_ge l c;omega
theorem IndexByte_none (t:ByteArray) (c:Int) (w:World) (h:∀b∈t.data.toList,b.toNat<128) (h0:128≤c) (h1:c<256) :
 Calls Tryz.prog 332 #[.string t,.int .u8 c] w fun e w'=>e=.returned (.int .i64 (-1))/\w'=w:=by
 refine (Tryz.strings_IndexByte t c w).mono ?_
 rintro e w' ⟨rfl,rfl⟩
 exact ⟨by rw [indexByte_no (indexByte_high _ _ h (by simp;omega))],rfl⟩
theorem extract_mem (s:ByteArray) (a e:Nat):∀b∈(s.extract a e).data.toList,b∈s.data.toList:=by
 intro b hb
 rw [ByteArray.data_extract,Array.toList_extract] at hb
 exact List.mem_of_mem_drop (List.mem_of_mem_take (by simpa [List.extract] using hb))
theorem ValidRune_is (r:Int) (b:Bool) (w:World) (h:Lib.validRune r=b):Calls Tryz.prog 333 #[.int .i32 r] w fun e w'=>e=.returned (.bool b)/\w=w':=by
 refine (Tryz.utf8_ValidRune r w).mono ?_
 rintro e w' ⟨rfl,rfl⟩
 exact ⟨by rw [h],rfl⟩
theorem ix_at (s:ByteArray) (m:Nat) (h:m<s.size) (c:Nat) (hc:s[m].toNat=c) (w:World):(Instr.index 9 (.string s) (.int .i64 (m:Int))).run Tryz.prog w=.ok (.int .u8 (c:Int)) w:=by
 rw [run_index_string (w:=w) 9 s .i64 (m:Int) Tryz.underlying9,dif_pos ⟨by omega,by omega⟩]
 subst hc
 rfl
theorem slice_from (s:ByteArray) (m:Nat) (h:m≤s.size) (w:World):(Instr.slice 9 (.string s) (some (.int .i64 (m:Int))) none none).run Tryz.prog w=.ok (.string (s.extract m s.size)) w:=by
 rw [run_slice_string_l (w:=w) (t:=9) (ht:=Tryz.underlying9) (s:=s) .i64 (m:Int) (by omega) (by omega)]
 rfl
theorem biter {w:World} (s:ByteArray) (p:Nat):Below w.heap.size w (w.iter s p):=(Below.refl _ _).alloc (Nat.le_refl _) _
set_option maxRecDepth 1000000 in
set_option maxHeartbeats 2000000 in
theorem IndexRune_err (s:ByteArray) (w:World) (ha:∀(i:Nat) (h:i<s.size),s[i].toNat<128) :
 Calls Tryz.prog 311 #[.string s,.int .i32 65533] w fun e w'=>e=.returned (.int .i64 (-1))/\Below w.heap.size w w':=by
 have HM:=Lib.hid ha
 clear ha
 go_enter Tryz.func311,Tryz.ntmps311
 go_wp2
 go_loopw [5,6] (fun _ _ wr=>∃pos,pos≤s.size/\wr=w.iter s pos) (fun _ _ wr=>s.size-wr.iterPos w.heap.size)
 case atStart=>exact ⟨0,by omega,rfl⟩
 case round=>
  obtain ⟨pos,hp,rfl⟩:=hrel
  by_cases hlt:pos<s.size
  · have hb:=HM.out pos hlt
    have nx:=fun ty=>run_next_ascii (P:=Tryz.prog) w s pos ty hlt (by omega)
    generalize hc:s[pos]=c at *
    clear hc
    have t0:((c.toNat:Int)==65533)=false:=by simp;omega
    go_wp2
    go_roundw
    case rel=>exact ⟨pos+1,by omega,rfl⟩
    case measure=>simp;omega
  · have nx:=fun ty=>run_next_end (P:=Tryz.prog) w s pos ty hlt
    go_wp2
    go_ret
    exact ⟨by simp,biter _ _⟩
set_option maxRecDepth 1000000 in
set_option maxHeartbeats 2000000 in
theorem IndexRune_high (s:ByteArray) (r:Nat) (w:World) (hs:4≤s.size) (hs2:s.size≤100) (ha:∀(i:Nat) (h:i<s.size),s[i].toNat<128) (h:128≤r) (h2:r≤1114111) (hr:r≠65533) :
 Calls Tryz.prog 311 #[.string s,.int .i32 (r:Int)] w fun e w'=>e=.returned (.int .i64 (-1))/\Below w.heap.size w w':=by
 have q0:decide ((r:Int)<128)=false:=by simp;omega
 have q1:((r:Int)==65533)=false:=by simp;omega
 by_cases hv:Lib.validRune (r:Int)=true
 · obtain ⟨rs,er,z1,z2,hl⟩:=enc_facts h h2
   obtain ⟨m,hm⟩:∃m,rs.size=m+1:=⟨rs.size-1,by omega⟩
   have hm1:m<s.size:=by omega
   have hm2:m<rs.size:=by omega
   have L1:=ha m hm1
   have L2:=hl m hm2 (by omega)
   have L3:=rs[m].toNat_lt
   obtain ⟨c1,e1⟩:∃c,s[m].toNat=c:=⟨_,rfl⟩
   obtain ⟨c2,e2⟩:∃c,rs[m].toNat=c:=⟨_,rfl⟩
   have x1:=ix_at s m hm1 c1 e1
   have x2:=ix_at rs m hm2 c2 e2
   rw [e1] at L1
   rw [e2] at L2 L3
   clear e1 e2
   have x3:∀w:World,(Instr.slice 9 (.string s) (some (.int .i64 ((m:Int)+1))) none none).run Tryz.prog w=.ok (.string (s.extract (m+1) s.size)) w:=slice_from s (m+1) (by omega)
   have x4:IntKind.i64.wrap ((m:Int)+1)=(m:Int)+1:=IntWalk.i64_in _ (by omega)
   have t1:((c1:Int) !=(c2:Int))=true:=by simp;omega
   have HA:Hid (∀b∈s.data.toList,b.toNat<128):=Lib.hid (by
    intro b hb
    obtain ⟨i,hi,rfl⟩:=List.getElem_of_mem hb
    exact ha i (by simpa using hi))
   clear ha hl
   go_enter Tryz.func311,Tryz.ntmps311
   go_wp2_with (first|(go_at_call 333;refine (ValidRune_is _ _ _ hv).mono ?_;rintro e w' ⟨rfl,rfl⟩))
   have cv:∀w:World,(convert 21 9 (.int .i32 (r:Int))).run Tryz.prog w=.ok (.string rs) w:=fun w=>by rw [run_convert_int_string w 21 9 .i32 r (by kernel_rfl) (by kernel_rfl),er]
   go_wp2
   go_step3
   go_wp2
   go_loopw [4,9,10,11] (fun _ i _ _ wr=>i=.int .i64 (m:Int)/\wr=w) (fun _ _ _ _ _=>0)
   case atStart=>exact ⟨rfl,rfl⟩
   case round=>
    obtain ⟨rfl,rfl⟩:=hrel
    go_wp2
    go_step3
    go_wp2
    go_quiet (fail)
    go_wp2
    go_quiet ((go_at_call 332;exact (IndexByte_none _ _ _ (fun b hb=>HA.out b (extract_mem _ _ _ b hb)) (by omega) (by omega)).mono fun _ _ h=>⟨h.1,_,h.2⟩))
    go_wp2
    rw [Exit.noGoto_ret]
    simp +zetaDelta only [Exit.inBlock,Exit.then,Exit.noGoto]
    go_ret
    exact ⟨by simp,by (repeat (first|exact Below.refl _ _|assumption|refine balloc ?_ _|refine Below.drew ?_|refine bdrewN ?_ _|(refine bset ?_ (by first|exact Nat.le_refl _|(simp;done)|(simp;omega)) _)|refine bnext ?_ (by assumption)))⟩
 · have hv2:Lib.validRune (r:Int)=false:=by simpa using hv
   go_enter Tryz.func311,Tryz.ntmps311
   go_wp2_with (first|(go_at_call 333;refine (ValidRune_is _ _ _ hv2).mono ?_;rintro e w' ⟨rfl,rfl⟩))
   go_ret
   exact ⟨by simp,by (repeat (first|exact Below.refl _ _|assumption|refine balloc ?_ _|refine Below.drew ?_|refine bdrewN ?_ _|(refine bset ?_ (by first|exact Nat.le_refl _|(simp;done)|(simp;omega)) _)|refine bnext ?_ (by assumption)))⟩
end Go.Proofs.YtafekjglclnegaaGreatDoor
end
