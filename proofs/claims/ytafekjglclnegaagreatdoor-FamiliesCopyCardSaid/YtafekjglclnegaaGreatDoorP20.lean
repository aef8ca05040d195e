import Derived.Test.YtafekjglclnegaaGreatDoorP19
import Derived.Test.YtafekjglclnegaaGreatDoorP02
set_option linter.all false
section
namespace Go.Ev
open Go Go.Proofs
abbrev JW(ng lg:Bool)(s:List UInt8)(e g:Int):AV:=.agg [.bool ng,.bool lg,.str s,.int .i64 e,.int .i64 g]
abbrev Bq(ng lg:Bool)(s:List UInt8)(e g:Int)(mo da:List UInt8)(a b c:Int):AV:=.agg [.bool ng,.bool lg,.str s,.int .i64 e,.int .i64 g,.str mo,.str da,.int .u8 a,.int .u8 b,.int .u8 c]
def bD(ng lg:Bool)(s:List UInt8)(e g:Int):Bool:=decide (bz s 48 57+bz s 88 88=s.length/\0<=g/\
 (lg=false/\s.length=4/\e=0/\¬(ng=true/\bz s 48 48=4)/\g<=4/\¬(0<g/\0<bz s 88 88)\/
  lg=true/\bz s 88 88=0/\1<=bz s 48 57/\bz s 48 57<=17/\(s.getD 0 0).toNat≠48/\0<=e/\e<=16/\¬(e=0/\bz s 48 57<5)/\g<=bz s 48 57+e/\magOk s e.toNat=true))
def Qq:dM:=λargs=>match args with
 | [.agg [.bool ng,.bool lg,.str s,.int .i64 e,.int .i64 g]]=>some (aN [Nat.ble s.length 1000] (.ret (.int .i64 (ja 1 (Int.ofNat (bz s 88 88))))))
 | _=>none
def bI(b:Bool):Int:=bif b then 1 else 0
def Md:dM:=λargs=>match args with
 | [.agg [.bool ng,.bool lg,.str s,.int .i64 e,.int .i64 g]]=>some (aN [Nat.ble s.length 1000,ae .i64 e] (.ret (.int .i64 (bI (bD ng lg s e g)))))
 | _=>none
def T3:bq:=bw (bw T2 185 Qq) 132 Md
theorem ol{s:List UInt8}(h:bz s 48 57=s.length):fk s=true:=by
 unfold bz at h
 rw[List.length_filter_eq_length_iff]at h
 unfold fk
 rw[List.all_eq_true]
 intro c hc
 have:=h c hc
 rw[Bool.and_eq_true,decide_eq_true_eq,decide_eq_true_eq]at this
 unfold dB
 rw[Bool.and_eq_true,decide_eq_true_eq,decide_eq_true_eq]
 omega
theorem Ia{b:Bool}(h:b=true):bI b=1:=by rw[h];rfl
theorem Hg{b:Bool}(h:b=false):bI b=0:=by rw[h];rfl
theorem Xa(ng lg:Bool)(s:List UInt8)(e g:Int){Q:AV->Prop}:aO Q (pT T2 aW 185 [JW ng lg s e g]) (b_ 1200)=(Nat.ble (List.length s) 1000000=true/\Q (AV.int .i64 (ja 1 (Int.ofNat (bz s 88 88))))):=by kernel_rfl
theorem VY(ng lg:Bool)(s:List UInt8)(e g:Int){Q:AV->Prop}:aO Q (pT T2 aW 132 [JW ng lg s e g]) (b_ 1023310056662310006662310005662810006623315562331623008111447000140025533231028811144700014370702437422024320243202432202024324324156623315623533102300810332311437422024053328162331023008103323114374220243202432702024202432024040143202402200200)=((λ(u3 u5 u7 u8 u9 uc ud ue uf:Bool)(u1 u2:Int)(u0:Nat)(u4 u6 ua ub:Prop)=>(λ(ui uj un ur us ux uz:Bool)(uh:Int)(ug uk ul um uo up uq ut uu uv uw uy uA uB uC uD:Prop)=>(λ(uE:Bool)(uF uG uH uI uJ uK uL uM uN uO uP uQ uR uS:Prop)=>(λ(uT uU:Prop)=>ug/\ug/\ae .i64 uh=true/\(uT->uT/\uT/\uE=false/\(u3=true->u4)/\(u3=false->(not lg=true->(uF->uF/\uF/\ui=false/\(uG->uG/\uG/\(u6->u6/\u6/\ug/\u6/\uG/\u6/\uj=false/\(uk->uk/\uk/\u7=false/\uH)/\(uq->uq/\uq/\u7=true/\u4))/\(ub->ub/\ub/\ub/\uG/\ub/\uj=false/\uH))/\(uI->uI/\uI/\uI/\uj=true/\u4))/\(uJ->uJ/\uJ/\ui=true/\u4))/\(not lg=false->(uK->uK/\un=false/\(uL->uL/\ur=false/\(uM->uM/\uM/\bm 0 u0=true/\uM/\us=false/\(ut->ut/\ut/\uc=false/\(uu->uu/\uu/\ud=false/\(uv->uv/\uv/\uv/\(uw->uw/\uv/\uw/\ue=false/\(uN->uN/\uN/\uN/\uN/\uN/\uy/\uN/\ux=false/\uO)/\(uP->uP/\uP/\uP/\uP/\uP/\uP/\ux=true/\u4))/\(uA->uA/\uv/\uA/\ue=false/\uy/\uO))/\(uB->uB/\uB/\uB/\uB/\ue=true/\u4))/\(uC->uC/\uC/\ud=true/\u4))/\(uD->uD/\uD/\uc=true/\u4))/\(uQ->uQ/\uQ/\uQ/\us=true/\u4))/\(uR->uR/\ur=true/\u4))/\(uS->uS/\un=true/\u4))))/\(uU->uU/\uU/\uE=true/\u4)) (not uE=true) (not uE=false)) (not (aa uh (Int.ofNat u0))) (not ui=true) (not uj=true) ((ul->ul/\ul/\ul/\(um->um/\ul/\um/\u8=false/\(un=true->u4)/\(un=false->ua))/\(uo->uo/\ul/\uo/\u8=false/\ua))/\(up->up/\up/\up/\up/\u8=true/\u4)) (not uj=false) (not ui=false) (not un=true) (not ur=true) (not us=true) (not ux=true) ((uz=true->u4)/\(uz=false->Nat.ble u0 1000=true/\ab 0 e=true/\ab e 1000=true/\(fk s=true->(uf=true->ua)/\(uf=false->u4))/\(fk s=false->False))) (not ux=false) (not us=false) (not ur=false) (not un=false)) (not (aa (Int.ofNat u0) 4)) (not u5) (not (ab u2 0)) (not (ab 1 u1)) (not (ab u1 17)) (not (ab 5 u1)) (not (ab g (Int.add u1 e))) (Int.add u1 u2) (Nat.ble u0 1000000=true) (not u7=true) (not u8=true) (u9=true) (u9=false) (not u8=false) (not u7=false) (not uc=true) (not ud=true) (not ue=true) (u5=true) (ae .i64 (Int.add u1 e)=true) (u5=false) (not ue=false) (not ud=false) (not uc=false)) (not (ab 0 g)) (aa e 0) (aa (Int.ofNat (bz s 48 48)) 4) (not (ab g 4)) (not (ab g 0)) (aa (Int.ofNat (UInt8.toNat (List.getD s 0 0))) 48) (not (ab 0 e)) (not (ab e 16)) (magOk s (Int.toNat e)) (Int.ofNat (bz s 48 57)) (Int.ofNat (bz s 88 88)) (List.length s) (Q (AV.int .i64 0)) (ng=true) (Q (AV.int .i64 1)) (ng=false)):=by kernel_rfl
theorem Iy:aH tab 185=some (bC 185,aE 185):=by kernel_rfl
theorem IV:aH tab 132=some (bC 132,aE 132):=by kernel_rfl
theorem DS:az Tryz.prog cfg T3:=by
 refine aA (aA GR λargs t v he hv=>?_) λargs t v he hv=>?_
 · unfold Qq at he
   split at he
   · cases he
     obtain⟨h1,hv⟩:=bU hv
     rw[aB]at h1
     cases hv
     refine cp GR (L:=aW) Iy (by simp) ak (al ((Xa _ _ _ _ _).mpr ?_)) (by simp[aq])
     simp only[aD,reduceCtorEq,bA,bB,ne_eq]
     (repeat' first|exact trivial|refine⟨?_,?_⟩|intro)<;>first|omega|rfl
   · cases he
 · unfold Md at he
   split at he
   · rename_i ng lg s e g
     cases he
     obtain⟨⟨h1,h2,-⟩,hv⟩:=aI hv
     rw[aB]at h1
     rw[aQ]at h2
     cases hv
     have k1:=nC s 48 57
     have k2:=nC s 88 88
     refine cp GR (L:=aW) IV (by simp) ak (ap λQ' hQ=>al ((VY ng lg s e g).mpr ?_)) (by simp[aq])
     simp only[aD,reduceCtorEq,bA,bB,ne_eq]
     have dg:=@ol s
     have yes:bD ng lg s e g=true->Q' (.int .i64 1):=λh=>hQ _ (by rw[Ia h])
     have no:bD ng lg s e g=false->Q' (.int .i64 0):=λh=>hQ _ (by rw[Hg h])
     (repeat' first|exact trivial|refine⟨?_,?_⟩|intro)<;>first|omega|assumption|(exact dg (by omega))|(exfalso;have:=dg (by omega);simp_all;done)|(refine no ?_;unfold bD;rw[decide_eq_false_iff_not];simp_all;try omega)|(refine yes ?_;unfold bD;rw[decide_eq_true_eq];simp_all;try omega)
   · cases he
end Go.Ev
end
section
set_option maxRecDepth 100000
namespace Go.Ev
open Go Go.Proofs
def mA(n:Int):List UInt8:=[UInt8.ofNat (48+(n/10).toNat),UInt8.ofNat (48+(n%10).toNat)]
def NB:dM:=λargs=>match args with
 | [.int .i64 n]=>some (aN [ab 0 n,ab n 99] (.ret (.str (mA n))))
 | _=>none
def T4:bq:=bw T3 133 NB
def agB(s:List UInt8)(i:Nat)(d:Int):Bool:=decide ((s.getD i 0).toNat=88) || decide (((s.getD i 0).toNat:Int)=48+d)
def agr(s:List UInt8)(n:Int):Bool:=decide (s.length=2)&&(agB s 0 (n/10)&&agB s 1 (n%10))
def Rk:dM:=λargs=>match args with
 | [.str s,.int .i64 n]=>some (aN [ab 0 n,ab n 99] (.ret (.int .i64 (bI (agr s n)))))
 | _=>none
def T5:bq:=bw T4 186 Rk
def dD(s:List UInt8)(g:Nat):Bool:=(List.range g).any λk=>agr s (k+1)
def cg(mo:List UInt8):Int:=bif af mo [UInt8.ofNat 50,UInt8.ofNat 49]then 21 else bif af mo [UInt8.ofNat 50,UInt8.ofNat 50]then 22 else bif af mo [UInt8.ofNat 50,UInt8.ofNat 51]then 23 else bif af mo [UInt8.ofNat 50,UInt8.ofNat 52]then 24 else bif af mo [UInt8.ofNat 50,UInt8.ofNat 53]then 25 else bif af mo [UInt8.ofNat 50,UInt8.ofNat 54]then 26 else bif af mo [UInt8.ofNat 50,UInt8.ofNat 55]then 27 else bif af mo [UInt8.ofNat 50,UInt8.ofNat 56]then 28 else bif af mo [UInt8.ofNat 50,UInt8.ofNat 57]then 29 else bif af mo [UInt8.ofNat 51,UInt8.ofNat 48]then 30 else bif af mo [UInt8.ofNat 51,UInt8.ofNat 49]then 31 else bif af mo [UInt8.ofNat 51,UInt8.ofNat 50]then 32 else bif af mo [UInt8.ofNat 51,UInt8.ofNat 51]then 33 else bif af mo [UInt8.ofNat 51,UInt8.ofNat 52]then 34 else bif af mo [UInt8.ofNat 51,UInt8.ofNat 53]then 35 else bif af mo [UInt8.ofNat 51,UInt8.ofNat 54]then 36 else bif af mo [UInt8.ofNat 51,UInt8.ofNat 55]then 37 else bif af mo [UInt8.ofNat 51,UInt8.ofNat 56]then 38 else bif af mo [UInt8.ofNat 51,UInt8.ofNat 57]then 39 else bif af mo [UInt8.ofNat 52,UInt8.ofNat 48]then 40 else bif af mo [UInt8.ofNat 52,UInt8.ofNat 49]then 41 else 0
def cO(mo da:List UInt8):Int:=1+(bif af mo []then 0 else 1)+(bif af da []then 0 else 1)
def errMk(a b c n:Int):Int:=if n<1\/3<n then 4 else if 3<a\/(n<=0/\0<a)\/3<b\/(n<=1/\0<b)\/3<c\/(n<=2/\0<c)then 9 else 0
def K1:fp:=λvs o=>match vs,o with
 | [.str s,.int .i64 g,.int .i64 r,.int .i64 i],⟨0,[],[]⟩=>some (aN [ab 0 g,ab g 99,aa r 0,aa i 1]
   (.test (dD s g.toNat) λb=>bif b then .all λJ=>.ret (.ret,[.str s,.int .i64 g,.int .i64 1,.any (J 0)],b7)else .ret (.exit 0,[.str s,.int .i64 g,.int .i64 0,.int .i64 (g+1)],b7)))
 | _,_=>none
def Pd:dx:=j7 aW 0 (fL 15 [0,1,4,5] K1)
def RL:dM:=λargs=>match args with
 | [.str s,.int .i64 g]=>some (aN [ab 0 g,ab g 99] (.ret (.int .i64 (bI (dD s g.toNat)))))
 | _=>none
def Um:dM:=λargs=>match args with
 | [.agg [.bool ng,.bool lg,.str s,.int .i64 e,.int .i64 g,.str mo,.str da,.int .u8 a,.int .u8 b,.int .u8 c]]=>some (.ret (.int .i64 (cg mo)))
 | _=>none
def WZ:dM:=λargs=>match args with
 | [.agg [.bool ng,.bool lg,.str s,.int .i64 e,.int .i64 g,.str mo,.str da,.int .u8 a,.int .u8 b,.int .u8 c]]=>some (.ret (.int .i64 (cO mo da)))
 | _=>none
def OJ:dM:=λargs=>match args with
 | [.agg [.int .u8 a,.int .u8 b,.int .u8 c],.int .i64 n]=>some (.ret (.int .i64 (errMk a b c n)))
 | _=>none
def T6:bq:=bw T5 125 RL
def T7:bq:=bw (bw (bw T6 86 Um) 88 WZ) 126 OJ
theorem Sr:∀a:Nat,a<10->List.drop a (List.take (a+1) [UInt8.ofNat 48,UInt8.ofNat 49,UInt8.ofNat 50,UInt8.ofNat 51,UInt8.ofNat 52,UInt8.ofNat 53,UInt8.ofNat 54,UInt8.ofNat 55,UInt8.ofNat 56,UInt8.ofNat 57])=[UInt8.ofNat (48+a)]:=by decide
theorem SL:∀a:Nat,a<10->(UInt8.ofNat (48+a)).toNat=48+a:=by decide
theorem XI(n:Int){Q:AV->Prop}:aO Q (pT T3 aW 133 [.int .i64 n]) (b_ 1142270077020)=((λ(u0 u1:Int)(u2:List UInt8)=>(λ(u4 u5:Int)(u3:Prop)=>(λ(u6 u7:Nat)=>(λ(u8 u9:List UInt8)=>(λ(ua:Bool)=>u3/\u3/\ae .i64 u4=true/\ab 0 u4=true/\Nat.ble u6 10=true/\ab 0 u0=true/\Nat.ble (Int.toNat u0) u6=true/\ae .i64 u5=true/\ab 0 u5=true/\Nat.ble u7 10=true/\ab 0 u1=true/\Nat.ble (Int.toNat u1) u7=true/\(ua=true->Q (AV.str (HAppend.hAppend u8 u9)))/\(ua=false->False)) (Nat.ble (HAdd.hAdd (List.length u8) (List.length u9)) 1000000)) (List.drop (Int.toNat u0) (List.take u6 u2)) (List.drop (Int.toNat u1) (List.take u7 u2))) (Int.toNat u4) (Int.toNat u5)) (Int.add u0 1) (Int.add u1 1) (ae .i64 u0=true)) (Int.tdiv n 10) (Int.tmod n 10) [UInt8.ofNat 48,UInt8.ofNat 49,UInt8.ofNat 50,UInt8.ofNat 51,UInt8.ofNat 52,UInt8.ofNat 53,UInt8.ofNat 54,UInt8.ofNat 55,UInt8.ofNat 56,UInt8.ofNat 57]):=by kernel_rfl
theorem TY(s:List UInt8)(n:Int){Q:AV->Prop}:aO Q (pT T4 aW 186 [.str s,.int .i64 n]) (b_ 1000633058100203811403020070240020007381033058107381142322007024702423220070247024220)=((λ(u1 u2:Int)(u0:Nat)(u3 u4:Prop)=>(λ(u5 u7 u8 ua ub:Bool)(u6 u9:Prop)=>(λ(uc ud ue uf ug uh ui uj uk:Prop)=>ab 0 n=true/\ab n 99=true/\(uc->uc/\u6/\uc/\uc/\(ud->ud/\u6/\ud/\ud/\ud/\uc/\u7=false/\uc/\(ue->ue/\u9/\ue/\ue/\(uf->uf/\u9/\uf/\uf/\uf/\ue/\ua=false/\ue/\ug)/\(uh->uh/\uh/\uh/\uh/\ue/\ua=true/\ue/\u3))/\(ui->ui/\ui/\ui/\ui/\ui/\u4))/\(uj->uj/\uj/\uj/\uj/\uc/\u7=true/\uc/\u9/\(uf->uf/\u9/\uf/\uf/\uf/\ua=false/\ug)/\(uh->uh/\uh/\uh/\uh/\ua=true/\u3)))/\(uk->uk/\uk/\uk/\uk/\uk/\u4)) (u5=true) (not u7=true) (u8=true) (not ua=true) ((ub=true->u3)/\(ub=false->u4)) (not ua=false) (u8=false) (not u7=false) (u5=false)) (aa (Int.ofNat u0) 2) (aa u1 88) (aa u1 (Int.ofNat (UInt8.toNat (List.getD (mA n) 0 (UInt8.ofNat 0))))) (aa u2 88) (aa u2 (Int.ofNat (UInt8.toNat (List.getD (mA n) 1 (UInt8.ofNat 0))))) (bm 0 u0=true) (bm 1 u0=true)) (Int.ofNat (UInt8.toNat (List.getD s 0 (UInt8.ofNat 0)))) (Int.ofNat (UInt8.toNat (List.getD s 1 (UInt8.ofNat 0)))) (List.length s) (Q (AV.int .i64 1)) (Q (AV.int .i64 0))):=by kernel_rfl
theorem WT(s:List UInt8)(i g:Int)(J:Nat->Value){Q:VQ->Prop}:aO Q (rT T5 aW [] 125 0 15 [0,1,4,5] [.str s,.int .i64 g,.int .i64 0,.int .i64 i] J b7) (b_ 112142204)=((λ(u1 u2:AV)(u0:Bool)=>(ab i g=true->ab 0 i=true/\ab i 99=true/\(u0=true->Q (AX.ret,([u1,u2,AV.int .i64 1,AV.int .i64 i],{ n:=0,os:=[],le:=[] })))/\(u0=false->ae .i64 (Int.add i 1)=true/\Q (AX.normal,([u1,u2,AV.int .i64 0,AV.int .i64 (Int.add i 1)],{ n:=0,os:=[],le:=[] }))))/\(ab i g=false->Q (AX.exit 0,([u1,u2,AV.int .i64 0,AV.int .i64 i],{ n:=0,os:=[],le:=[] })))) (AV.str s) (AV.int .i64 g) (aa (cond (agr s i) 1 0) 1)):=by kernel_rfl
theorem Yw(ng lg:Bool)(s:List UInt8)(e g:Int)(mo da:List UInt8)(a b c:Int){Q:AV->Prop}:aO Q (pT T6 aW 86 [Bq ng lg s e g mo da a b c]) (b_ 10014005140051400514005140051400514005140051400514005140051400514005140051400514005140051400514005140051405)=((λ(u0 u1 u2 u3 u4 u5 u6 u7 u8 u9:UInt8)=>(λ(ua ub uc ud ue uf ug uh ui uj uk ul um un uo up uq ur us ut uu:Bool)=>(ua=true->Q (AV.int .i64 21))/\(ua=false->(ub=true->Q (AV.int .i64 22))/\(ub=false->(uc=true->Q (AV.int .i64 23))/\(uc=false->(ud=true->Q (AV.int .i64 24))/\(ud=false->(ue=true->Q (AV.int .i64 25))/\(ue=false->(uf=true->Q (AV.int .i64 26))/\(uf=false->(ug=true->Q (AV.int .i64 27))/\(ug=false->(uh=true->Q (AV.int .i64 28))/\(uh=false->(ui=true->Q (AV.int .i64 29))/\(ui=false->(uj=true->Q (AV.int .i64 30))/\(uj=false->(uk=true->Q (AV.int .i64 31))/\(uk=false->(ul=true->Q (AV.int .i64 32))/\(ul=false->(um=true->Q (AV.int .i64 33))/\(um=false->(un=true->Q (AV.int .i64 34))/\(un=false->(uo=true->Q (AV.int .i64 35))/\(uo=false->(up=true->Q (AV.int .i64 36))/\(up=false->(uq=true->Q (AV.int .i64 37))/\(uq=false->(ur=true->Q (AV.int .i64 38))/\(ur=false->(us=true->Q (AV.int .i64 39))/\(us=false->(ut=true->Q (AV.int .i64 40))/\(ut=false->(uu=true->Q (AV.int .i64 41))/\(uu=false->Q (AV.int .i64 0))))))))))))))))))))))) (af mo [u0,u1]) (af mo [u0,u0]) (af mo [u0,u2]) (af mo [u0,u3]) (af mo [u0,u4]) (af mo [u0,u5]) (af mo [u0,u6]) (af mo [u0,u7]) (af mo [u0,u8]) (af mo [u2,u9]) (af mo [u2,u1]) (af mo [u2,u0]) (af mo [u2,u2]) (af mo [u2,u3]) (af mo [u2,u4]) (af mo [u2,u5]) (af mo [u2,u6]) (af mo [u2,u7]) (af mo [u2,u8]) (af mo [u3,u9]) (af mo [u3,u1])) (UInt8.ofNat 50) (UInt8.ofNat 49) (UInt8.ofNat 51) (UInt8.ofNat 52) (UInt8.ofNat 53) (UInt8.ofNat 54) (UInt8.ofNat 55) (UInt8.ofNat 56) (UInt8.ofNat 57) (UInt8.ofNat 48)):=by kernel_rfl
theorem Ym(ng lg:Bool)(s:List UInt8)(e g:Int)(mo da:List UInt8)(a b c:Int){Q:AV->Prop}:aO Q (pT T6 aW 88 [Bq ng lg s e g mo da a b c]) (b_ 1104011040040)=((λ(u0 u1:Bool)(u2:Prop)=>(u0=true->(u1=true->Q (AV.int .i64 3))/\(u1=false->u2))/\(u0=false->(u1=true->u2)/\(u1=false->Q (AV.int .i64 1)))) (not (af mo [])) (not (af da [])) (Q (AV.int .i64 2))):=by kernel_rfl
theorem Vv(a b c n:Int){Q:AV->Prop}:aO Q (pT T6 aW 126 [.agg [.int .u8 a,.int .u8 b,.int .u8 c],.int .i64 n]) (b_ 1023102358102358102358100033281001437020024740053328102358100143702002274051437020024740053323874514324)=((λ(u0 u1 u3 u5 u7 ua uc:Bool)(u2 u4 u6 u9 ub ud ue uf:Prop)=>(λ(ug uh ui uj uk ul um un:Prop)=>(λ(uo up:Prop)=>(ug->ug/\u0=false/\(u1=true->u2)/\(u1=false->(uh->uh/\uh/\uh/\u4/\u4/\u4/\u4/\uh/\u4/\u3=false/\(ui->ui/\ui/\ui/\(u6->u6/\u6/\u6/\ui/\u6/\u5=false/\(u7=true->u9)/\(u7=false->(uj->uj/\uj/\uj/\ub/\uo)/\up))/\(ue->ue/\ue/\ue/\ui/\ue/\u5=false/\(uj->uj/\uj/\uj/\(ub->uo)/\(uf->uf/\uf/\uf/\uj/\uf/\ua=false/\ud))/\up))/\(ul->ul/\ul/\ul/\ul/\u5=true/\u9))/\(um->um/\um/\um/\um/\u3=true/\u9)))/\(un->un/\u0=true/\u2)) (ub/\ub/\ub/\uj/\ub/\ua=false/\(uc=true->u9)/\(uc=false->ud)) (uk->uk/\uk/\uk/\uk/\ua=true/\u9)) (not u0=true) (not u3=true) (not u5=true) (not ua=true) (not ua=false) (not u5=false) (not u3=false) (not u0=false)) (not (ab 1 n)) (not (ab n 3)) (not (ab a 3)) (not (ab b 3)) (not (ab b 0)) (not (ab c 3)) (not (ab c 0)) (Q (AV.int .i64 4)) (ab n 0=false) (ab n 1=true) (Q (AV.int .i64 9)) (ab n 2=true) (Q (AV.int .i64 0)) (ab n 1=false) (ab n 2=false)):=by kernel_rfl
theorem Vx(s:List UInt8)(g:Int){Q:AV->Prop}:aO Q (pT T5 Pd 125 [.str s,.int .i64 g]) (b_ 1140022)=((λ(u0:Bool)=>ab 0 g=true/\ab g 99=true/\(u0=true->(∀J1:Nat->Value,∀J2:Nat->Value,Q (AV.int .i64 1)))/\(u0=false->(∀J1:Nat->Value,Q (AV.int .i64 0)))) (dD s (Int.toNat g))):=by kernel_rfl
theorem Iq:aH tab 133=some (bC 133,aE 133):=by kernel_rfl
theorem HZ:aH tab 186=some (bC 186,aE 186):=by kernel_rfl
theorem Hx:aH tab 125=some (bC 125,aE 125):=by kernel_rfl
theorem Na:aH tab 86=some (bC 86,aE 86):=by kernel_rfl
theorem Lt:aH tab 88=some (bC 88,aE 88):=by kernel_rfl
theorem H2:aH tab 126=some (bC 126,aE 126):=by kernel_rfl
theorem E7:(bE (aE 125)).map (·.1)=[0]:=by kernel_rfl
theorem Dd:az Tryz.prog cfg T4:=by
 refine aA DS λargs t v he hv=>?_
 unfold NB at he
 split at he
 · rename_i n
   cases he
   obtain⟨⟨h1,h2,-⟩,hv⟩:=aI hv
   rw[aK]at h1 h2
   cases hv
   refine cp DS (L:=aW) Iq (by simp) ak (al ((XI n).mpr ?_)) (by simp[aq])
   dsimp only
   rw[Int.tdiv_eq_ediv_of_nonneg h1,Int.tmod_eq_emod_of_nonneg h1]
   obtain⟨k,rfl⟩:∃k:Nat,n=k:=⟨n.toNat,by omega⟩
   have e1:((k:Int)/10)=((k/10:Nat):Int):=by omega
   have e2:((k:Int)%10)=((k%10:Nat):Int):=by omega
   have e3:Int.add ((k/10:Nat):Int) 1=((k/10+1:Nat):Int):=by rw[kP];omega
   have e4:Int.add ((k%10:Nat):Int) 1=((k%10+1:Nat):Int):=by rw[kP];omega
   rw[e1,e2,e3,e4]
   simp only[Int.toNat_natCast,Sr _ (by omega:k/10<10),Sr _ (by omega:k%10<10)]
   simp only[aD,reduceCtorEq,bA,bB,ne_eq]
   simp only[List.length_cons,List.length_nil]
   (repeat' first|exact trivial|refine⟨?_,?_⟩|intro)<;>first|omega|skip
   show AV.str _=AV.str (mA k)
   unfold mA
   rw[e1,e2]
   rfl
 · cases he
theorem lF{s:List UInt8}{i:Nat}{d:Int}:agB s i d=true↔(s.getD i 0).toNat=88\/((s.getD i 0).toNat:Int)=48+d:=by
 unfold agB;rw[Bool.or_eq_true,decide_eq_true_eq,decide_eq_true_eq]
theorem Bc:az Tryz.prog cfg T5:=by
 refine aA Dd λargs t v he hv=>?_
 unfold Rk at he
 split at he
 · rename_i s n
   cases he
   obtain⟨⟨h1,h2,-⟩,hv⟩:=aI hv
   rw[aK]at h1 h2
   cases hv
   refine cp Dd (L:=aW) HZ (by simp) ak (ap λQ' hQ=>al ((TY s n).mpr ?_)) (by simp[aq])
   dsimp only
   have t0:((mA n).getD 0 0).toNat=48+(n/10).toNat:=SL _ (by omega)
   have t1:((mA n).getD 1 0).toNat=48+(n%10).toNat:=SL _ (by omega)
   have tl:(mA n).length=2:=rfl
   simp only[aD,reduceCtorEq,bA,bB,ne_eq]
   have yes:agr s n=true->Q' (.int .i64 1):=λh=>hQ _ (by rw[Ia h])
   have no:agr s n=false->Q' (.int .i64 0):=λh=>hQ _ (by rw[Hg h])
   have iff:agr s n=true↔s.length=2/\((s.getD 0 0).toNat=88\/((s.getD 0 0).toNat:Int)=48+n/10)/\((s.getD 1 0).toNat=88\/((s.getD 1 0).toNat:Int)=48+n%10):=by
    unfold agr;rw[Bool.and_eq_true,Bool.and_eq_true,decide_eq_true_eq,lF,lF]
   have iff':agr s n=false↔¬(s.length=2/\((s.getD 0 0).toNat=88\/((s.getD 0 0).toNat:Int)=48+n/10)/\((s.getD 1 0).toNat=88\/((s.getD 1 0).toNat:Int)=48+n%10)):=by
    rw[<-iff,Bool.not_eq_true]
   (repeat' first|exact trivial|refine⟨?_,?_⟩|intro)<;>first|omega|(refine yes (iff.mpr ?_);omega)|(refine no (iff'.mpr ?_);omega)
 · cases he
theorem vY{s:List UInt8}{g:Nat}:dD s g=false↔∀k,k<g->agr s ((k:Int)+1)=false:=by
 unfold dD
 rw[List.any_eq_false]
 exact⟨λh k hk=>by simpa using h k (List.mem_range.2 hk),λh k hk=>by simpa using h k (List.mem_range.1 hk)⟩
theorem BF{s:List UInt8}{g k:Nat}(hk:k<g)(h:agr s ((k:Int)+1)=true):dD s g=true:=by
 unfold dD
 rw[List.any_eq_true]
 exact⟨k,List.mem_range.2 hk,h⟩
theorem PF:dG Tryz.prog (dX cfg T5) (Cw cfg []) (lb 125 0) 15 [0,1,4,5] K1:=by
 intro vs o t Q hv hq J
 unfold K1 at hv
 split at hv
 · rename_i s g r i
   cases hv
   replace hq:=eM hq;obtain⟨⟨h1,h2,h3,h4,-⟩,hq⟩:=hq
   rw[aK]at h1 h2
   rw[aS]at h3 h4
   subst h3 h4
   have hq:Tr.wp Q (bif dD s g.toNat then .all λJ=>.ret (.ret,[.str s,.int .i64 g,.int .i64 1,.any (J 0)],b7)else .ret (.exit 0,[.str s,.int .i64 g,.int .i64 0,.int .i64 (g+1)],b7)):=hq
   refine j_ Bc rfl rfl ak (ι:={i:Nat // i<=g.toNat/\∀k,k<i->agr s ((k:Int)+1)=false}) (λx=>[.str s,.int .i64 g,.int .i64 0,.int .i64 ((x.1:Int)+1)]) (λ_=>b7) (λx=>g.toNat-x.1) 0 (λ_=>Nat.le_refl _) (λx J=>?_) (Nat.le_refl _) (λJ=>Wk.refl ⟨⟨0,Nat.zero_le _,λk hk=>absurd hk (Nat.not_lt_zero k)⟩,J,rfl⟩) J
   obtain⟨i,hi,hp⟩:=x
   dsimp only
   refine ap λQ' hQ=>al ((WT s _ g J).mpr ?_)
   simp only[aD,reduceCtorEq,bA,bB,ne_eq]
   have ct:∀b:Bool,((bif b then(1:Int)else 0)=1)=(b=true):=λb=>by cases b<;>simp
   rw[ct]
   (repeat' first|exact trivial|refine⟨?_,?_⟩|intro)<;>first|omega|refine hQ _ ?_
   · rename_i h5 h6
     rw[BF (by omega:i<g.toNat) h6,cond_true]at hq
     exact⟨_,_,VW.any (.same (.same (.same (.int .nil)))) rfl,hq (jv [_])⟩
   · rename_i h5 h6
     refine⟨⟨i+1,by omega,λk hk=>?_⟩,by dsimp only;omega,VW.of_eq (by dsimp only;congr 4) rfl⟩
     by_cases e:k=i
     · subst e;simpa using h6
     · exact hp k (by omega)
   · obtain rfl:i=g.toNat:=by omega
     rw[vY.2 hp,cond_false]at hq
     exact⟨_,_,VW.of_eq (by rw[Int.toNat_of_nonneg h1]) rfl,hq⟩
 · cases hv
theorem AA:az Tryz.prog cfg T6:=by
 refine aA Bc λargs t v he hv=>?_
 unfold RL at he
 split at he
 · rename_i s g
   cases he
   obtain⟨⟨h1,h2,-⟩,hv⟩:=aI hv
   rw[aK]at h1 h2
   cases hv
   refine cp Bc (L:=Pd) Hx (by simp) (eC E7 λi hi e he st Q hw=>?_) (ap λQ' hQ=>al ((Vx s g).mpr ?_)) (by simp[aq])
   · have hi:i=0:=by simp at hi;omega
     subst hi
     cases he
     exact cR (cV.good Bc) (by decide) rfl PF hw
   · simp only[aD,reduceCtorEq,bA,bB,ne_eq]
     (repeat' first|exact trivial|refine⟨?_,?_⟩|intro)<;>first|omega|(refine hQ _ ?_;first|(rw[Ia (by assumption)];done)|(rw[Hg (by assumption)];done))
 · cases he
theorem AW:az Tryz.prog cfg T7:=by
 refine aA (aA (aA AA λargs t v he hv=>?_) λargs t v he hv=>?_) λargs t v he hv=>?_
 · unfold Um at he
   split at he
   · cases he
     cases hv
     refine cp AA (L:=aW) Na (by simp) ak (ap λQ' hQ=>al ((Yw _ _ _ _ _ _ _ _ _ _).mpr ?_)) (by simp[aq])
     dsimp only
     (repeat' first|exact trivial|refine⟨?_,?_⟩|intro)<;>(refine hQ _ ?_;rw[AV.int.injEq];refine⟨rfl,?_⟩;unfold cg;simp only[*,cond_true,cond_false])
   · cases he
 · unfold WZ at he
   split at he
   · cases he
     cases hv
     refine cp AA (L:=aW) Lt (by simp) ak (ap λQ' hQ=>al ((Ym _ _ _ _ _ _ _ _ _ _).mpr ?_)) (by simp[aq])
     simp only[iK,Bb]
     (repeat' first|exact trivial|refine⟨?_,?_⟩|intro)<;>(refine hQ _ ?_;rw[AV.int.injEq];refine⟨rfl,?_⟩;unfold cO;simp only[*,cond_true,cond_false];rfl)
   · cases he
 · unfold OJ at he
   split at he
   · cases he
     cases hv
     refine cp AA (L:=aW) H2 (by simp) ak (ap λQ' hQ=>al ((Vv _ _ _ _).mpr ?_)) (by simp[aq])
     simp only[aD,reduceCtorEq,bA,bB,ne_eq]
     (repeat' first|exact trivial|refine⟨?_,?_⟩|intro)<;>first|omega|(refine hQ _ ?_;rw[AV.int.injEq];refine⟨rfl,?_⟩;unfold errMk;(repeat' split)<;>omega)
   · cases he
theorem xS{n:Int}:(ae .i64 n=true)=(-9223372036854775808<=n/\n<=9223372036854775807):=aQ
theorem rF(a b:Int):ja a b=min a b:=by
 unfold ja
 cases h:ab a b with
 | true=>rw[aK]at h;rw[cond_true];omega
 | false=>rw[dc]at h;rw[cond_false];omega
theorem Qe{b:Bool}:((bif b then(1:Int)else 0)=0)=(b=false):=by cases b<;>simp
theorem Q4{b:Bool}:((bif b then(1:Int)else 0)=1)=(b=true):=by cases b<;>simp
theorem vz{ng lg:Bool}{s:List UInt8}{e g:Int}(h:bD ng lg s e g=true)(h0:bz s 88 88=0):fk s=true/\0<=e/\e<=16/\s.length<=17:=by
 unfold bD at h
 rw[decide_eq_true_eq]at h
 exact⟨ol (by omega),by omega,by omega,by omega⟩
def ic(ng lg:Bool)(s:List UInt8)(e g:Int)(mo:List UInt8):Bool:=decide (bD ng lg s e g=true/\¬(0<g/\af mo []=false)/\((cg mo≠24/\cg mo≠28/\cg mo≠30)\/1<=bz s 88 88\/¬(magOk s e.toNat=true/\eR s e.toNat=10000000000000000/\ng=false)))
def O2:dM:=λargs=>match args with
 | [.agg [.bool ng,.bool lg,.str s,.int .i64 e,.int .i64 g,.str mo,.str da,.int .u8 a,.int .u8 b,.int .u8 c]]=>some (aN [Nat.ble s.length 1000,ae .i64 e] (.ret (.int .i64 (bI (ic ng lg s e g mo)))))
 | _=>none
def T8:bq:=bw T7 124 O2
def jM(ng lg:Bool)(s:List UInt8)(e g:Int)(mo da:List UInt8)(a b c:Int):Int:=
 if ic ng lg s e g mo=false then 6 else if af mo []=false/\cg mo=0/\dD mo 12=false then 7 else if af da []=false/\(af mo []=true\/0<cg mo\/dD da 31=false)then 8 else errMk a b c (cO mo da)
def X6:dM:=λargs=>match args with
 | [.agg [.bool ng,.bool lg,.str s,.int .i64 e,.int .i64 g,.str mo,.str da,.int .u8 a,.int .u8 b,.int .u8 c]]=>some (aN [Nat.ble s.length 1000,ae .i64 e] (.ret (.int .i64 (jM ng lg s e g mo da a b c))))
 | _=>none
def T9:bq:=bw T8 71 X6
theorem yh(mo:List UInt8):0<=cg mo:=by
 unfold cg
 repeat' (first|omega|(cases af mo _<;>simp only[cond_true,cond_false]))
theorem Ww(ng lg:Bool)(s:List UInt8)(e g:Int)(mo da:List UInt8)(a b c:Int){Q:AV->Prop}:aO Q (pT T7 aW 124 [Bq ng lg s e g mo da a b c]) (b_ 10230003811110051038114220224444420001400200063311110051038114220224444420001400263310281111005103811422022444442000143220205242242240006332331111005103811422022444442000140020006331111005103811422022444442000140026331028111100510381142202244444200014322020524224224006143702422022422005)=((λ(u1 u2 u3 u6 u8 u9:Bool)(u5:Int)(u0 u4 u7:Prop)=>(λ(uc ud ue:Bool)(ua ub uf ug uh ui:Prop)=>(λ(uj uk ul um un uo up:Prop)=>(λ(uq:Prop)=>u0/\ae .i64 e=true/\(ua->ua/\ua/\ua/\ua/\(ub->ub/\ub/\ua/\ub/\u1=false/\(u3=true->u4)/\(u3=false->uq))/\(uh->uh/\uh/\ua/\uh/\u1=false/\uq))/\(ui->ui/\ui/\ui/\ui/\ui/\u1=true/\u4)) ((uj->uj/\uj/\(uk->uk/\uk/\(ul->ul/\ul/\u0/\ul/\ue=false/\um)/\(un->un/\un/\un/\ue=true/\u7))/\(uo->uo/\uo/\u0/\um))/\(up->up/\up/\u0/\um))) (uc=true) (ud=true) (not ue=true) ((u6=true->u7)/\(u6=false->u0/\(ab 0 e=true->(ab e 1000=true->(fk s=true->(u8=true->(uf->uf/\uf/\uf/\uf/\(not ng=true->u4)/\(not ng=false->u7))/\(ug->ug/\ug/\ug/\ug/\u7))/\(u8=false->u7))/\(fk s=false->False))/\(ab e 1000=false->False))/\(ab 0 e=false->False))) (not ue=false) (ud=false) (uc=false)) (not (aa u5 24)) (not (aa u5 28)) (not (aa u5 30)) (not u1=true) (u2=true) (u9=true) (u9=false) (u2=false) (not u1=false)) (aa (cond (bD ng lg s e g) 1 0) 0) (not (ab g 0)) (not (af mo [])) (aa (ja 1 (Int.ofNat (bz s 88 88))) 1) (magOk s (Int.toNat e)) (aa (Int.ofNat (eR s (Int.toNat e))) 10000000000000000) (cg mo) (Nat.ble (List.length s) 1000=true) (Q (AV.int .i64 0)) (Q (AV.int .i64 1))):=by kernel_rfl
theorem YA(ng lg:Bool)(s:List UInt8)(e g:Int)(mo da:List UInt8)(a b c:Int){Q:AV->Prop}:aO Q (pT T8 aW 71 [Bq ng lg s e g mo da a b c]) (b_ 100056335330008102025782202400058100056335330008107810056142322000202423220206702400381000563353300081005614232200020732202067024014220002024220206401422006)=((λ(u0 u1 u2 u3 u4 u5 u6:Bool)(u7 u8:Prop)=>(λ(u9 ua ub uc ud ue uf ug:Prop)=>(λ(uh ui:Prop)=>Nat.ble (List.length s) 1000=true/\ae .i64 e=true/\(u0=true->Q (AV.int .i64 6))/\(u0=false->(u9->u9/\u9/\u9/\(ua->ua/\ua/\ua/\ua/\(u3=true->Q (AV.int .i64 7))/\(u3=false->(ub->ub/\ub/\ub/\u9/\u9/\u9/\ub/\u1=false/\ub/\uc/\uh)/\ui))/\(ue->ue/\ue/\ue/\ue/\(ub->ub/\ub/\ub/\u9/\u9/\u9/\ub/\u1=false/\ub/\(uc->uh)/\(uf->uf/\uf/\uf/\ub/\u5=true/\ub/\u7))/\ui))/\(ug->ug/\ug/\ug/\(ub->ub/\ub/\ub/\ug/\ug/\ug/\ub/\u1=true/\ub/\ub/\ub/\u7)/\ui))) (uc/\uc/\uc/\ub/\u5=false/\ub/\(u6=true->u7)/\(u6=false->u8)) (ud->ud/\ud/\ud/\ud/\ud/\ud/\ud/\u8)) (not u1=true) (u2=true) (u4=true) (not u5=true) (u4=false) (u2=false) (not u5=false) (not u1=false)) (aa (cond (ic ng lg s e g mo) 1 0) 0) (af mo []) (aa (cg mo) 0) (aa (cond (dD mo 12) 1 0) 0) (not (af da [])) (not (ab (cg mo) 0)) (aa (cond (dD da 31) 1 0) 0) (Q (AV.int .i64 8)) (Q (AV.int .i64 (errMk a b c (cO mo da))))):=by kernel_rfl
theorem If:aH tab 124=some (bC 124,aE 124):=by kernel_rfl
theorem KO:aH tab 71=some (bC 71,aE 71):=by kernel_rfl
theorem J_:az Tryz.prog cfg T8:=by
 refine aA AW λargs t v he hv=>?_
 unfold O2 at he
 split at he
 · rename_i ng lg s e g mo da a b c
   cases he
   obtain⟨⟨h1,h2,-⟩,hv⟩:=aI hv
   rw[aB]at h1
   rw[xS]at h2
   cases hv
   refine cp AW (L:=aW) If (by simp) ak (ap λQ' hQ=>al ((Ww ng lg s e g mo da a b c).mpr ?_)) (by simp[aq])
   simp only[aD,reduceCtorEq,bA,bB,ne_eq]
   simp only[rF,Qe,Q4,Bool.not_eq_false,Bool.not_eq_true,Classical.not_not]
   have yes:ic ng lg s e g mo=true->Q' (.int .i64 1):=λh=>hQ _ (by rw[Ia h])
   have no:ic ng lg s e g mo=false->Q' (.int .i64 0):=λh=>hQ _ (by rw[Hg h])
   have dg:=@vz ng lg s e g
   (repeat' first|exact trivial|refine⟨?_,?_⟩|intro)<;>first|assumption|omega|(refine no ?_;unfold ic;rw[decide_eq_false_iff_not];simp_all;try omega)|(refine yes ?_;unfold ic;rw[decide_eq_true_eq];simp_all;try omega)|(exfalso;have:=dg (by assumption) (by omega);simp_all;try omega)
 · cases he
theorem JO:az Tryz.prog cfg T9:=by
 refine aA J_ λargs t v he hv=>?_
 unfold X6 at he
 split at he
 · rename_i ng lg s e g mo da a b c
   cases he
   obtain⟨⟨h1,h2,-⟩,hv⟩:=aI hv
   rw[aB]at h1
   rw[xS]at h2
   cases hv
   refine cp J_ (L:=aW) KO (by simp) ak (ap λQ' hQ=>al ((YA ng lg s e g mo da a b c).mpr ?_)) (by simp[aq])
   simp only[aD,reduceCtorEq,bA,bB,ne_eq]
   simp only[rF,Qe,Q4,Bool.not_eq_false,Bool.not_eq_true,Classical.not_not]
   have nn:=yh mo
   (repeat' first|exact trivial|refine⟨?_,?_⟩|intro)<;>first|assumption|omega|(refine hQ _ ?_;unfold jM;simp_all;done)|(refine hQ _ ?_;unfold jM;simp_all;omega)
 · cases he
end Go.Ev
end
section
namespace Go.Proofs.YtafekjglclnegaaGreatDoor
open Go.RowKit
theorem ints_size(a:Nat)(w:World)(h:a<=9223372036854775807):Calls Tryz.prog 265 #[.int .i64 (a:Int)] w λe w'=>e=.returned (.int .u64 (a:Int))/\w=w':=by
 go_enter Tryz.func265,Tryz.ntmps265
 go_wp2
 go_ret
 simp
theorem ints_signed_ok(a:Nat)(w:World)(h:a<=9223372036854775807):Calls Tryz.prog 266 #[.int .u64 (a:Int),.bool false] w λe w'=>e=.returned (.tuple #[.int .i64 (a:Int),.int .i64 0])/\w=w':=by
 go_enter Tryz.func266,Tryz.ntmps266
 go_wp2
 go_ret2
 simp
theorem ints_signed_no(a:Nat)(w:World)(h:9223372036854775807<a):Calls Tryz.prog 266 #[.int .u64 (a:Int),.bool false] w λe w'=>e=.returned (.tuple #[.int .i64 0,.int .i64 15])/\w=w':=by
 go_enter Tryz.func266,Tryz.ntmps266
 go_wp2
 go_ret2
 simp
theorem Mul64(x y:Nat)(w:World)(hx:x<18446744073709551616)(hy:y<18446744073709551616)(a b:Nat)(ha:x*y/18446744073709551616=a)(hb:x*y%18446744073709551616=b) :
 Calls Tryz.prog 264 #[.int .u64 (x:Int),.int .u64 (y:Int)] w λe w'=>e=.returned (.tuple #[.int .u64 (a:Int),.int .u64 (b:Int)])/\w=w':=by
 subst ha;subst hb
 refine(Tryz.bits_Mul64 x y hx hy w).mono ?_
 rintro e w' ⟨rfl,rfl⟩
 exact⟨rfl,rfl⟩
theorem Mul_ok(a b:Nat)(w:World)(ha:a<=9223372036854775807)(hb0:b<=9223372036854775807)(h:a*b<=9223372036854775807) :
 Calls Tryz.prog 213 #[.int .i64 (a:Int),.int .i64 (b:Int)] w λe w'=>e=.returned (.tuple #[.int .i64 ((a*b:Nat):Int),.int .i64 0])/\Below w.heap.size w w':=by
 obtain⟨m,hm⟩:∃m,a*b=m:=⟨_,rfl⟩
 have e1:a*b/18446744073709551616=0:=by omega
 have e2:a*b%18446744073709551616=m:=by omega
 rw[hm]at h ⊢
 clear hm
 go_enter Tryz.func213,Tryz.ntmps213
 go_wp2_with (first|(go_at_call 265;refine(ints_size _ _ (by omega)).mono ?_;rintro e w' ⟨rfl,rfl⟩)|(go_at_call 264;refine(Mul64 _ _ _ (by omega) (by omega) _ _ e1 e2).mono ?_;rintro e w' ⟨rfl,rfl⟩)|(go_at_call 266;refine(ints_signed_ok _ _ (by omega)).mono ?_;rintro e w' ⟨rfl,rfl⟩))
 go_ret2
 exact⟨by simp,by(repeat(first|exact Below.refl _ _|assumption|refine balloc ?_ _|refine Below.drew ?_|refine bdrewN ?_ _|(refine bset ?_ (by first|exact Nat.le_refl _|(simp;done)|(simp;omega)) _)|refine bnext ?_ (by assumption)))⟩
theorem Mul_no(a b:Nat)(w:World)(ha:a<=9223372036854775807)(hb0:b<=9223372036854775807)(h:9223372036854775807<a*b) :
 Calls Tryz.prog 213 #[.int .i64 (a:Int),.int .i64 (b:Int)] w λe w'=>e=.returned (.tuple #[.int .i64 0,.int .i64 15])/\Below w.heap.size w w':=by
 obtain⟨q,e1⟩:∃q,a*b/18446744073709551616=q:=⟨_,rfl⟩
 obtain⟨m,e2⟩:∃m,a*b%18446744073709551616=m:=⟨_,rfl⟩
 have hm:m<18446744073709551616:=by omega
 by_cases hq:0<q
 · clear h
   go_enter Tryz.func213,Tryz.ntmps213
   go_wp2_with (first|(go_at_call 265;refine(ints_size _ _ (by omega)).mono ?_;rintro e w' ⟨rfl,rfl⟩)|(go_at_call 264;refine(Mul64 _ _ _ (by omega) (by omega) _ _ e1 e2).mono ?_;rintro e w' ⟨rfl,rfl⟩))
   go_ret2
   exact⟨by simp,by(repeat(first|exact Below.refl _ _|assumption|refine balloc ?_ _|refine Below.drew ?_|refine bdrewN ?_ _|(refine bset ?_ (by first|exact Nat.le_refl _|(simp;done)|(simp;omega)) _)|refine bnext ?_ (by assumption)))⟩
 · have hq0:q=0:=by omega
   have h2:9223372036854775807<m:=by omega
   subst hq0
   clear h
   go_enter Tryz.func213,Tryz.ntmps213
   go_wp2_with (first|(go_at_call 265;refine(ints_size _ _ (by omega)).mono ?_;rintro e w' ⟨rfl,rfl⟩)|(go_at_call 264;refine(Mul64 _ _ _ (by omega) (by omega) _ _ e1 e2).mono ?_;rintro e w' ⟨rfl,rfl⟩)|(go_at_call 266;refine(ints_signed_no _ _ (by omega)).mono ?_;rintro e w' ⟨rfl,rfl⟩))
   go_ret2
   exact⟨by simp,by(repeat(first|exact Below.refl _ _|assumption|refine balloc ?_ _|refine Below.drew ?_|refine bdrewN ?_ _|(refine bset ?_ (by first|exact Nat.le_refl _|(simp;done)|(simp;omega)) _)|refine bnext ?_ (by assumption)))⟩
end Go.Proofs.YtafekjglclnegaaGreatDoor
end
