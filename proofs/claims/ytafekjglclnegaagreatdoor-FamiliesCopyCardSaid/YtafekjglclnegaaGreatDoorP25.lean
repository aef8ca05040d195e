import Derived.Test.YtafekjglclnegaaGreatDoorP19
set_option linter.all false
set_option maxRecDepth 100000
set_option maxHeartbeats 4000000
namespace Go.Ev
open Go Go.Proofs Go.Proofs.YtafekjglclnegaaGreatDoor
def gO(y:Int):Int:=lp y
def bN(y:Int):Int:=yst y
def na(y:Int):Int:=before y
def dH(a b:Int):Int:=a/b
def eX(a b:Int):Int:=a%b
def RG:dM:=λargs=>match args with
 | [.int .i64 a,.int .i64 b]=>some (aN [ae .i64 a,ab 2 b,ab b 200000] (.ret (.tuple [.int .i64 (dH a b),.int .i64 0])))
 | _=>none
def Ti:dM:=λargs=>match args with
 | [.int .i64 a,.int .i64 b]=>some (aN [ae .i64 a,ab 2 b,ab b 200000] (.ret (.tuple [.int .i64 (eX a b),.int .i64 0])))
 | _=>none
def Uv:bq:=bw (bw dF 267 RG) 268 Ti
def CH(y:Int):Bool:=ab (-20000000000000000) y&&ab y 20000000000000000
def Qh:dM:=λargs=>match args with
 | [.int .i64 y]=>some (aN [CH y] (.ret (.int .i64 (na y))))
 | _=>none
def PX:dM:=λargs=>match args with
 | [.int .i64 y]=>some (aN [CH y] (.ret (.int .i64 (bN y))))
 | _=>none
def VN:bq:=bw Uv 321 Qh
def PC:bq:=bw VN 271 PX
theorem Wo(a b:Int){Q:AV->Prop}:aO Q (pT dF aW 267 [.int .i64 a,.int .i64 b]) (b_ 1033811144227421033811144227424233)=((λ(u4:AV)(u2 u3:Bool)(u1:Int)(u0:Prop)=>(λ(u6 u9:Int)(u5 u7 u8 ua:Prop)=>aa b 0=false/\aa b (Neg.neg 1)=false/\u0/\(ae .i64 u1=true->u0/\(u5->u5/\u5/\u5/\u5/\u5/\(u3=true->(ae .i64 u6=true->Q (AV.tuple [AV.int .i64 u6,u4]))/\(ae .i64 u6=false->Q (AV.tuple [AV.int .i64 (IntKind.wrap .i64 u6),u4])))/\(u3=false->u7))/\(u8->u8/\u8/\u8/\u8/\u8/\u7))/\(ae .i64 u1=false->u0/\(u5->u5/\u5/\u5/\u5/\u5/\(u3=true->(ae .i64 u9=true->Q (AV.tuple [AV.int .i64 u9,u4]))/\(ae .i64 u9=false->Q (AV.tuple [AV.int .i64 (IntKind.wrap .i64 u9),u4])))/\(u3=false->ua))/\(u8->u8/\u8/\u8/\u8/\u8/\ua))) (Int.sub u1 1) (Int.sub (IntKind.wrap .i64 u1) 1) (u2=true) (Q (AV.tuple [AV.int .i64 u1,u4])) (u2=false) (Q (AV.tuple [AV.int .i64 (IntKind.wrap .i64 u1),u4]))) (AV.int .i64 0) (not (aa (Int.tmod a b) 0)) (not (aL (not (ab 0 a)) (not (ab 0 b)))) (Int.tdiv a b) (not (aa b 0)=true)):=by kernel_rfl
theorem UA(a b:Int){Q:AV->Prop}:aO Q (pT dF aW 268 [.int .i64 a,.int .i64 b]) (b_ 10338111442274233)=((λ(u1:AV)(u0:Int)=>(λ(u2 u3:Bool)(u4:Int)(u5:Prop)=>(λ(u6 u7:Prop)=>aa b 0=false/\aa b (Neg.neg 1)=false/\not (aa b 0)=true/\(u6->u6/\u6/\u6/\u6/\u6/\(u3=true->(ae .i64 u4=true->Q (AV.tuple [AV.int .i64 u4,u1]))/\(ae .i64 u4=false->Q (AV.tuple [AV.int .i64 (IntKind.wrap .i64 u4),u1])))/\(u3=false->u5))/\(u7->u7/\u7/\u7/\u7/\u7/\u5)) (u2=true) (u2=false)) (not (aa u0 0)) (not (aL (not (ab 0 u0)) (not (ab 0 b)))) (Int.add u0 b) (Q (AV.tuple [AV.int .i64 u0,u1]))) (AV.int .i64 0) (Int.tmod a b)):=by kernel_rfl
theorem W_(y:Int){Q:AV->Prop}:aO Q (pT Uv aW 321 [.int .i64 y]) (b_ 100100410010044000200200051001004100100440002002000541001004100100440002002000510010041001004400020020005440002002000510010041001004400020020005100100410010044000200200054100100410010044000200200051001004100100440002002000544000200200054100100410010044000200200051001004100100440002002000541001004100100440002002000510010041001004400020020005440002002000510010041001004400020020005100100410010044000200200054100100410010044000200200051001004100100440002002000544000200200054400020020005)=((λ(u0:Int)=>(λ(u2 u3 u4:Int)(u1:Prop)=>(λ(u5 u9 ub uc:Int)(u6 u7 u8 ua:Prop)=>(λ(ud ue uf ug uh ui:Int)=>(λ(uj uk ul um un uo up uq ur us ut uu uv uw ux uy:Int)=>(λ(uz uA uB uC uD uE uF uG uH uI uJ uK uL uM uN uO uP uQ uR uS:Int)=>(λ(uT uU uV uW uX uY uZ u10:Int)=>u1/\u1/\(ae .i64 u2=true->(ae .i64 u5=true->u1/\u1/\(u6->(ae .i64 ud=true->u1/\u1/\(u7->(ae .i64 uj=true->Q (AV.int .i64 uj))/\(ae .i64 uj=false->Q (AV.int .i64 (IntKind.wrap .i64 uj))))/\(u8->(ae .i64 uk=true->Q (AV.int .i64 uk))/\(ae .i64 uk=false->Q (AV.int .i64 (IntKind.wrap .i64 uk)))))/\(ae .i64 ud=false->u1/\u1/\(u7->(ae .i64 uz=true->Q (AV.int .i64 uz))/\(ae .i64 uz=false->Q (AV.int .i64 (IntKind.wrap .i64 uz))))/\(u8->(ae .i64 uA=true->Q (AV.int .i64 uA))/\(ae .i64 uA=false->Q (AV.int .i64 (IntKind.wrap .i64 uA))))))/\(ua->(ae .i64 ue=true->u1/\u1/\(u7->(ae .i64 um=true->Q (AV.int .i64 um))/\(ae .i64 um=false->Q (AV.int .i64 (IntKind.wrap .i64 um))))/\(u8->(ae .i64 un=true->Q (AV.int .i64 un))/\(ae .i64 un=false->Q (AV.int .i64 (IntKind.wrap .i64 un)))))/\(ae .i64 ue=false->u1/\u1/\(u7->(ae .i64 uB=true->Q (AV.int .i64 uB))/\(ae .i64 uB=false->Q (AV.int .i64 (IntKind.wrap .i64 uB))))/\(u8->(ae .i64 uC=true->Q (AV.int .i64 uC))/\(ae .i64 uC=false->Q (AV.int .i64 (IntKind.wrap .i64 uC)))))))/\(ae .i64 u5=false->u1/\u1/\(u6->(ae .i64 up=true->u1/\u1/\(u7->(ae .i64 uD=true->Q (AV.int .i64 uD))/\(ae .i64 uD=false->Q (AV.int .i64 (IntKind.wrap .i64 uD))))/\(u8->(ae .i64 uE=true->Q (AV.int .i64 uE))/\(ae .i64 uE=false->Q (AV.int .i64 (IntKind.wrap .i64 uE)))))/\(ae .i64 up=false->u1/\u1/\(u7->(ae .i64 uT=true->Q (AV.int .i64 uT))/\(ae .i64 uT=false->Q (AV.int .i64 (IntKind.wrap .i64 uT))))/\(u8->(ae .i64 uU=true->Q (AV.int .i64 uU))/\(ae .i64 uU=false->Q (AV.int .i64 (IntKind.wrap .i64 uU))))))/\(ua->(ae .i64 uq=true->u1/\u1/\(u7->(ae .i64 uG=true->Q (AV.int .i64 uG))/\(ae .i64 uG=false->Q (AV.int .i64 (IntKind.wrap .i64 uG))))/\(u8->(ae .i64 uH=true->Q (AV.int .i64 uH))/\(ae .i64 uH=false->Q (AV.int .i64 (IntKind.wrap .i64 uH)))))/\(ae .i64 uq=false->u1/\u1/\(u7->(ae .i64 uV=true->Q (AV.int .i64 uV))/\(ae .i64 uV=false->Q (AV.int .i64 (IntKind.wrap .i64 uV))))/\(u8->(ae .i64 uW=true->Q (AV.int .i64 uW))/\(ae .i64 uW=false->Q (AV.int .i64 (IntKind.wrap .i64 uW))))))))/\(ae .i64 u2=false->(ae .i64 uc=true->u1/\u1/\(u6->(ae .i64 ug=true->u1/\u1/\(u7->(ae .i64 ur=true->Q (AV.int .i64 ur))/\(ae .i64 ur=false->Q (AV.int .i64 (IntKind.wrap .i64 ur))))/\(u8->(ae .i64 us=true->Q (AV.int .i64 us))/\(ae .i64 us=false->Q (AV.int .i64 (IntKind.wrap .i64 us)))))/\(ae .i64 ug=false->u1/\u1/\(u7->(ae .i64 uJ=true->Q (AV.int .i64 uJ))/\(ae .i64 uJ=false->Q (AV.int .i64 (IntKind.wrap .i64 uJ))))/\(u8->(ae .i64 uK=true->Q (AV.int .i64 uK))/\(ae .i64 uK=false->Q (AV.int .i64 (IntKind.wrap .i64 uK))))))/\(ua->(ae .i64 uh=true->u1/\u1/\(u7->(ae .i64 uu=true->Q (AV.int .i64 uu))/\(ae .i64 uu=false->Q (AV.int .i64 (IntKind.wrap .i64 uu))))/\(u8->(ae .i64 uv=true->Q (AV.int .i64 uv))/\(ae .i64 uv=false->Q (AV.int .i64 (IntKind.wrap .i64 uv)))))/\(ae .i64 uh=false->u1/\u1/\(u7->(ae .i64 uL=true->Q (AV.int .i64 uL))/\(ae .i64 uL=false->Q (AV.int .i64 (IntKind.wrap .i64 uL))))/\(u8->(ae .i64 uM=true->Q (AV.int .i64 uM))/\(ae .i64 uM=false->Q (AV.int .i64 (IntKind.wrap .i64 uM)))))))/\(ae .i64 uc=false->u1/\u1/\(u6->(ae .i64 ux=true->u1/\u1/\(u7->(ae .i64 uN=true->Q (AV.int .i64 uN))/\(ae .i64 uN=false->Q (AV.int .i64 (IntKind.wrap .i64 uN))))/\(u8->(ae .i64 uO=true->Q (AV.int .i64 uO))/\(ae .i64 uO=false->Q (AV.int .i64 (IntKind.wrap .i64 uO)))))/\(ae .i64 ux=false->u1/\u1/\(u7->(ae .i64 uX=true->Q (AV.int .i64 uX))/\(ae .i64 uX=false->Q (AV.int .i64 (IntKind.wrap .i64 uX))))/\(u8->(ae .i64 uY=true->Q (AV.int .i64 uY))/\(ae .i64 uY=false->Q (AV.int .i64 (IntKind.wrap .i64 uY))))))/\(ua->(ae .i64 uy=true->u1/\u1/\(u7->(ae .i64 uQ=true->Q (AV.int .i64 uQ))/\(ae .i64 uQ=false->Q (AV.int .i64 (IntKind.wrap .i64 uQ))))/\(u8->(ae .i64 uR=true->Q (AV.int .i64 uR))/\(ae .i64 uR=false->Q (AV.int .i64 (IntKind.wrap .i64 uR)))))/\(ae .i64 uy=false->u1/\u1/\(u7->(ae .i64 uZ=true->Q (AV.int .i64 uZ))/\(ae .i64 uZ=false->Q (AV.int .i64 (IntKind.wrap .i64 uZ))))/\(u8->(ae .i64 u10=true->Q (AV.int .i64 u10))/\(ae .i64 u10=false->Q (AV.int .i64 (IntKind.wrap .i64 u10))))))))) (Int.add uF u4) (Int.add uF u9) (Int.add uI u4) (Int.add uI u9) (Int.add uP u4) (Int.add uP u9) (Int.add uS u4) (Int.add uS u9)) (Int.add ul u4) (Int.add ul u9) (Int.add uo u4) (Int.add uo u9) (Int.add up u4) (Int.add up u9) (IntKind.wrap .i64 up) (Int.add uq u4) (Int.add uq u9) (IntKind.wrap .i64 uq) (Int.add ut u4) (Int.add ut u9) (Int.add uw u4) (Int.add uw u9) (Int.add ux u4) (Int.add ux u9) (IntKind.wrap .i64 ux) (Int.add uy u4) (Int.add uy u9) (IntKind.wrap .i64 uy)) (Int.add ud u4) (Int.add ud u9) (IntKind.wrap .i64 ud) (Int.add ue u4) (Int.add ue u9) (IntKind.wrap .i64 ue) (Int.add uf u3) (Int.add uf ub) (Int.add ug u4) (Int.add ug u9) (IntKind.wrap .i64 ug) (Int.add uh u4) (Int.add uh u9) (IntKind.wrap .i64 uh) (Int.add ui u3) (Int.add ui ub)) (Int.add u5 u3) (Int.add u5 ub) (IntKind.wrap .i64 u5) (Int.add uc u3) (Int.add uc ub) (IntKind.wrap .i64 uc)) (Int.add 1 u2) (IntKind.wrap .i64 u4) (IntKind.wrap .i64 u3) (Int.add 1 (IntKind.wrap .i64 u2)) (ae .i64 u3=true) (ae .i64 u4=true) (ae .i64 u4=false) (ae .i64 u3=false)) (Int.mul 1 (dH u0 4)) (Int.mul (Neg.neg 1) (dH u0 100)) (Int.mul 1 (dH u0 400)) (ae .i64 u0=true)) (Int.sub y 1)):=by kernel_rfl
theorem Ve(y:Int){Q:AV->Prop}:aO Q (pT VN aW 271 [.int .i64 y]) (b_ 114202)=((λ(u0:Int)=>ae .i64 (Int.mul 365 y)=true/\and (ab (Neg.neg 20000000000000000) y) (ab y 20000000000000000)=true/\(ae .i64 u0=true->Q (AV.int .i64 u0))/\(ae .i64 u0=false->Q (AV.int .i64 (IntKind.wrap .i64 u0)))) (Int.add (Int.mul 365 y) (na y))):=by kernel_rfl
theorem HX:aH tab 267=some (bC 267,aE 267):=by kernel_rfl
theorem H9:aH tab 268=some (bC 268,aE 268):=by kernel_rfl
theorem Io:aH tab 321=some (bC 321,aE 321):=by kernel_rfl
theorem Jy:aH tab 271=some (bC 271,aE 271):=by kernel_rfl
theorem FH{a b:Int}(hb:0<b):(a.tmod b<0->a.tdiv b-1=dH a b/\a.tmod b+b=eX a b)/\(0<=a.tmod b->a.tdiv b=dH a b/\a.tmod b=eX a b)/\-b<a.tmod b/\a.tmod b<b/\(a.tmod b<0->a<0)/\(0<a.tmod b->0<a):=by
 have e:=tq_cases a b hb
 have h1:=Int.lt_tmod_of_pos a hb
 have h2:=Int.tmod_lt_of_pos a hb
 have h3:0<=a->0<=a.tmod b:=λh=>Int.tmod_nonneg b h
 have h4:a<=0->a.tmod b<=0:=λh=>by
  have:=Int.tmod_nonneg b (show 0<=-a by omega)
  rw[Int.neg_tmod]at this;omega
 unfold dH eX
 refine⟨λh=>?_,λh=>?_,h1,h2,λh=>?_,λh=>?_⟩
 · rw[if_pos (by omega),if_pos (by omega)]at e;exact⟨e.1.symm,e.2.symm⟩
 · rw[if_neg (by omega),if_neg (by omega)]at e;exact⟨e.1.symm,e.2.symm⟩
 · omega
 · omega
theorem ES:az Tryz.prog cfg Uv:=by
 refine aA (aA aT λargs t v he hv=>?_) λargs t v he hv=>?_
 · unfold RG at he
   split at he
   · rename_i a b
     cases he
     obtain⟨⟨h1,h2,h3,-⟩,hv⟩:=aI hv
     rw[aQ]at h1
     rw[aK]at h2 h3
     simp only[bA,bB]at h1
     cases hv
     refine cp aT (L:=aW) HX (by simp) ak (ap λQ' hQ=>al ((Wo a b).mpr ?_)) (by simp[aq,bG])
     dsimp only
     obtain⟨k1,k2,k3,k4,k5,k6⟩:=@FH a b (by omega)
     have tb:=tdiv_bd a b h2 h1.1 h1.2
     have w:IntKind.wrap .i64 (a.tdiv b)=a.tdiv b:=xq .i64 _ (by simp only[bA];omega) (by simp only[bB];omega)
     have fin:∀n:Int,n=dH a b->Q' (.tuple [.int .i64 n,.int .i64 0]):=λn h=>hQ _ (by rw[h])
     clear hQ
     have e0:ab 0 b=true:=aK.mpr (by omega)
     simp only[w,e0,Bool.not_true]
     generalize a.tdiv b=q at *
     generalize a.tmod b=r at *
     simp only[aD,reduceCtorEq,bA,bB,ne_eq]
     (repeat' first|exact trivial|refine⟨?_,?_⟩|intro)<;>first|omega|(apply fin;exact(k1 (by omega)).1)|(apply fin;exact(k2 (by omega)).1)
   · cases he
 · unfold Ti at he
   split at he
   · rename_i a b
     cases he
     obtain⟨⟨h1,h2,h3,-⟩,hv⟩:=aI hv
     rw[aQ]at h1
     rw[aK]at h2 h3
     simp only[bA,bB]at h1
     cases hv
     refine cp aT (L:=aW) H9 (by simp) ak (ap λQ' hQ=>al ((UA a b).mpr ?_)) (by simp[aq,bG])
     dsimp only
     obtain⟨k1,k2,k3,k4,k5,k6⟩:=@FH a b (by omega)
     have fin:∀n:Int,n=eX a b->Q' (.tuple [.int .i64 n,.int .i64 0]):=λn h=>hQ _ (by rw[h])
     clear hQ
     have e0:ab 0 b=true:=aK.mpr (by omega)
     simp only[e0,Bool.not_true]
     generalize a.tdiv b=q at *
     generalize a.tmod b=r at *
     simp only[aD,reduceCtorEq,bA,bB,ne_eq]
     (repeat' first|exact trivial|refine⟨?_,?_⟩|intro)<;>first|omega|(apply fin;exact(k1 (by omega)).2)|(apply fin;exact(k2 (by omega)).2)
   · cases he
theorem Fr:az Tryz.prog cfg VN:=by
 refine aA ES λargs t v he hv=>?_
 · unfold Qh at he
   split at he
   · rename_i y
     cases he
     obtain⟨h1,hv⟩:=bU hv
     unfold CH at h1
     rw[Bool.and_eq_true,aK,aK]at h1
     cases hv
     refine cp ES (L:=aW) Io (by simp) ak (ap λQ' hQ=>al ((W_ y).mpr ?_)) (by simp[aq])
     dsimp only
     have fin:∀n:Int,n=na y->Q' (.int .i64 n):=λn h=>hQ _ (by rw[h])
     clear hQ
     simp only[aD,reduceCtorEq,bA,bB,ne_eq,dH]
     unfold na before at fin
     (repeat' first|exact trivial|refine⟨?_,?_⟩|intro)<;>first|omega|(apply fin;omega)
   · cases he
theorem xn:az Tryz.prog cfg PC:=by
 refine aA Fr λargs t v he hv=>?_
 · unfold PX at he
   split at he
   · rename_i y
     cases he
     obtain⟨h1,hv⟩:=bU hv
     unfold CH at h1
     rw[Bool.and_eq_true,aK,aK]at h1
     cases hv
     have hok:CH y=true:=by unfold CH;rw[Bool.and_eq_true,aK,aK];exact h1
     have hb : -20000000000000000<=na y/\na y<=20000000000000000:=by unfold na before;omega
     refine cp Fr (L:=aW) Jy (by simp) ak (ap λQ' hQ=>al ((Ve y).mpr ?_)) (by simp[aq])
     dsimp only
     have fin:∀n:Int,n=bN y->Q' (.int .i64 n):=λn h=>hQ _ (by rw[h])
     clear hQ
     have e:bN y=365*y+na y:=rfl
     rw[e]at fin
     generalize na y=by' at *
     simp only[aD,reduceCtorEq,bA,bB,ne_eq]
     (repeat' first|exact trivial|refine⟨?_,?_⟩|intro)<;>first|omega|assumption|(apply fin;omega)
   · cases he
def eD(y:Int):Bool:=ab (-10000000000000000) y&&ab y 10000000000000000
def mU(m:Int):Bool:=ab 1 m&&ab m 12
def d8(y m:Int):Int:=mlen y m
def aR(y m:Int):Int:=mst y m
def Qa:dM:=λargs=>match args with
 | [.int .i64 y]=>some (aN [eD y] (.ret (.tuple [.bool (aa (gO y) 1),.int .i64 0])))
 | _=>none
def NL:dM:=λargs=>match args with
 | [.int .i64 y]=>some (aN [eD y] (.ret (.tuple [.int .i64 (bN y),.int .i64 0])))
 | _=>none
def LO:dM:=λargs=>match args with
 | [.int .i64 y]=>some (aN [eD y] (.ret (.tuple [.int .i64 (bN (y+1)-1),.int .i64 0])))
 | _=>none
def Us:bq:=bw (bw (bw PC 322 Qa) 273 NL) 274 LO
def Pq:dM:=λargs=>match args with
 | [.int .i64 y,.int .i64 m]=>some (aN [eD y,mU m] (.ret (.int .i64 (d8 y m))))
 | _=>none
def OR:bq:=bw Us 276 Pq
theorem Ux(y:Int){Q:AV->Prop}:aO Q (pT PC aW 322 [.int .i64 y]) (b_ 12020203322)=((λ(u0:Bool)(u1:Int)=>(λ(u2:Prop)=>u2/\u2/\u0=false/\not (ab y 10000000000000000)=false/\ae .i64 u1=true/\and (ab (Neg.neg 20000000000000000) u1) (ab u1 20000000000000000)=true/\and (ab (Neg.neg 20000000000000000) y) (ab y 20000000000000000)=true/\Q (AV.tuple [AV.bool (not (ab (na u1) (na y))),AV.int .i64 0])) (not u0=true)) (not (ab (Neg.neg 10000000000000000) y)) (Int.add y 1)):=by kernel_rfl
theorem WC(y:Int){Q:AV->Prop}:aO Q (pT PC aW 273 [.int .i64 y]) (b_ 12003322)=((λ(u0:Bool)=>(λ(u1:Prop)=>u1/\u1/\u0=false/\not (ab y 10000000000000000)=false/\and (ab (Neg.neg 20000000000000000) y) (ab y 20000000000000000)=true/\Q (AV.tuple [AV.int .i64 (bN y),AV.int .i64 0])) (not u0=true)) (not (ab (Neg.neg 10000000000000000) y))):=by kernel_rfl
theorem UJ(y:Int){Q:AV->Prop}:aO Q (pT PC aW 274 [.int .i64 y]) (b_ 11420203322)=((λ(u0:Bool)(u1:Int)=>(λ(u3:Int)(u2:Prop)=>u2/\u2/\u0=false/\not (ab y 10000000000000000)=false/\ae .i64 u1=true/\and (ab (Neg.neg 20000000000000000) u1) (ab u1 20000000000000000)=true/\(ae .i64 u3=true->Q (AV.tuple [AV.int .i64 u3,AV.int .i64 0]))/\(ae .i64 u3=false->Q (AV.tuple [AV.int .i64 (IntKind.wrap .i64 u3),AV.int .i64 0]))) (Int.sub (bN u1) 1) (not u0=true)) (not (ab (Neg.neg 10000000000000000) y)) (Int.add y 1)):=by kernel_rfl
theorem Uh(y m:Int){Q:AV->Prop}:aO Q (pT Us aW 276 [.int .i64 y,.int .i64 m]) (b_ 114703311471422420)=((λ(u2 u3:AV)(u0:Bool)(u1:Int)=>(λ(u5:AV)(u4 u6:Prop)=>(λ(u7:Prop)=>and (ab (Neg.neg 10000000000000000) y) (ab y 10000000000000000)=true/\(u4->u4/\u4/\(aa m 2=true->Q (AV.int .i64 29))/\(aa m 2=false->u7))/\(u6->u6/\u6/\u7)) (ae .i64 u1=true/\ab 0 u1=true/\bm (Int.toNat u1) 12=true/\(bM .i64 u5=true->Q (AV.int .i64 (bL u5)))/\(bM .i64 u5=false->False))) (List.getD [u2,AV.int .i64 28,u2,u3,u2,u3,u2,u2,u3,u2,u3,u2] (HAdd.hAdd 0 (HMul.hMul (Int.toNat u1) 1)) (AV.tuple [])) (u0=true) (u0=false)) (AV.int .i64 31) (AV.int .i64 30) (aa (gO y) 1) (Int.sub m 1)):=by kernel_rfl
theorem IC:aH tab 322=some (bC 322,aE 322):=by kernel_rfl
theorem Ix:aH tab 273=some (bC 273,aE 273):=by kernel_rfl
theorem G9:aH tab 274=some (bC 274,aE 274):=by kernel_rfl
theorem Ii:aH tab 276=some (bC 276,aE 276):=by kernel_rfl
theorem cr{y:Int}:eD y=true↔-10000000000000000<=y/\y<=10000000000000000:=by unfold eD;rw[Bool.and_eq_true,aK,aK]
theorem fI{m:Int}:mU m=true↔1<=m/\m<=12:=by unfold mU;rw[Bool.and_eq_true,aK,aK]
theorem qp{y:Int}(h : -10000000000000000<=y)(h2:y<=10000000000000001) : -3652425000000000001<=bN y/\bN y<=3652425000000000400:=yst_bd y h h2
theorem wW:az Tryz.prog cfg Us:=by
 refine aA (aA (aA xn λargs t v he hv=>?_) λargs t v he hv=>?_) λargs t v he hv=>?_
 · unfold Qa at he
   split at he
   · rename_i y
     cases he
     obtain⟨h1,hv⟩:=bU hv
     rw[cr]at h1
     cases hv
     refine cp xn (L:=aW) IC (by simp) ak (ap λQ' hQ=>al ((Ux y).mpr ?_)) (by simp[aq,bG])
     dsimp only
     have e:na (y+1)=na y+gO y:=before_succ y
     have l:0<=gO y/\gO y<=1:=lp_01 y
     have fin:∀b:Bool,b=aa (gO y) 1->Q' (.tuple [.bool b,.int .i64 0]):=λb h=>hQ _ (by rw[h])
     clear hQ
     have hb:Bool.not (ab (na (Int.add y 1)) (na y))=aa (gO y) 1:=by
      rw[Bool.eq_iff_iff,iK,dc,aS,kP,e];omega
     rw[hb]
     simp only[aD,reduceCtorEq,bA,bB,ne_eq]
     (repeat' first|exact trivial|refine⟨?_,?_⟩|intro)<;>first|omega|exact fin _ rfl
   · cases he
 · unfold NL at he
   split at he
   · rename_i y
     cases he
     obtain⟨h1,hv⟩:=bU hv
     rw[cr]at h1
     cases hv
     refine cp xn (L:=aW) Ix (by simp) ak (ap λQ' hQ=>al ((WC y).mpr ?_)) (by simp[aq,bG])
     simp only[aD,reduceCtorEq,bA,bB,ne_eq]
     (repeat' first|exact trivial|refine⟨?_,?_⟩|intro)<;>first|omega|exact hQ _ rfl
   · cases he
 · unfold LO at he
   split at he
   · rename_i y
     cases he
     obtain⟨h1,hv⟩:=bU hv
     rw[cr]at h1
     cases hv
     refine cp xn (L:=aW) G9 (by simp) ak (ap λQ' hQ=>al ((UJ y).mpr ?_)) (by simp[aq,bG])
     dsimp only
     have bd:=@qp (y+1) (by omega) (by omega)
     simp only[aD,reduceCtorEq,bA,bB,ne_eq]
     (repeat' first|exact trivial|refine⟨?_,?_⟩|intro)<;>first|omega|exact hQ _ rfl
   · cases he
theorem Lq{k:Nat}(hk:k<12):List.getD [AV.int .i64 31,.int .i64 28,.int .i64 31,.int .i64 30,.int .i64 31,.int .i64 30,.int .i64 31,.int .i64 31,.int .i64 30,.int .i64 31,.int .i64 30,.int .i64 31] (0+k*1) (AV.tuple [])=.int .i64 (len0.getD k 0):=by
 have:k=0\/k=1\/k=2\/k=3\/k=4\/k=5\/k=6\/k=7\/k=8\/k=9\/k=10\/k=11:=by omega
 rcases this with rfl|rfl|rfl|rfl|rfl|rfl|rfl|rfl|rfl|rfl|rfl|rfl<;>rfl
theorem wV:az Tryz.prog cfg OR:=by
 refine aA wW λargs t v he hv=>?_
 unfold Pq at he
 split at he
 · rename_i y m
   cases he
   obtain⟨⟨h1,h2,-⟩,hv⟩:=aI hv
   rw[cr]at h1
   rw[fI]at h2
   cases hv
   refine cp wW (L:=aW) Ii (by simp) ak (ap λQ' hQ=>al ((Uh y m).mpr ?_)) (by simp[aq,bG])
   dsimp only
   have hk:(Int.sub m 1).toNat<12:=by show(m-1).toNat<12;omega
   rw[Lq hk]
   have l:0<=gO y/\gO y<=1:=lp_01 y
   have i0:∀n:Int,bL (.int .i64 n)=n:=λ_=>rfl
   have ka:∀n:Int,bM .i64 (.int .i64 n)=true:=λn=>rfl
   simp only[i0,ka]
   have fin:∀n:Int,n=d8 y m->Q' (.int .i64 n):=λn h=>hQ _ (by rw[h])
   have e29:m=2->gO y=1->d8 y m=29:=λk1 k2=>by subst k1;unfold d8 mlen;rw[if_pos rfl];unfold gO at k2;omega
   have en:(m≠2\/gO y=0)->d8 y m=len0.getD (m-1).toNat 0:=λh=>mlen_len0 y m h2.1 h2.2 h
   have yb:=cr.2 h1
   clear hQ hk
   simp only[aD,reduceCtorEq,bA,bB,ne_eq]
   (repeat' first|exact trivial|refine⟨?_,?_⟩|intro)<;>first|omega|assumption|(apply fin;rw[e29 (by omega) (by omega)])|(apply fin;rw[en (by omega)])
 · cases he
def KB:fp:=λvs o=>match vs,o with
 | [.int .i64 y,.int .i64 d,.int .i64 k,.int .i64 i],⟨0,[],[]⟩=>some (aN [eD y,ab 0 k,ab k 11,aa i 0,aa d (bN y)] (.ret (.exit 0,[.int .i64 y,.int .i64 (aR y (Int.add k 1)),.int .i64 k,.int .i64 k],b7)))
 | _,_=>none
def Td:dx:=j7 aW 0 (fL 34 [0,7,22,23] KB)
def MV:dM:=λargs=>match args with
 | [.int .i64 y,.int .i64 m]=>some (aN [eD y,mU m] (.ret (.tuple [.int .i64 (aR y m),.int .i64 0])))
 | _=>none
def Om:dM:=λargs=>match args with
 | [.int .i64 y,.int .i64 m]=>some (aN [eD y,mU m] (.ret (.tuple [.int .i64 (aR y (m+1)-1),.int .i64 0])))
 | _=>none
def UT:bq:=bw OR 277 MV
def T_:bq:=bw UT 278 Om
theorem W2(y d k i:Int)(J:Nat->Value){Q:VQ->Prop}:aO Q (rT OR aW [] 277 0 34 [0,7,22,23] [.int .i64 y,.int .i64 d,.int .i64 k,.int .i64 i] J b7) (b_ 111212424024)=((λ(u3 u4:AV)(u0 u2:Bool)(u1:Int)=>(λ(u7:AV)(u6:Int)(u5:Prop)=>(u0=true->u5/\(u2=true->and (ab 1 u1) (ab u1 12)=true/\(ae .i64 u6=true->u5/\Q (AX.normal,([u3,AV.int .i64 u6,u4,u7],{ n:=0,os:=[],le:=[] })))/\(ae .i64 u6=false->u5/\Q (AX.normal,([u3,AV.int .i64 (IntKind.wrap .i64 u6),u4,u7],{ n:=0,os:=[],le:=[] }))))/\(u2=false->False))/\(u0=false->Q (AX.exit 0,([u3,AV.int .i64 d,u4,AV.int .i64 i],{ n:=0,os:=[],le:=[] })))) (AV.int .i64 u1) (Int.add d (d8 y u1)) (ae .i64 u1=true)) (AV.int .i64 y) (AV.int .i64 k) (not (ab k i)) (and (ab (Neg.neg 10000000000000000) y) (ab y 10000000000000000)) (Int.add i 1)):=by kernel_rfl
theorem Xy(y m:Int){Q:AV->Prop}:aO Q (pT OR Td 277 [.int .i64 y,.int .i64 m]) (b_ 12022700332203322)=((λ(u0 u1 u2:Bool)(u3:Int)=>(λ(u4 u5 u6:Prop)=>u4/\u4/\not u0=false/\not u1=false/\u5/\u5/\u2=false/\not (ab m 12)=false/\u6/\ae .i64 u3=true/\u6/\ab 0 u3=true/\ab u3 11=true/\aa (bN y) (bN y)=true/\(∀J1:Nat->Value,Q (AV.tuple [AV.int .i64 (aR y (Int.add u3 1)),AV.int .i64 0]))) (not (not u0)=true) (not u2=true) (and u0 u1=true)) (ab (Neg.neg 10000000000000000) y) (ab y 10000000000000000) (not (ab 1 m)) (Int.sub m 1)):=by kernel_rfl
theorem UY(y m:Int){Q:AV->Prop}:aO Q (pT UT aW 278 [.int .i64 y,.int .i64 m]) (b_ 11411442200220)=((λ(u3:AV)(u2:Int)(u0 u1:Prop)=>(λ(u4 u5:Int)=>u0/\u1/\u0/\u1/\(ae .i64 u2=true->(ae .i64 u4=true->Q (AV.tuple [AV.int .i64 u4,u3]))/\(ae .i64 u4=false->Q (AV.tuple [AV.int .i64 (IntKind.wrap .i64 u4),u3])))/\(ae .i64 u2=false->(ae .i64 u5=true->Q (AV.tuple [AV.int .i64 u5,u3]))/\(ae .i64 u5=false->Q (AV.tuple [AV.int .i64 (IntKind.wrap .i64 u5),u3])))) (Int.sub u2 1) (Int.sub (IntKind.wrap .i64 u2) 1)) (AV.int .i64 0) (Int.add (aR y m) (d8 y m)) (and (ab (Neg.neg 10000000000000000) y) (ab y 10000000000000000)=true) (and (ab 1 m) (ab m 12)=true)):=by kernel_rfl
theorem IN:aH tab 277=some (bC 277,aE 277):=by kernel_rfl
theorem Ji:aH tab 278=some (bC 278,aE 278):=by kernel_rfl
theorem Ee:(bE (aE 277)).map (·.1)=[0]:=by kernel_rfl
theorem mst_1(y:Int):aR y 1=bN y:=by unfold aR mst mcum bN;rw[if_pos (by decide)];omega
theorem zf{y m:Int}(h1:1<=m)(h2:m<=12):aR y (m+1)=aR y m+d8 y m:=by
 unfold aR mst d8;rw[mcum_succ y m h1 h2];omega
theorem jj(y m:Int):28<=d8 y m/\d8 y m<=31:=mlen_bd y m
theorem mst_bd{y m:Int}(hy : -10000000000000000<=y/\y<=10000000000000000)(h1:1<=m)(h2:m<=13) : -3652425000000000001<=aR y m/\aR y m<=3652425000000000800:=by
 have:=qp hy.1 (by omega)
 have:=mcum_bd y m h1 h2
 unfold aR mst
 unfold bN at *
 omega
theorem PA:dG Tryz.prog (dX cfg OR) (Cw cfg []) (lb 277 0) 34 [0,7,22,23] KB:=by
 intro vs o t Q hv hq J
 unfold KB at hv
 split at hv
 · rename_i y d k i
   cases hv
   obtain⟨h1,hq1⟩:=cS hq
   obtain⟨h2,hq2⟩:=cS hq1
   obtain⟨h3,hq3⟩:=cS hq2
   obtain⟨h4,hq4⟩:=cS hq3
   obtain⟨h5,hq5⟩:=cS hq4
   clear hq hq1 hq2 hq3 hq4
   rw[aK]at h2 h3
   rw[aS]at h4 h5
   subst h4 h5
   have hy:=cr.1 h1
   have hq:Q (.exit 0,[.int .i64 y,.int .i64 (aR y (k+1)),.int .i64 k,.int .i64 k],b7):=hq5
   refine j_ wV rfl rfl ak (ι:={i:Nat // (i:Int)<=k}) (λx=>[.int .i64 y,.int .i64 (aR y ((x.1:Int)+1)),.int .i64 k,.int .i64 (x.1:Int)]) (λ_=>b7) (λx=>k.toNat-x.1) 0 (λ_=>Nat.zero_le _) (λx J=>?_) (Nat.le_refl _) (λJ=>Wk.refl ⟨⟨0,h2⟩,J,by rw[<-mst_1];rfl⟩) J
   obtain⟨i,hi⟩:=x
   dsimp only
   refine ap λQ' hQ=>al ((W2 y (aR y ((i:Int)+1)) k i J).mpr ?_)
   dsimp only
   have go:(i:Int)<k->Q' (.normal,[.int .i64 y,.int .i64 (aR y ((i:Int)+1)+d8 y ((i:Int)+1)),.int .i64 k,.int .i64 ((i:Int)+1)],b7):=λh=>
    hQ (.normal,_,_) ⟨⟨i+1,by omega⟩,by dsimp only;omega,VW.of_eq (by rw[<-zf (by omega) (by omega)];rfl) rfl⟩
   have fin:¬(i:Int)<k->Q' (.exit 0,[.int .i64 y,.int .i64 (aR y ((i:Int)+1)),.int .i64 k,.int .i64 (i:Int)],b7):=λh=>by
    have e:(i:Int)=k:=by omega
    exact hQ (.exit 0,_,_) ⟨_,_,VW.of_eq (by rw[e]) rfl,hq⟩
   have b1:=mst_bd (m:=(i:Int)+1) hy (by omega) (by omega)
   have b2:=jj y ((i:Int)+1)
   have om:mU ((i:Int)+1)=(decide ((i:Int)<12)):=by
    rw[Bool.eq_iff_iff,fI,decide_eq_true_eq];omega
   clear hQ hq hq5
   simp only[aD,reduceCtorEq,bA,bB,ne_eq]
   generalize aR y ((i:Int)+1)=ms at *
   generalize d8 y ((i:Int)+1)=ml at *
   (repeat' first|exact trivial|refine⟨?_,?_⟩|intro)<;>first|omega|assumption|exact go (by omega)|exact fin (by omega)
 · cases hv
theorem zC:az Tryz.prog cfg UT:=by
 refine aA wV λargs t v he hv=>?_
 unfold MV at he
 split at he
 · rename_i y m
   cases he
   obtain⟨⟨h1,h2,-⟩,hv⟩:=aI hv
   rw[fI]at h2
   cases hv
   have hy:=cr.1 h1
   refine cp wV (L:=Td) IN (by simp) (eC Ee λi hi e he st Q hw=>?_) (ap λQ' hQ=>al ((Xy y m).mpr ?_)) (by simp[aq,bG])
   · have hi:i=0:=by simp at hi;omega
     subst hi
     cases he
     exact cR (cV.good wV) (by decide) rfl PA hw
   · dsimp only
     have e1:Int.add (Int.sub m 1) 1=m:=by show m-1+1=m;omega
     rw[e1]
     simp only[aD,reduceCtorEq,bA,bB,ne_eq]
     (repeat' first|exact trivial|refine⟨?_,?_⟩|intro)<;>first|omega|assumption|exact hQ _ rfl|rfl
 · cases he
theorem wU:az Tryz.prog cfg T_:=by
 refine aA zC λargs t v he hv=>?_
 unfold Om at he
 split at he
 · rename_i y m
   cases he
   obtain⟨⟨h1,h2,-⟩,hv⟩:=aI hv
   have hm:=fI.1 h2
   cases hv
   have hy:=cr.1 h1
   refine cp zC (L:=aW) Ji (by simp) ak (ap λQ' hQ=>al ((UY y m).mpr ?_)) (by simp[aq,bG])
   dsimp only
   have b1:=mst_bd (m:=m) hy hm.1 (by omega)
   have b2:=jj y m
   have e:=zf (y:=y) hm.1 hm.2
   rw[e]at hQ
   simp only[aD,reduceCtorEq,bA,bB,ne_eq]
   (repeat' first|exact trivial|refine⟨?_,?_⟩|intro)<;>first|omega|assumption|exact hQ _ rfl
 · cases he
def Kd:dM:=λargs=>match args with
 | [.int .i64 y,.int .i64 m]=>some (aN [eD y,mU m] (.ret (.tuple [.int .i64 (d8 y m),.int .i64 0])))
 | _=>none
def VK:bq:=bw T_ 236 Kd
def fR(c:Int):Int:=sFrom c
def mR(c:Int):Int:=sMany c
def w9(c:Int):Bool:=ab 21 c&&ab c 41
def fy(y c:Int):Int:=dH (12*y+(fR c-1)+(mR c-1)) 12
def oJ(y c:Int):Int:=eX (12*y+(fR c-1)+(mR c-1)) 12
def Np:dM:=λargs=>match args with
 | [.int .i64 y,.int .i64 c]=>some (aN [eD y,w9 c] (.test (eD (fy y c)) λb=>bif b then .ret (.tuple [.agg [.int .i8 0,.int .i64 (aR y (fR c)),.int .i8 0,.int .i64 (aR (fy y c) (oJ y c+2)-1)],.int .i64 0])else .ret (.tuple [.agg [.int .i8 0,.int .i64 0,.int .i8 0,.int .i64 0],.int .i64 6])))
 | _=>none
def Mz:dM:=λargs=>match args with
 | [.int .i64 a,.int .i64 b]=>some (aN [ae .i64 (Int.add a b)] (.ret (.tuple [.int .i64 (Int.add a b),.int .i64 0])))
 | _=>none
def Qb:dM:=λargs=>match args with
 | [.int .i64 c]=>some (aN [w9 c] (.ret (.tuple [.int .i64 (fR c),.int .i64 (mR c),.int .i64 0])))
 | _=>none
def W7:bq:=bw (j1 VK 295 Mz) 279 Qb
theorem QZ(y m:Int){Q:AV->Prop}:aO Q (pT T_ aW 236 [.int .i64 y,.int .i64 m]) (b_ 12200332203322)=((λ(u0 u1 u2:Bool)=>(λ(u3 u4:Prop)=>u3/\u3/\not u0=false/\not u1=false/\u4/\u4/\u2=false/\not (ab m 12)=false/\and u0 u1=true/\and (ab 1 m) (ab m 12)=true/\Q (AV.tuple [AV.int .i64 (d8 y m),AV.int .i64 0])) (not (not u0)=true) (not u2=true)) (ab (Neg.neg 10000000000000000) y) (ab y 10000000000000000) (not (ab 1 m))):=by kernel_rfl
theorem Xm(c:Int){Q:AV->Prop}:aO Q (pT VK aW 279 [.int .i64 c]) (b_ 11100044703322)=((λ(u2 u3 u4 u5 u6 u7:AV)(u0:Bool)(u1:Int)=>(λ(u9:List AV)(ua:Nat)(u8:Prop)=>(λ(ub uc:AV)=>u8/\u8/\u0=false/\ab 42 c=false/\ae .i64 u1=true/\ab 0 u1=true/\bm (Int.toNat u1) 21=true/\(bM .i64 ub=true->(bM .i64 uc=true->Q (AV.tuple [AV.int .i64 (bL ub),AV.int .i64 (bL uc),AV.int .i64 0]))/\(bM .i64 uc=false->False))/\(bM .i64 ub=false->False)) (List.getD u9 ua (AV.tuple [])) (List.getD u9 (HAdd.hAdd ua 1) (AV.tuple []))) [u2,u2,u3,u2,u4,u2,u5,u2,u2,u2,u3,u2,u4,u2,u5,u2,u4,u2,u5,u2,u2,u2,u3,u2,u6,u2,u7,u2,AV.int .i64 7,u2,AV.int .i64 10,u2,u6,u7,AV.int .i64 5,u7,u4,u7,u6,u3,AV.int .i64 7,u3] (HAdd.hAdd 0 (HMul.hMul (Int.toNat u1) 2)) (not u0=true)) (AV.int .i64 3) (AV.int .i64 6) (AV.int .i64 9) (AV.int .i64 12) (AV.int .i64 1) (AV.int .i64 4) (not (ab 21 c)) (Int.sub c 21)):=by kernel_rfl
theorem WH(y c:Int){Q:AV->Prop}:aO Q (pT W7 aW 221 [.int .i64 y,.int .i64 c]) (b_ 15231022002010004324002000200270332203370220020)=((λ(u6 u7:AV)(u0 u1 u2 u3:Bool)(u4 u5:Int)=>(λ(ua:Int)(u8 u9 ub:Prop)=>(λ(uc:Int)=>(λ(ue uf:Int)(ud:Prop)=>(λ(ug uh:Bool)=>(λ(ui:Bool)=>(λ(uj uk:Prop)=>and (ab 21 c) (ab c 41)=true/\and u0 u1=true/\and u2 u3=true/\ae .i64 u4=true/\u8/\u8/\not u0=false/\not u1=false/\u9/\u9/\not u2=false/\not u3=false/\ae .i64 (Int.mul 12 y)=true/\ae .i64 u5=true/\ae .i64 ua=true/\ud/\ud/\ud/\(uj->uj/\ui=false/\(not uh=true->ub)/\(not uh=false->ae .i64 uf=true/\and ug uh=true/\and (ab 1 uf) (ab uf 12)=true/\Q (AV.tuple [AV.agg [u6,AV.int .i64 (aR y (fR c)),u6,AV.int .i64 (HSub.hSub (aR ue (HAdd.hAdd uf 1)) 1)],u7])))/\(uk->uk/\ui=true/\ub)) (not ui=true) (not ui=false)) (not ug)) (ab (Neg.neg 10000000000000000) ue) (ab ue 10000000000000000)) (dH uc 12) (Int.add (eX uc 12) 1) (ae .i64 uc=true)) (Int.add ua u4)) (Int.add (Int.mul 12 y) u5) (not (not u0)=true) (not (not u2)=true) (Q (AV.tuple [AV.agg [u6,u7,u6,u7],AV.int .i64 6]))) (AV.int .i8 0) (AV.int .i64 0) (ab (Neg.neg 10000000000000000) y) (ab y 10000000000000000) (ab 1 (fR c)) (ab (fR c) 12) (Int.sub (mR c) 1) (Int.sub (fR c) 1)):=by kernel_rfl
theorem xu:aH tab 236=some (bC 236,aE 236):=by kernel_rfl
theorem Ij:aH tab 221=some (bC 221,aE 221):=by kernel_rfl
theorem Hr:aH tab 279=some (bC 279,aE 279):=by kernel_rfl
theorem k9{c:Int}:w9 c=true↔21<=c/\c<=41:=by unfold w9;rw[Bool.and_eq_true,aK,aK]
theorem kO{c:Int}(h:21<=c/\c<=41):c=21\/c=22\/c=23\/c=24\/c=25\/c=26\/c=27\/c=28\/c=29\/c=30\/c=31\/c=32\/c=33\/c=34\/c=35\/c=36\/c=37\/c=38\/c=39\/c=40\/c=41:=by omega
theorem Ka{c:Int}(h:21<=c/\c<=41):(1<=fR c/\fR c<=12)/\(3<=mR c/\mR c<=6):=by
 rcases kO h with rfl|rfl|rfl|rfl|rfl|rfl|rfl|rfl|rfl|rfl|rfl|rfl|rfl|rfl|rfl|rfl|rfl|rfl|rfl|rfl|rfl<;>decide
theorem Dp:az Tryz.prog cfg VK:=by
 refine aA wU λargs t v he hv=>?_
 unfold Kd at he
 split at he
 · rename_i y m
   cases he
   obtain⟨⟨h1,h2,-⟩,hv⟩:=aI hv
   have hm:=fI.1 h2
   cases hv
   have hy:=cr.1 h1
   refine cp wU (L:=aW) xu (by simp) ak (ap λQ' hQ=>al ((QZ y m).mpr ?_)) (by simp[aq,bG])
   simp only[aD,reduceCtorEq,bA,bB,ne_eq]
   (repeat' first|exact trivial|refine⟨?_,?_⟩|intro)<;>first|omega|assumption|exact hQ _ rfl
 · cases he
theorem HG:gM Tryz.prog cfg 295 Mz:=λargs t v he hv=>by
 unfold Mz at he
 split at he
 · rename_i a b
   cases he
   obtain⟨h1,hv⟩:=bU hv
   cases hv
   refine BK _ _ _ rfl ?_
   simp only[Ir,Tr.run,h1,cond_true]
 · cases he
theorem Fl:az Tryz.prog cfg W7:=by
 refine aA (dr Dp HG) λargs t v he hv=>?_
 · unfold Qb at he
   split at he
   · rename_i c
     cases he
     obtain⟨h1,hv⟩:=bU hv
     rw[k9]at h1
     cases hv
     refine cp Dp (L:=aW) Hr (by simp) ak (ap λQ' hQ=>al ((Xm c).mpr ?_)) (by simp[aq,bG])
     dsimp only
     rcases kO h1 with rfl|rfl|rfl|rfl|rfl|rfl|rfl|rfl|rfl|rfl|rfl|rfl|rfl|rfl|rfl|rfl|rfl|rfl|rfl|rfl|rfl<;>(repeat' first|exact trivial|refine⟨?_,?_⟩|intro)<;>first|rfl|exact hQ _ rfl|(rename_i h;exact absurd h (by decide))
   · cases he
theorem KH{S:bq}(hS:az Tryz.prog cfg S):az Tryz.prog cfg (bw S 221 Np):=by
 refine aA hS λargs t v he hv=>?_
 unfold Np at he
 split at he
 · rename_i y c
   cases he
   obtain⟨⟨h1,h2,-⟩,hv⟩:=aI hv
   rw[cr]at h1
   rw[k9]at h2
   obtain⟨hf,hm⟩:=Ka h2
   have hv':Tr.run (bif eD (fy y c)then .ret (.tuple [.agg [.int .i8 0,.int .i64 (aR y (fR c)),.int .i8 0,.int .i64 (aR (fy y c) (oJ y c+2)-1)],.int .i64 0])else .ret (.tuple [.agg [.int .i8 0,.int .i64 0,.int .i8 0,.int .i64 0],.int .i64 6]))=some v:=hv
   have ids:aq v=[]:=by
    cases hb:eD (fy y c)<;>rw[hb]at hv'<;>cases hv'<;>simp[aq,bG]
   refine cp Fl (L:=aW) Ij (by simp) ak (ap λQ' hQ=>al ((WH y c).mpr ?_)) ids
   dsimp only
   have yes:eD (fy y c)=true->Q' (.tuple [.agg [.int .i8 0,.int .i64 (aR y (fR c)),.int .i8 0,.int .i64 (aR (fy y c) (oJ y c+1+1)-1)],.int .i64 0]):=λh=>by
    rw[h]at hv';cases hv';exact hQ _ (by rw[show oJ y c+1+1=oJ y c+2 by omega])
   have no:eD (fy y c)=false->Q' (.tuple [.agg [.int .i8 0,.int .i64 0,.int .i8 0,.int .i64 0],.int .i64 6]):=λh=>by
    rw[h]at hv';cases hv';exact hQ _ rfl
   have e1:dH (12*y+(fR c-1)+(mR c-1)) 12=fy y c:=rfl
   have e2:eX (12*y+(fR c-1)+(mR c-1)) 12=oJ y c:=rfl
   have sm:0<=oJ y c/\oJ y c<=11:=by unfold oJ eX;omega
   clear hQ hv hv' ids
   simp only[aD,reduceCtorEq,bA,bB,ne_eq,e1,e2]
   have yi:=@cr (fy y c)
   have yn:eD (fy y c)=false↔¬(-10000000000000000<=fy y c/\fy y c<=10000000000000000):=by rw[<-yi,Bool.not_eq_true]
   generalize fy y c=sy at *
   generalize oJ y c=sm' at *
   (repeat' first|exact trivial|refine⟨?_,?_⟩|intro)<;>first|omega|exact yes (yi.2 (by omega))|exact no (yn.2 (by omega))
 · cases he
end Go.Ev
