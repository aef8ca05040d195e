import Derived.Test.YtafekjglclnegaaGreatDoorP29
import Derived.Test.YtafekjglclnegaaGreatDoorP28
set_option linter.all false
section
set_option maxRecDepth 100000
set_option maxHeartbeats 4000000
namespace Go.Ev
open Go Go.Proofs
def R6:bq:=bw (bw (bw (bw (bw (bw R5 214 LM) 217 MA) 273 NL) 274 LO) 277 MV) 278 Om
def kA(i:Int):Int:=i%12
def Q6:dM:=λargs=>match args with
 | [.int .i64 i]=>some (aN [ae .i64 i,eD (dH i 12)] (.ret (.tuple [.int .i64 (aR (dH i 12) (kA i+1)),.int .i64 (aR (dH i 12) (kA i+2)-1),.int .i64 0])))
 | _=>none
def R7:bq:=bw R6 218 Q6
def tC(d p:Int):Bool:=aa p 3 || du d
def Ow(d p:Int):Int:=bif aa p 3 then d else bif aa p 1 then bN (bO d)else aR (bO d) (eo d)
def Ot(d p:Int):Int:=bif aa p 3 then d else bif aa p 1 then bN (bO d)+364+gO (bO d)else aR (bO d) (eo d)+d8 (bO d) (eo d)-1
def ky(d p:Int):Tr AV:=.test (ab 1 p&&ab p 3) λb=>bif b then(.test (tC d p) λc=>bif c then .ret (.tuple [e8 0 (Ow d p) 0 (Ot d p),.int .i64 0])else .ret (.tuple [e8 0 0 0 0,.int .i64 6]))else .ret (.tuple [e8 0 0 0 0,.int .i64 18])
def Nb:dM:=λargs=>match args with
 | [.int .i64 d,.int .u8 p]=>some (aN [ae .i64 d] (ky d p))
 | _=>none
theorem VR(i:Int){Q:AV->Prop}:aO Q (pT R6 aW 218 [.int .i64 i]) (b_ 111002202440211100220244074020)=((λ(u0 u1:Int)=>(λ(u2:Bool)(u3 u4 u5:Int)(u6:Prop)=>(λ(u7:Int)(u8 u9 ua:Prop)=>(λ(ub uc:Prop)=>ae .i64 u0=true/\(u2=true->ae .i64 u3=true/\ae .i64 u4=true/\ub/\(u8->(uc->ub/\u8/\uc/\Q (AV.tuple [AV.int .i64 (aR u3 u7),AV.int .i64 (HSub.hSub (aR u3 (HAdd.hAdd u7 1)) 1),AV.int .i64 0]))/\(mU u7=false->False))/\(eD u3=false->False))/\(u2=false->u9/\(u6->(ua->u9/\u6/\ua/\Q (AV.tuple [AV.int .i64 (aR u0 u5),AV.int .i64 (HSub.hSub (aR u0 (HAdd.hAdd u5 1)) 1),AV.int .i64 0]))/\(mU u5=false->False))/\(eD u0=false->False))) (ae .i64 u7=true) (mU u7=true)) (Int.add u4 1) (eD u3=true) (ae .i64 u5=true) (mU u5=true)) (not (ab 0 u1)) (Int.sub u0 1) (Int.add u1 12) (Int.add u1 1) (eD u0=true)) (Int.tdiv i 12) (Int.tmod i 12)):=by kernel_rfl
theorem Q7(d:Int){Q:AV->Prop}:aO Q (pT R7 aW 116 [.int .i64 d,.int .u8 1]) (b_ 1105204000220006)=((λ(u0:Prop)=>ae .i64 d=true/\du d=true/\(u0->u0/\Q (AV.tuple [AV.agg [AV.int .i8 0,AV.int .i64 (bN (bO d)),AV.int .i8 0,AV.int .i64 (HSub.hSub (bN (HAdd.hAdd (bO d) 1)) 1)],AV.int .i64 0]))/\(eD (bO d)=false->False)) (eD (bO d)=true)):=by kernel_rfl
theorem SG(d:Int){Q:AV->Prop}:aO Q (pT R7 aW 116 [.int .i64 d,.int .u8 2]) (b_ 11000420002270006)=((λ(u0:Int)=>(λ(u1:Int)=>(λ(u2:Int)=>(λ(u4:Int)(u3:Prop)=>ae .i64 d=true/\du d=true/\ae .i64 u0=true/\ae .i64 u1=true/\u3/\u3/\(eD u4=true->Q (AV.tuple [AV.agg [AV.int .i8 0,AV.int .i64 (aR u4 (HAdd.hAdd (kA u2) 1)),AV.int .i8 0,AV.int .i64 (HSub.hSub (aR u4 (HAdd.hAdd (kA u2) 2)) 1)],AV.int .i64 0]))/\(eD u4=false->False)) (dH u2 12) (ae .i64 u2=true)) (Int.sub u1 1)) (Int.add u0 (eo d))) (Int.mul 12 (bO d))):=by kernel_rfl
theorem QW(d:Int){Q:AV->Prop}:aO Q (pT R7 aW 116 [.int .i64 d,.int .u8 3]) (b_ 100056)=(Q (AV.tuple [AV.agg [AV.int .i8 0,AV.int .i64 d,AV.int .i8 0,AV.int .i64 d],AV.int .i64 0])):=by kernel_rfl
theorem Py(d:Int){Q:AV->Prop}:aO Q (pT R7 aW 116 [.int .i64 d,.int .u8 1]) (b_ 100320006)=(ae .i64 d=true/\du d=false/\Q (AV.tuple [AV.agg [AV.int .i8 0,AV.int .i64 0,AV.int .i8 0,AV.int .i64 0],AV.int .i64 6])):=by kernel_rfl
theorem Qm(d:Int){Q:AV->Prop}:aO Q (pT R7 aW 116 [.int .i64 d,.int .u8 2]) (b_ 105320006)=(ae .i64 d=true/\du d=false/\Q (AV.tuple [AV.agg [AV.int .i8 0,AV.int .i64 0,AV.int .i8 0,AV.int .i64 0],AV.int .i64 6])):=by kernel_rfl
theorem Tv(d p:Int){Q:AV->Prop}:aO Q (pT R7 aW 116 [.int .i64 d,.int .u8 p]) (b_ 100331074)=((λ(u0 u1 u2:Prop)=>(u0->u0/\u0/\not (ab p 3)=true/\u1)/\(u2->u2/\u2/\u1)) (ab 1 p=true) (Q (AV.tuple [AV.agg [AV.int .i8 0,AV.int .i64 0,AV.int .i8 0,AV.int .i64 0],AV.int .i64 18])) (ab 1 p=false)):=by kernel_rfl
theorem Hs:aH tab 218=some (bC 218,aE 218):=by kernel_rfl
theorem md:aH tab 116=some (bC 116,aE 116):=by kernel_rfl
theorem J0:az Tryz.prog cfg R6:=bK (bK (bK (bK (Mq (bK Pi (qB 214 _ rfl))) (wW 273 _ rfl)) (wW 274 _ rfl)) (zC 277 _ rfl)) (wU 278 _ rfl)
theorem MY{i:Int}:(i.tmod 12<0->i.tmod 12+12=kA i)/\(0<=i.tmod 12->i.tmod 12=kA i):=by
 obtain⟨k1,k2⟩:=@yP i 12 (by decide)
 have h1:=Int.mul_tdiv_add_tmod i 12
 unfold kA
 unfold dH at k1 k2
 refine⟨λh=>?_,λh=>?_⟩
 · have:=k1 h;omega
 · have:=k2 h;omega
theorem vb:az Tryz.prog cfg R7:=by
 refine aA J0 λargs t v he hv=>?_
 unfold Q6 at he
 split at he
 · rename_i i
   cases he
   obtain⟨⟨h1,h2,-⟩,hv⟩:=aI hv
   rw[aQ]at h1
   simp only[bA,bB]at h1
   cases hv
   refine cp J0 (L:=aW) Hs (by simp) ak (ap λQ' hQ=>al ((VR i).mpr ?_)) (by simp[aq,bG])
   dsimp only
   obtain⟨k1,k2⟩:=@yP i 12 (by decide)
   obtain⟨m1,m2⟩:=@MY i
   have tb:=Go.Proofs.YtafekjglclnegaaGreatDoor.tdiv_bd i 12 (by decide) h1.1 h1.2
   have mb:0<=kA i/\kA i<=11:=by unfold kA;omega
   have e2:kA i+1+1=kA i+2:=by omega
   have om:mU (kA i+1)=true:=fI.2 (by omega)
   by_cases hn:i.tmod 12<0
   · have k1:=k1 hn
     have m1:=m1 hn
     clear k2 m2
     simp only[show Int.sub (i.tdiv 12) 1=i.tdiv 12-1 from rfl,show Int.add (i.tmod 12) 12=i.tmod 12+12 from rfl,k1,m1,show Int.add (kA i) 1=kA i+1 from rfl,e2]
     simp only[aD,reduceCtorEq,bA,bB,ne_eq]
     (repeat' first|exact trivial|refine⟨?_,?_⟩|intro)<;>first|contradiction|omega|assumption|exact hQ _ rfl|(exfalso;simp_all;done)
   · have k2:=k2 (by omega)
     have m2:=m2 (by omega)
     clear k1 m1
     rw[k2]at tb
     simp only[k2,m2,show Int.add (kA i) 1=kA i+1 from rfl,e2]
     simp only[aD,reduceCtorEq,bA,bB,ne_eq]
     (repeat' first|exact trivial|refine⟨?_,?_⟩|intro)<;>first|contradiction|omega|assumption|exact hQ _ rfl|(exfalso;simp_all;done)
 · cases he
theorem J7{d p:Int}(h:¬(1<=p/\p<=3)):(ky d p).run=some (.tuple [e8 0 0 0 0,.int .i64 18]):=by
 have e:(ab 1 p&&ab p 3)=false:=by rw[<-Bool.not_eq_true,Bool.and_eq_true,aK,aK];exact h
 simp only[ky,Tr.run,e,cond_false]
theorem Tm{d:Int}:(ky d 3).run=some (.tuple [e8 0 d 0 d,.int .i64 0]):=rfl
theorem OK{d p:Int}(h:du d=true):tC d p=true:=by unfold tC;rw[h,Bool.or_true]
theorem RP{d:Int}(h:du d=true):(ky d 1).run=some (.tuple [e8 0 (bN (bO d)) 0 (bN (bO d)+364+gO (bO d)),.int .i64 0]):=by
 have e0:(ab 1 1&&ab 1 3)=true:=rfl
 simp only[ky,Tr.run,e0,OK h,cond_true]
 rfl
theorem Pe{d:Int}(h:du d=true):(ky d 2).run=some (.tuple [e8 0 (aR (bO d) (eo d)) 0 (aR (bO d) (eo d)+d8 (bO d) (eo d)-1),.int .i64 0]):=by
 have e0:(ab 1 2&&ab 2 3)=true:=rfl
 simp only[ky,Tr.run,e0,OK h,cond_true]
 rfl
theorem Jn{d p:Int}(h:du d=false)(hp:p=1\/p=2):(ky d p).run=some (.tuple [e8 0 0 0 0,.int .i64 6]):=by
 have e0:(ab 1 p&&ab p 3)=true:=by rw[Bool.and_eq_true,aK,aK];omega
 have e1:tC d p=false:=by unfold tC;rw[h,Bool.or_false,aF];omega
 simp only[ky,Tr.run,e0,e1,cond_true,cond_false]
theorem IG{d p:Int}{v:AV}(h:(ky d p).run=some v):aq v=[]:=by
 have hc:du d=true\/du d=false:=by cases du d<;>simp
 have hp:¬(1<=p/\p<=3)\/p=1\/p=2\/p=3:=by omega
 have key:∀u,(ky d p).run=some u->aq u=[]->aq v=[]:=λu hu hi=>by
  rw[hu]at h;cases h;exact hi
 rcases hp with hp|rfl|rfl|rfl
 · exact key _ (J7 hp) (by simp[aq,bG])
 · rcases hc with hc|hc
   · exact key _ (RP hc) (by simp[aq,bG])
   · exact key _ (Jn hc (.inl rfl)) (by simp[aq,bG])
 · rcases hc with hc|hc
   · exact key _ (Pe hc) (by simp[aq,bG])
   · exact key _ (Jn hc (.inr rfl)) (by simp[aq,bG])
 · exact key _ Tm (by simp[aq,bG])
theorem GK{d:Int}(h:du d=true):(-10000000000000000<=bO d/\bO d<=10000000000000000)/\(1<=eo d/\eo d<=12)/\(-3652425000000000001<=bN (bO d)/\bN (bO d)<=3652425000000000400)/\(-3652425000000000001<=aR (bO d) (eo d)/\aR (bO d) (eo d)<=3652425000000000800)/\(28<=d8 (bO d) (eo d)/\d8 (bO d) (eo d)<=31)/\(0<=gO (bO d)/\gO (bO d)<=1):=by
 have hy : -10000000000000000<=bO d/\bO d<=10000000000000000:=lz.2 h
 have hm:1<=eo d/\eo d<=12:=⟨(Go.Proofs.YtafekjglclnegaaGreatDoor.mOf_spec d).1,(Go.Proofs.YtafekjglclnegaaGreatDoor.mOf_spec d).2.1⟩
 exact⟨hy,hm,Go.Proofs.YtafekjglclnegaaGreatDoor.yst_bd _ hy.1 (by omega),Go.Proofs.YtafekjglclnegaaGreatDoor.mst_bd _ _ hy hm.1 (by omega),Go.Proofs.YtafekjglclnegaaGreatDoor.mlen_bd _ _,Go.Proofs.YtafekjglclnegaaGreatDoor.lp_01 _⟩
theorem SI{d p:Int}{v:AV}(hd : -9223372036854775808<=d/\d<=9223372036854775807)(hv:(ky d p).run=some v):bR Tryz.prog cfg 116 [.int .i64 d,.int .u8 p] [] v []:=by
 have ids:=IG hv
 have hp:¬(1<=p/\p<=3)\/p=1\/p=2\/p=3:=by omega
 rcases hp with hp|rfl|rfl|rfl
 · refine cp vb (L:=aW) md (by simp) ak (ap λQ' hQ=>al ((Tv d p).mpr ?_)) ids
   dsimp only
   have fin:∀u,(ky d p).run=some u->Q' u:=λu hu=>hQ _ (Option.some.inj (hu.symm.trans hv))
   simp only[aD,reduceCtorEq,bA,bB,ne_eq]
   (repeat' first|exact trivial|refine⟨?_,?_⟩|intro)<;>first|contradiction|omega|assumption|exact fin _ (J7 hp)
 · cases hc:du d with
   | true=>
     obtain⟨hY,hM,c1,c2,c3,c4⟩:=GK hc
     refine cp vb (L:=aW) md (by simp) ak (ap λQ' hQ=>al ((Q7 d).mpr ?_)) ids
     dsimp only
     have fin:∀u,(ky d 1).run=some u->Q' u:=λu hu=>hQ _ (Option.some.inj (hu.symm.trans hv))
     have hyb:=cr.2 hY
     have e:bN (bO d+1)-1=bN (bO d)+364+gO (bO d):=by
      have:bN (bO d+1)=bN (bO d)+365+gO (bO d):=Go.Proofs.YtafekjglclnegaaGreatDoor.yst_succ _
      omega
     rw[e]
     simp only[aD,reduceCtorEq,bA,bB,ne_eq]
     (repeat' first|exact trivial|refine⟨?_,?_⟩|intro)<;>first|contradiction|omega|assumption|exact fin _ (RP hc)|(exfalso;simp_all;done)
   | false=>
     refine cp vb (L:=aW) md (by simp) ak (ap λQ' hQ=>al ((Py d).mpr ?_)) ids
     have fin:∀u,(ky d 1).run=some u->Q' u:=λu hu=>hQ _ (Option.some.inj (hu.symm.trans hv))
     simp only[aD,reduceCtorEq,bA,bB,ne_eq]
     (repeat' first|exact trivial|refine⟨?_,?_⟩|intro)<;>first|contradiction|omega|assumption|exact fin _ (Jn hc (.inl rfl))
 · cases hc:du d with
   | true=>
     obtain⟨hY,hM,c1,c2,c3,c4⟩:=GK hc
     refine cp vb (L:=aW) md (by simp) ak (ap λQ' hQ=>al ((SG d).mpr ?_)) ids
     dsimp only
     have fin:∀u,(ky d 2).run=some u->Q' u:=λu hu=>hQ _ (Option.some.inj (hu.symm.trans hv))
     have hyb:=cr.2 hY
     have e1:dH (Int.sub (Int.add (Int.mul 12 (bO d)) (eo d)) 1) 12=bO d:=by
      show(12*bO d+eo d-1)/12=bO d
      omega
     have e2:kA (Int.sub (Int.add (Int.mul 12 (bO d)) (eo d)) 1)=eo d-1:=by
      show(12*bO d+eo d-1)%12=eo d-1
      omega
     have e3:aR (bO d) (eo d+1)-1=aR (bO d) (eo d)+d8 (bO d) (eo d)-1:=by
      have:aR (bO d) (eo d+1)=aR (bO d) (eo d)+d8 (bO d) (eo d):=Go.Proofs.YtafekjglclnegaaGreatDoor.mst_succ _ _ hM.1 hM.2
      omega
     rw[e1,e2,show eo d-1+1=eo d by omega,show eo d-1+2=eo d+1 by omega,e3]
     simp only[aD,reduceCtorEq,bA,bB,ne_eq]
     (repeat' first|exact trivial|refine⟨?_,?_⟩|intro)<;>first|contradiction|omega|assumption|exact fin _ (Pe hc)|(exfalso;simp_all;done)
   | false=>
     refine cp vb (L:=aW) md (by simp) ak (ap λQ' hQ=>al ((Qm d).mpr ?_)) ids
     have fin:∀u,(ky d 2).run=some u->Q' u:=λu hu=>hQ _ (Option.some.inj (hu.symm.trans hv))
     simp only[aD,reduceCtorEq,bA,bB,ne_eq]
     (repeat' first|exact trivial|refine⟨?_,?_⟩|intro)<;>first|contradiction|omega|assumption|exact fin _ (Jn hc (.inr rfl))
 · refine cp vb (L:=aW) md (by simp) ak (ap λQ' hQ=>al ((QW d).mpr ?_)) ids
   exact hQ _ (Option.some.inj (Tm.symm.trans hv))
theorem KC{S:bq}(hS:az Tryz.prog cfg S):az Tryz.prog cfg (bw S 116 Nb):=aA hS λargs t v he hv=>by
 unfold Nb at he
 split at he
 · cases he
   obtain⟨h1,hv⟩:=bU hv
   rw[aQ]at h1
   simp only[bA,bB]at h1
   exact SI h1 hv
 · cases he
abbrev Fx(ng lg:Bool)(s:List UInt8)(e g:Int)(mo da:List UInt8)(a b c:Int):aw:=.cells [.bool ng,.bool lg,.str s,.int .i64 e,.int .i64 g,.str mo,.str da,.int .u8 a,.int .u8 b,.int .u8 c] true none
theorem dw{cs:List AV}{rw:Bool}{g:Option Nat}{b:Nat}(h:bG cs=[]):eG b (.cells cs rw g):=⟨rfl,λi hi=>by
 exfalso
 have hi:i∈bG cs:=hi
 rw[h]at hi
 cases hi⟩
end Go.Ev
end
section
set_option maxRecDepth 100000
set_option maxHeartbeats 1000000
namespace Go.Ev
open Go Go.Proofs
def bc(s:List UInt8):Bool:=!(Nat.beq (bz s 88 88) 0)
def Pu:dM:=λargs=>match args with
 | [.str s,.str t]=>some (aN [af t [88],Nat.ble s.length 1000000] (.ret (.bool (bc s))))
 | _=>none
def Xt:dM:=λargs=>match args with
 | [.agg [.bool ng,.bool lg,.str s,.int .i64 e,.int .i64 g,.str mo,.str da,.int .u8 a,.int .u8 b,.int .u8 c]]=>some (aN [Nat.ble s.length 1000,Nat.ble mo.length 1000,Nat.ble da.length 1000] (.ret (.bool (bc (s++mo++da)))))
 | _=>none
def VU:dM:=λargs=>match args with
 | [.agg [.bool ng,.bool lg,.str s,.int .i64 e,.int .i64 g,.str mo,.str da,.int .u8 a,.int .u8 b,.int .u8 c]]=>some (aN [Nat.ble s.length 1000,Nat.ble mo.length 1000,Nat.ble da.length 1000] (.ret (.int .i64 (bI (bc (s++mo++da))))))
 | _=>none
def LX:fp:=λvs o=>match vs,o with
 | [.ptr 14 0,.int .i64 z,.str t,.int .i64 i],⟨1,[.cells [.bool ng,.bool lg,.str s,.int .i64 e,.int .i64 g,.str mo,.str da,.int .u8 a,.int .u8 b,.int .u8 c] true none],[]⟩=>
   some (aN [aa z 0,aa i 0,Nat.ble t.length 1000000] (.test (bc t) λx=>bif x then .all λJ=>.ret (.ret,[.ptr 14 0,.int .i64 1,.str t,.any (J 0)],o)else .ret (.exit 0,[.ptr 14 0,.int .i64 0,.str t,.int .i64 (Int.ofNat t.length)],o)))
 | _,_=>none
def Rl:dx:=j7 aW 0 (fL 28 [1,2,3,4] LX)
def RF:dM:=λargs=>match args with
 | [.agg [.bool ng,.bool lg,.str s,.int .i64 e,.int .i64 g,.str mo,.str da,.int .u8 a,.int .u8 b,.int .u8 c]]=>some (aN [aa g 0,Nat.ble s.length 1000,Nat.ble mo.length 1000,Nat.ble da.length 1000] (.ret (.int .i64 (bI (bc (s++mo++da))))))
 | _=>none
def X1:bq:=bw dF 100 Pu
def X2:bq:=bw dF 119 RF
theorem Yl(ng lg:Bool)(s:List UInt8)(e g:Int)(mo da:List UInt8)(a b c:Int){Q:AV->Prop}:aO Q (pT X1 aW 60 [.agg [.bool ng,.bool lg,.str s,.int .i64 e,.int .i64 g,.str mo,.str da,.int .u8 a,.int .u8 b,.int .u8 c]]) (b_ 11140040200)=((λ(u0 u1:Bool)=>Nat.ble (HAdd.hAdd (List.length s) (List.length mo)) 1000000=true/\(u0=true->(u1=true->Q (AV.bool (bc (HAppend.hAppend (HAppend.hAppend s mo) da))))/\(u1=false->False))/\(u0=false->False)) (Nat.ble (HAdd.hAdd (List.length (HAppend.hAppend s mo)) (List.length da)) 1000000) (Nat.ble (List.length (HAppend.hAppend (HAppend.hAppend s mo) da)) 1000000)):=by kernel_rfl
theorem Ud(ng lg:Bool)(s t:List UInt8)(e g:Int)(mo da:List UInt8)(a b c:Int)(i:Nat)(J:Nat->Value){Q:VQ->Prop}:aO Q (rT dF aW [] 119 0 28 [1,2,3,4] [.ptr 14 0,.int .i64 0,.str t,.int .i64 (Int.ofNat i)] J ⟨1,[Fx ng lg s e g mo da a b c],[]⟩) (b_ 11214204)=((λ(u2 u3:AV)(u1:Bool)(u0:Int)=>(λ(u5:AV)(u4:Bool)=>(u4=true->bm i (List.length t)=true/\(u1=true->Q (AX.ret,([u2,AV.int .i64 1,u3,u5],{ n:=1,os:=[aw.cells [AV.bool ng,AV.bool lg,AV.str s,AV.int .i64 e,AV.int .i64 g,AV.str mo,AV.str da,AV.int .u8 a,AV.int .u8 b,AV.int .u8 c] true Option.none],le:=[] })))/\(u1=false->ae .i64 (Int.add u0 1)=true/\Q (AX.normal,([u2,AV.int .i64 0,u3,AV.int .i64 (Int.add u0 1)],{ n:=1,os:=[aw.cells [AV.bool ng,AV.bool lg,AV.str s,AV.int .i64 e,AV.int .i64 g,AV.str mo,AV.str da,AV.int .u8 a,AV.int .u8 b,AV.int .u8 c] true Option.none],le:=[] }))))/\(u4=false->Q (AX.exit 0,([u2,AV.int .i64 0,u3,u5],{ n:=1,os:=[aw.cells [AV.bool ng,AV.bool lg,AV.str s,AV.int .i64 e,AV.int .i64 g,AV.str mo,AV.str da,AV.int .u8 a,AV.int .u8 b,AV.int .u8 c] true Option.none],le:=[] })))) (AV.int .i64 u0) (not (ab (Int.ofNat (List.length t)) u0))) (AV.ptr 14 0) (AV.str t) (aa (Int.ofNat (UInt8.toNat (List.getD t i (UInt8.ofNat 0)))) 88) (Int.ofNat i)):=by kernel_rfl
theorem VV(ng lg:Bool)(s:List UInt8)(e:Int)(mo da:List UInt8)(a b c:Int){Q:AV->Prop}:aO Q (pT dF Rl 119 [.agg [.bool ng,.bool lg,.str s,.int .i64 e,.int .i64 0,.str mo,.str da,.int .u8 a,.int .u8 b,.int .u8 c]]) (b_ 111001440040200)=((λ(u0 u1 u2:Bool)=>Nat.ble (HAdd.hAdd (List.length s) (List.length mo)) 1000000=true/\(u0=true->(u1=true->(u2=true->(∀J1:Nat->Value,∀J2:Nat->Value,Q (AV.int .i64 1)))/\(u2=false->(∀J1:Nat->Value,Q (AV.int .i64 0))))/\(u1=false->False))/\(u0=false->False)) (Nat.ble (HAdd.hAdd (List.length (HAppend.hAppend s mo)) (List.length da)) 1000000) (Nat.ble (List.length (HAppend.hAppend (HAppend.hAppend s mo) da)) 1000000) (bc (HAppend.hAppend (HAppend.hAppend s mo) da))):=by kernel_rfl
theorem YF(ng lg:Bool)(s:List UInt8)(e g:Int)(mo da:List UInt8)(a b c:Int){Q:AV->Prop}:aO Q (pT X2 aW 63 [.agg [.bool ng,.bool lg,.str s,.int .i64 e,.int .i64 g,.str mo,.str da,.int .u8 a,.int .u8 b,.int .u8 c]]) (b_ 1756)=(Nat.ble (List.length s) 1000=true/\Nat.ble (List.length mo) 1000=true/\Nat.ble (List.length da) 1000=true/\Q (AV.int .i64 (cond (bc (HAppend.hAppend (HAppend.hAppend s mo) da)) 1 0))):=by kernel_rfl
theorem Jl:aH tab 100=some (bC 100,aE 100):=by kernel_rfl
theorem ND:aH tab 60=some (bC 60,aE 60):=by kernel_rfl
theorem Ih:aH tab 119=some (bC 119,aE 119):=by kernel_rfl
theorem L0:aH tab 63=some (bC 63,aE 63):=by kernel_rfl
theorem ER:(bE (aE 119)).map (·.1)=[0]:=by kernel_rfl
theorem SP{s t:List UInt8}(ht:af t [88]=true):bR Tryz.prog cfg 100 [.str s,.str t] [] (.bool (bc s)) []:=by
 rw[cF,beq_iff_eq]at ht
 subst ht
 refine db Jl (by simp[aq]) λm w hG=>?_
 have:=Go.Proofs.YtafekjglclnegaaGreatDoor.Contains_X ⟨⟨s⟩⟩ w
 have e:Go.Proofs.YtafekjglclnegaaGreatDoor.hasX s=bc s:=by
  unfold bc
  rw[Bool.eq_iff_iff,xP,Bool.not_eq_true',jn]
 have h2:Calls Tryz.prog 100 (ar m [.str s,.str [88]]).toArray w λe w'=>e=.returned (.bool (Go.Proofs.YtafekjglclnegaaGreatDoor.hasX s))/\w=w':=by simpa [ar,aj]using this
 rw[e]at h2
 refine h2.mono ?_
 rintro e w' ⟨he,rfl⟩
 exact⟨by simpa [aj]using he,Go.RowKit.Below.refl _ _⟩
theorem QR:az Tryz.prog cfg X1:=aA aT λargs t v he hv=>by
 unfold Pu at he
 split at he
 · cases he
   obtain⟨⟨h1,h2,-⟩,hv⟩:=aI hv
   cases hv
   exact SP h1
 · cases he
theorem Yc{ng lg:Bool}{s:List UInt8}{e g:Int}{mo da:List UInt8}{a b c:Int}(hs:s.length<=1000)(hm:mo.length<=1000)(hd:da.length<=1000) :
 bR Tryz.prog cfg 60 [.agg [.bool ng,.bool lg,.str s,.int .i64 e,.int .i64 g,.str mo,.str da,.int .u8 a,.int .u8 b,.int .u8 c]] [] (.bool (bc (s++mo++da))) []:=by
 refine cp QR (L:=aW) ND (by simp) ak (ap λQ' hQ=>al ((Yl ng lg s e g mo da a b c).mpr ?_)) (by simp[aq])
 dsimp only
 have hQ:=hQ _ rfl
 have l1:(s++mo).length=s.length+mo.length:=List.length_append
 have l2:(s++mo++da).length=s.length+mo.length+da.length:=by rw[List.length_append,l1]
 simp only[aD,reduceCtorEq,bA,bB,ne_eq]
 (repeat' first|exact trivial|refine⟨?_,?_⟩|intro)<;>first|contradiction|omega|assumption|(simp only[l1,l2];omega)|(exfalso;simp_all;omega)
theorem C4{t:List UInt8}{i:Nat}(h:∀k,k<i->(t.getD k 0).toNat≠88)(hi:t.length<=i):bc t=false:=by
 unfold bc
 rw[Bool.not_eq_false',bW]
 unfold bz
 rw[List.length_eq_zero_iff,List.filter_eq_nil_iff]
 intro x hx
 obtain⟨k,hk,rfl⟩:=List.getElem_of_mem hx
 have:=h k (by omega)
 rw[List.getD_eq_getElem?_getD,List.getElem?_eq_getElem hk]at this
 simp only[Option.getD_some]at this
 simp
 omega
theorem Jt{t:List UInt8}{i:Nat}(hi:i<t.length)(h:(t.getD i 0).toNat=88):bc t=true:=by
 unfold bc
 rw[Bool.not_eq_true',jn]
 intro hn
 unfold bz at hn
 rw[List.length_eq_zero_iff,List.filter_eq_nil_iff]at hn
 have:=hn _ (List.getElem_mem hi)
 rw[List.getD_eq_getElem?_getD,List.getElem?_eq_getElem hi]at h
 simp only[Option.getD_some]at h
 apply this
 simp[h]
theorem Pg:dG Tryz.prog (dX cfg dF) (Cw cfg []) (lb 119 0) 28 [1,2,3,4] LX:=by
 intro vs o t Q hv hq J
 unfold LX at hv
 split at hv
 · rename_i z t i ng lg s e g mo da a b c
   cases hv
   replace hq:=eM hq;obtain⟨⟨k1,k2,k3,-⟩,hq⟩:=hq
   rw[aS]at k1 k2
   rw[aB]at k3
   subst k1 k2
   simp only[aN,Tr.wp]at hq
   refine j_ aT rfl rfl ak (ι:={i:Nat // i<=t.length/\∀k,k<i->(t.getD k 0).toNat≠88}) (λx=>[.ptr 14 0,.int .i64 0,.str t,.int .i64 (Int.ofNat x.1)]) (λ_=>⟨1,[Fx ng lg s e g mo da a b c],[]⟩) (λx=>t.length-x.1) 1 (λ_=>Nat.le_refl _) (λx J=>?_) (Nat.le_refl _) (λJ=>Wk.refl ⟨⟨0,Nat.zero_le _,λk hk=>absurd hk (Nat.not_lt_zero k)⟩,J,rfl⟩) J
   obtain⟨i,hi,hz⟩:=x
   dsimp only
   refine ap λQ' hQ=>al ((Ud ng lg s t e g mo da a b c i J).mpr ?_)
   dsimp only
   have ret:i<t.length->(t.getD i 0).toNat=88->Q' (.ret,[.ptr 14 0,.int .i64 1,.str t,.int .i64 (Int.ofNat i)],⟨1,[Fx ng lg s e g mo da a b c],[]⟩):=λh1 h2=>hQ _ ⟨_,_,VW.any (.same (.same (.same (.int .nil)))) rfl,by
    rw[Jt h1 h2]at hq
    exact hq (jv [_])⟩
   have fin:i=t.length->Q' (.exit 0,[.ptr 14 0,.int .i64 0,.str t,.int .i64 (Int.ofNat i)],⟨1,[Fx ng lg s e g mo da a b c],[]⟩):=λh=>hQ _ ⟨_,_,VW.refl,by
    rw[C4 hz (by omega)]at hq
    subst h
    exact hq⟩
   have go:i<t.length->(t.getD i 0).toNat≠88->Q' (.normal,[.ptr 14 0,.int .i64 0,.str t,.int .i64 (Int.ofNat (i+1))],⟨1,[Fx ng lg s e g mo da a b c],[]⟩):=λh1 h2=>hQ _ ⟨⟨i+1,by omega,λk hk=>by
    by_cases e:k=i
    · subst e;exact h2
    · exact hz k (by omega)⟩,by dsimp only;omega,VW.of_eq rfl rfl⟩
   clear hQ hq hz
   rw[show(UInt8.ofNat 0)=(0:UInt8)from rfl]
   generalize (t.getD i 0).toNat=cn at *
   simp only[aD,reduceCtorEq,bA,bB,ne_eq]
   (repeat' first|exact trivial|refine⟨?_,?_⟩|intro)<;>first|contradiction|omega|assumption|(apply fin;omega)|(apply go<;>omega)|(apply ret<;>omega)|(exfalso;simp_all;done)
 · cases hv
theorem GP{ng lg:Bool}{s:List UInt8}{e:Int}{mo da:List UInt8}{a b c:Int}(hs:s.length<=1000)(hm:mo.length<=1000)(hd:da.length<=1000) :
 bR Tryz.prog cfg 119 [.agg [.bool ng,.bool lg,.str s,.int .i64 e,.int .i64 0,.str mo,.str da,.int .u8 a,.int .u8 b,.int .u8 c]] [] (.int .i64 (bI (bc (s++mo++da)))) []:=by
 refine cp aT (L:=Rl) Ih (by simp) (eC ER λi hi e he st Q hw=>?_) (ap λQ' hQ=>al ((VV ng lg s e mo da a b c).mpr ?_)) (by simp[aq])
 · have hi:i=0:=by simp at hi;omega
   subst hi
   cases he
   exact cR (cV.good aT) (by decide) rfl Pg hw
 · have l1:(s++mo).length=s.length+mo.length:=List.length_append
   have l2:(s++mo++da).length=s.length+mo.length+da.length:=by rw[List.length_append,l1]
   have y1:bc (s++mo++da)=true->Q' (.int .i64 1):=λh=>hQ _ (by rw[h];rfl)
   have y0:bc (s++mo++da)=false->Q' (.int .i64 0):=λh=>hQ _ (by rw[h];rfl)
   clear hQ
   simp only[aD,reduceCtorEq,bA,bB,ne_eq]
   (repeat' first|exact trivial|refine⟨?_,?_⟩|intro)<;>first|contradiction|omega|assumption|(apply y1;assumption)|(apply y0;assumption)|(simp only[l1,l2];omega)|(exfalso;simp_all;omega)
theorem Tu:az Tryz.prog cfg X2:=aA aT λargs t v he hv=>by
 unfold RF at he
 split at he
 · cases he
   obtain⟨⟨h1,h2,h3,h4,-⟩,hv⟩:=aI hv
   rw[aS]at h1
   rw[aB]at h2 h3 h4
   cases hv
   subst h1
   exact GP h2 h3 h4
 · cases he
theorem X5{ng lg:Bool}{s:List UInt8}{e g:Int}{mo da:List UInt8}{a b c:Int}(hs:s.length<=1000)(hm:mo.length<=1000)(hd:da.length<=1000) :
 bR Tryz.prog cfg 63 [.agg [.bool ng,.bool lg,.str s,.int .i64 e,.int .i64 g,.str mo,.str da,.int .u8 a,.int .u8 b,.int .u8 c]] [] (.int .i64 (bI (bc (s++mo++da)))) []:=by
 refine cp Tu (L:=aW) L0 (by simp) ak (ap λQ' hQ=>al ((YF ng lg s e g mo da a b c).mpr ?_)) (by simp[aq])
 have hQ:=hQ _ rfl
 simp only[aD,reduceCtorEq,bA,bB,ne_eq]
 (repeat' first|exact trivial|refine⟨?_,?_⟩|intro)<;>first|contradiction|omega|assumption
theorem Qc{S:bq}(hS:az Tryz.prog cfg S):az Tryz.prog cfg (bw S 60 Xt):=aA hS λargs t v he hv=>by
 unfold Xt at he
 split at he
 · cases he
   obtain⟨⟨h1,h2,h3,-⟩,hv⟩:=aI hv
   rw[aB]at h1 h2 h3
   cases hv
   exact Yc h1 h2 h3
 · cases he
theorem PR{S:bq}(hS:az Tryz.prog cfg S):az Tryz.prog cfg (bw S 63 VU):=aA hS λargs t v he hv=>by
 unfold VU at he
 split at he
 · cases he
   obtain⟨⟨h1,h2,h3,-⟩,hv⟩:=aI hv
   rw[aB]at h1 h2 h3
   cases hv
   exact X5 h1 h2 h3
 · cases he
def F1:bq:=bw (j1 dF 57 J9) 116 Nb
def cI(a b c d p:Int):Bool:=!(!(aa a 0)&&!(aa c 0))&&(aa (bH a b c d) 0&&((!(aa a 0) || (tC b p&&aa (Ow b p) b))&&(!(aa c 0) || (tC d p&&aa (Ot d p) d))))
def Vb:dM:=λargs=>match args with
 | [.agg [.int .i8 a,.int .i64 b,.int .i8 c,.int .i64 d],.int .u8 p]=>some (aN [ae .i8 a,ae .i64 b,ae .i8 c,ae .i64 d,ab 1 p,ab p 3] (.ret (.bool (cI a b c d p))))
 | _=>none
theorem Yk(a b c d p:Int){Q:AV->Prop}:aO Q (pT F1 aW 61 [e8 a b c d,.int .u8 p]) (b_ 155115511400642200401400642200201455381023315511400642200203014322542202240)=((λ(u0 u1 u2 u5 u7:Bool)(u3 u4 u6:Prop)=>(λ(ua:Bool)(u9 ub uc ud:Prop)=>(λ(ue uf:Prop)=>(u9->u9/\u9/\u9/\u9/\(ue->ue/\ue/\ua=false/\ub/\(u2=false->u0=false/\u1=true/\uc))/\(uf->uf/\uf/\ua=true/\u3))/\(ud->ud/\ud/\ud/\ud/\ub/\(u2=false->u0=true/\ae .i64 b=true/\u4/\(tC b p=true->(u7=true->u3)/\(u7=false->(u1=true->uc)/\(u1=false->u6)))/\(tC b p=false->u3)))) (not ua=true) (not ua=false)) (not u1) (not u0=true) (u2=true->u3) (ae .i64 d=true/\u4/\(tC d p=true->(u5=true->u3)/\(u5=false->u6))/\(tC d p=false->u3)) (not u0=false)) (aa a 0) (aa c 0) (not (aa (bH a b c d) 0)) (not (and (aa 0 c) (and (aa (Ot d p) d) true))) (not (and (aa 0 a) (and (aa (Ow b p) b) true))) (Q (AV.bool false)) (and (ab 1 p) (ab p 3)=true) (Q (AV.bool true))):=by kernel_rfl
theorem R8:az Tryz.prog cfg F1:=KC (dr aT zx)
theorem Mm:aH tab 61=some (bC 61,aE 61):=by kernel_rfl
theorem XY{a b c d p:Int}(ha : -128<=a/\a<=127)(hb : -9223372036854775808<=b/\b<=9223372036854775807)(hc : -128<=c/\c<=127)(hd : -9223372036854775808<=d/\d<=9223372036854775807)(hp:1<=p/\p<=3):bR Tryz.prog cfg 61 [e8 a b c d,.int .u8 p] [] (.bool (cI a b c d p)) []:=by
 refine cp R8 (L:=aW) Mm (by simp) ak (ap λQ' hQ=>al ((Yk a b c d p).mpr ?_)) (by simp[aq])
 dsimp only
 have hQ:=hQ _ rfl
 unfold cI at hQ
 generalize bH a b c d=r at *
 generalize tC b p=o1 at *
 generalize tC d p=o2 at *
 generalize Ow b p=l1 at *
 generalize Ot d p=l2 at *
 have iff:(!(!(aa a 0)&&!(aa c 0))&&(aa r 0&&((!(aa a 0) || (o1&&aa l1 b))&&(!(aa c 0) || (o2&&aa l2 d)))))=true↔(a=0\/c=0)/\r=0/\(a=0->o1=true/\l1=b)/\(c=0->o2=true/\l2=d):=by
  simp only[Bool.and_eq_true,Bool.or_eq_true,Bool.not_eq_true',Bool.and_eq_false_iff,Bool.not_eq_false',aS,aF]
  grind
 have yes:((a=0\/c=0)/\r=0/\(a=0->o1=true/\l1=b)/\(c=0->o2=true/\l2=d))->Q' (.bool true):=λh=>by rw[iff.2 h]at hQ;exact hQ
 have no:¬((a=0\/c=0)/\r=0/\(a=0->o1=true/\l1=b)/\(c=0->o2=true/\l2=d))->Q' (.bool false):=λh=>by rw[<-iff,Bool.not_eq_true]at h;rw[h]at hQ;exact hQ
 clear hQ iff
 simp only[aD,reduceCtorEq,bA,bB,ne_eq]
 (repeat' first|exact trivial|refine⟨?_,?_⟩|intro)<;>first|contradiction|omega|assumption|(apply yes;grind)|(apply no;grind)|grind
theorem Qi{S:bq}(hS:az Tryz.prog cfg S):az Tryz.prog cfg (bw S 61 Vb):=aA hS λargs t v he hv=>by
 unfold Vb at he
 split at he
 · cases he
   obtain⟨⟨h1,h2,h3,h4,h5,h6,-⟩,hv⟩:=aI hv
   rw[aQ]at h1 h2 h3 h4
   simp only[bA,bB]at h1 h2 h3 h4
   rw[aK]at h5 h6
   cases hv
   exact XY h1 h2 h3 h4 ⟨h5,h6⟩
 · cases he
def mZ(x y z:Int):Bool:=Bool.and (aa x 0) (Bool.and (aa y 0) (Bool.and (aa z 0) Bool.true))
def dZ(ng lg:Bool)(s:List UInt8)(e g:Int)(mo da:List UInt8)(x y z:Int):Bool:=Bool.and (Bool.and (aL ng Bool.false) (Bool.and (aL lg Bool.false) (Bool.and (af s List.nil) (Bool.and (aa e 0) (Bool.and (aa g 0) Bool.true))))) (Bool.and (af mo List.nil) (Bool.and (af da List.nil) (Bool.and (Bool.and (aa x 0) (Bool.and (aa y 0) (Bool.and (aa z 0) Bool.true))) Bool.true)))
def sZ(a b c d:Int):Bool:=Bool.and (Bool.and (aa a 0) (Bool.and (aa b 0) Bool.true)) (Bool.and (Bool.and (aa c 0) (Bool.and (aa d 0) Bool.true)) Bool.true)
def cC(k:Int)(n:Nat)(ch:Int)(dz:Bool)(p:Int)(sz:Bool)(ef g:Int)(xb mz ft:Bool)(rk a c:Int):Int:=
 if k<1\/5<k then 18 else
 if k=1 then(if dz=true/\p=0/\sz=true then(if n=0 then 17 else ch)else 5)else
 if k=2 then(if n=0/\p=0/\sz=true then(if ef=0 then(if g=0/\xb=true/\mz=true then 0 else 1)else ef)else 5)else
 if k=3 then(if n=0/\dz=true then(if 1<=p/\p<=3 then(if ft=true then 0 else 1)else 18)else 5)else
 if n=0/\dz=true/\p=0 then(if rk=0/\(k=4/\a = -1/\c=0\/k=5/\a=0/\c=1)then 0 else 1)else 5
theorem mF{ng lg:Bool}{s:List UInt8}{e g:Int}{mo da:List UInt8}{x y z:Int}:Bool.and (Bool.and (aL ng Bool.false) (Bool.and (aL lg Bool.false) (Bool.and (af s List.nil) (Bool.and (aa e 0) (Bool.and (aa g 0) Bool.true))))) (Bool.and (af mo List.nil) (Bool.and (af da List.nil) (Bool.and (Bool.and (aa x 0) (Bool.and (aa y 0) (Bool.and (aa z 0) Bool.true))) Bool.true)))=dZ ng lg s e g mo da x y z:=rfl
theorem mE{a b c d:Int}:Bool.and (Bool.and (aa a 0) (Bool.and (aa b 0) Bool.true)) (Bool.and (Bool.and (aa c 0) (Bool.and (aa d 0) Bool.true)) Bool.true)=sZ a b c d:=rfl
theorem mJ{x y z:Int}:Bool.and (aa x 0) (Bool.and (aa y 0) (Bool.and (aa z 0) Bool.true))=mZ x y z:=rfl
def n4(R:List Rn):Prop:=∀i,i<R.length->Br (R.getD i fG).b/\Br (R.getD i fG).d
theorem dh:∀{R:List Rn},(aJ R).length=R.length*4
 | []=>rfl
 | r::rs=>by simp only[aJ,List.length_cons,dh (R:=rs)];omega
theorem bv:∀{R:List Rn},b8 (aJ R)=R
 | []=>rfl
 | r::rs=>by simp only[aJ,b8,bv (R:=rs)]
theorem dR:∀{R:List Rn},n4 R->aZ (aJ R)=true
 | [],_=>rfl
 | r::rs,h=>by
   have h0:=h 0 (Nat.succ_pos _)
   have h0:Br r.b/\Br r.d:=h0
   unfold Br at h0
   simp only[aJ,aZ,Bool.and_eq_true,aQ,bA,bB]
   exact⟨h0.1,h0.2,dR λi hi=>h (i+1) (by simpa using hi)⟩
theorem cQ:∀{R:List Rn},aG 14 (aJ R)=true
 | []=>rfl
 | r::rs=>by
   have:=cQ (R:=rs)
   unfold aG at this ⊢
   simp only[aJ,List.all_cons,Bool.and_eq_true]
   exact⟨rfl,rfl,rfl,rfl,this⟩
theorem cz{R:List Rn}:aY (aJ R) 0 (R.length*4)=aJ R:=by
 unfold aY
 rw[List.drop_zero]
 exact List.take_of_length_le (by rw[dh];exact Nat.le_refl _)
theorem GL{a b c d p:Int}:cI a b c d p=true↔(a=0\/c=0)/\bH a b c d=0/\(a=0->tC b p=true/\Ow b p=b)/\(c=0->tC d p=true/\Ot d p=d):=by
 unfold cI
 simp only[Bool.and_eq_true,Bool.or_eq_true,Bool.not_eq_true',Bool.and_eq_false_iff,Bool.not_eq_false',aS,aF]
 grind
end Go.Ev
end
