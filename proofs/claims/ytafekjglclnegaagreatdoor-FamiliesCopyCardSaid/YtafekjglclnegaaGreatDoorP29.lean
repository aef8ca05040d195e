import Derived.Test.YtafekjglclnegaaGreatDoorP26
set_option linter.all false
section
set_option maxRecDepth 100000
set_option maxHeartbeats 4000000
namespace Go.Ev
open Go Go.Proofs Go.Proofs.YtafekjglclnegaaGreatDoor
def bO(d:Int):Int:=yOf d
def eo(d:Int):Int:=mOf d
def du(d:Int):Bool:=ab (-3652425000000000000) d&&ab d 3652425000000000365
theorem Nk:yst (-10000000000000000) = -3652425000000000000:=by decide
theorem Dr:yst 10000000000000001=3652425000000000366:=by decide
theorem lz{d:Int}:okY (yOf d)↔du d=true:=by
 obtain⟨h1,h2⟩:=yOf_spec d
 unfold du okY
 rw[Bool.and_eq_true,aK,aK,<-Nk]
 have e:∀x:Int,x<=3652425000000000365↔x<yst 10000000000000001:=λx=>by rw[Dr];omega
 rw[e]
 generalize yOf d=y at *
 constructor
 · rintro⟨a,b⟩
   have:=yst_le a
   have:=yst_le (show y+1<=10000000000000001 by omega)
   omega
 · rintro⟨a,b⟩
   refine⟨?_,?_⟩
   · have:=λh:y+1<=-10000000000000000=>yst_le h
     omega
   · have:=λh:10000000000000001<=y=>yst_le h
     omega
def LM:dM:=λargs=>match args with
 | [.int .i64 d]=>some (aN [ae .i64 d] (.test (du d) λb=>bif b then .ret (.tuple [.int .i64 (bO d),.int .i64 0])else .ret (.tuple [.int .i64 0,.int .i64 6])))
 | _=>none
def Jf:bq:=bw W7 214 LM
def NT:fp:=λvs o=>match vs,o with
 | [.int .i64 y,.int .i64 l,.int .i64 i,.int .i64 a,.int .i64 b],⟨0,[],[]⟩=>some (aN [eD y,aa i 0,aa a 0,aa b 0,ab 0 l,Bool.not (ab (365+gO y) l)] (.all λJ=>.ret (.ret,[.int .i64 y,.any (J 0),.any (J 1),.int .i64 (mOfL y l),.int .i64 0],b7)))
 | _,_=>none
def MA:dM:=λargs=>match args with
 | [.int .i64 d]=>some (aN [ae .i64 d] (.test (du d) λb=>bif b then .ret (.tuple [.int .i64 (bO d),.int .i64 (eo d),.int .i64 0])else .ret (.tuple [.int .i64 0,.int .i64 0,.int .i64 6])))
 | _=>none
def Tx:dx:=j7 aW 0 (fL 43 [2,7,26,3,4] NT)
theorem TX(y l i:Int)(J:Nat->Value){Q:VQ->Prop}:aO Q (rT Jf aW [] 217 0 43 [2,7,26,3,4] [.int .i64 y,.int .i64 l,.int .i64 i,.int .i64 0,.int .i64 0] J b7) (b_ 1212412422022)=((λ(u1 u2:AV)(u0:Int)=>(λ(u5:AV)(u4:Bool)(u6:Int)(u3:Prop)=>not (ab 12 i)=true/\u3/\and (ab (Neg.neg 10000000000000000) y) (ab y 10000000000000000)=true/\and (ab 1 u0) (ab u0 12)=true/\(u4=true->u3/\Q (AX.ret,([u1,AV.int .i64 l,AV.int .i64 i,u5,u2],{ n:=0,os:=[],le:=[] })))/\(u4=false->(ae .i64 u6=true->u3/\Q (AX.normal,([u1,AV.int .i64 u6,u5,u2,u2],{ n:=0,os:=[],le:=[] })))/\(ae .i64 u6=false->u3/\Q (AX.normal,([u1,AV.int .i64 (IntKind.wrap .i64 u6),u5,u2,u2],{ n:=0,os:=[],le:=[] }))))) (AV.int .i64 u0) (not (ab (d8 y u0) l)) (Int.sub l (d8 y u0)) (ae .i64 u0=true)) (AV.int .i64 y) (AV.int .i64 0) (Int.add i 1)):=by kernel_rfl
theorem Wi(d:Int){Q:AV->Prop}:aO Q (pT Jf Tx 217 [.int .i64 d]) (b_ 1011114400021114400024400420)=((λ(u1:AV)(u0:Int)=>(λ(u4:AV)(u2:Bool)(u3:Int)=>(λ(u6 u7 u8:Bool)(u5:Prop)=>ae .i64 d=true/\(du d=true->(u5->(ae .i64 u3=true->u5/\(ab 0 u3=true->(u6=true->(∀J1:Nat->Value,∀J2:Nat->Value,Q (AV.tuple [u4,AV.int .i64 (mOfL u0 u3),u1])))/\(u6=false->False))/\(ab 0 u3=false->False))/\(ae .i64 u3=false->u5/\(u7=true->(u8=true->(∀J1:Nat->Value,∀J2:Nat->Value,Q (AV.tuple [u4,AV.int .i64 (mOfL u0 (IntKind.wrap .i64 u3)),u1])))/\(u8=false->False))/\(u7=false->False)))/\(u2=false->False))/\(du d=false->Q (AV.tuple [u1,u1,AV.int .i64 6]))) (not (ab (HAdd.hAdd 365 (gO u0)) u3)) (ab 0 (IntKind.wrap .i64 u3)) (not (ab (HAdd.hAdd 365 (gO u0)) (IntKind.wrap .i64 u3))) (u2=true)) (AV.int .i64 u0) (and (ab (Neg.neg 10000000000000000) u0) (ab u0 10000000000000000)) (Int.sub d (bN u0))) (AV.int .i64 0) (bO d)):=by kernel_rfl
theorem IZ:aH tab 217=some (bC 217,aE 217):=by kernel_rfl
theorem A1:aH tab 214=some (bC 214,aE 214):=by kernel_rfl
theorem EA:(bE (aE 217)).map (·.1)=[0]:=by kernel_rfl
theorem qB:az Tryz.prog cfg Jf:=by
 refine aA Fl λargs t v he hv=>?_
 unfold LM at he
 split at he
 · rename_i d
   cases he
   obtain⟨h1,hv⟩:=bU hv
   rw[aQ]at h1
   simp only[bA,bB]at h1
   have hv':Tr.run (bif du d then Tr.ret (AV.tuple [.int .i64 (bO d),.int .i64 0])else Tr.ret (AV.tuple [.int .i64 0,.int .i64 6]))=some v:=hv
   cases hc:du d with
   | true=>
     rw[hc]at hv'
     cases hv'
     refine db A1 (by simp[aq,bG]) λm w hG=>?_
     simpa [ar,aj,bO]using years_Of_ok d w hG h1.1 h1.2 (lz.2 hc)
   | false=>
     rw[hc]at hv'
     cases hv'
     refine db A1 (by simp[aq,bG]) λm w hG=>?_
     simpa [ar,aj,bO]using years_Of_no d w hG h1.1 h1.2 (λh=>by rw[lz.1 h]at hc;cases hc)
 · cases he
theorem N2(y:Int):mcum y 1=0:=by unfold mcum;rw[if_pos (by decide)]
theorem RN:dG Tryz.prog (dX cfg Jf) (Cw cfg []) (lb 217 0) 43 [2,7,26,3,4] NT:=by
 intro vs o t Q hv hq J
 unfold NT at hv
 split at hv
 · rename_i y l i a b
   cases hv
   obtain⟨h1,hq1⟩:=cS hq
   obtain⟨h2,hq2⟩:=cS hq1
   obtain⟨h3,hq3⟩:=cS hq2
   obtain⟨h4,hq4⟩:=cS hq3
   obtain⟨h5,hq5⟩:=cS hq4
   obtain⟨h6,hq6⟩:=cS hq5
   clear hq hq1 hq2 hq3 hq4 hq5
   rw[aS]at h2 h3 h4
   rw[aK]at h5
   rw[iK,dc]at h6
   subst h2 h3 h4
   have hy:=cr.1 h1
   have hq:∀J:Nat->Value,Q (.ret,[.int .i64 y,.any (J 0),.any (J 1),.int .i64 (mOfL y l),.int .i64 0],b7):=hq6
   have hs:=mOfL_spec y l h5 h6
   have h13:=mcum_13 y
   refine j_ qB rfl rfl ak (ι:={i:Nat // (i:Int)+1<=mOfL y l}) (λx=>[.int .i64 y,.int .i64 (l-mcum y ((x.1:Int)+1)),.int .i64 (x.1:Int),.int .i64 0,.int .i64 0]) (λ_=>b7) (λx=>12-x.1) 0 (λ_=>Nat.zero_le _) (λx J=>?_) (Nat.le_refl _) (λJ=>Wk.refl ⟨⟨0,by simp;omega⟩,J,by
    have e:l-mcum y (((0:Nat):Int)+1)=l:=by rw[show((0:Nat):Int)+1=1 from rfl,N2];omega
    dsimp only
    rw[e];rfl⟩) J
   obtain⟨i,hi⟩:=x
   dsimp only
   refine ap λQ' hQ=>al ((TX y (l-mcum y ((i:Int)+1)) i J).mpr ?_)
   dsimp only
   have e:=mcum_succ y ((i:Int)+1) (by omega) (by omega)
   have m1:=mcum_mono y (a:=(i:Int)+1) (b:=mOfL y l) (by omega) hi
   have m2:¬(i:Int)+1=mOfL y l->mcum y ((i:Int)+1+1)<=mcum y (mOfL y l):=λh=>mcum_mono y (by omega) (by omega)
   have m3:(i:Int)+1=mOfL y l->mcum y ((i:Int)+1+1)=mcum y (mOfL y l+1):=λh=>by rw[h]
   have b2:=jj y ((i:Int)+1)
   have b3:=mcum_bd y ((i:Int)+1) (by omega) (by omega)
   have em:d8 y ((i:Int)+1)=mlen y ((i:Int)+1):=rfl
   have l2:0<=gO y/\gO y<=1:=lp_01 y
   have go:mcum y ((i:Int)+1+1)<=l->Q' (.normal,[.int .i64 y,.int .i64 (l-mcum y ((i:Int)+1)-d8 y ((i:Int)+1)),.int .i64 ((i:Int)+1),.int .i64 0,.int .i64 0],b7):=λh=>
    hQ (.normal,_,_) ⟨⟨i+1,by
     have:¬(i:Int)+1=mOfL y l:=λh'=>by have:=m3 h';omega
     simp;omega⟩,by dsimp only;omega,VW.of_eq (by
     have:l-mcum y ((i:Int)+1)-d8 y ((i:Int)+1)=l-mcum y (((i+1:Nat):Int)+1):=by rw[show(((i+1:Nat):Int)+1)=(i:Int)+1+1 by omega,e,em];omega
     rw[this];rfl) rfl⟩
   have fin:l<mcum y ((i:Int)+1+1)->Q' (.ret,[.int .i64 y,.int .i64 (l-mcum y ((i:Int)+1)),.int .i64 (i:Int),.int .i64 ((i:Int)+1),.int .i64 0],b7):=λh=>by
    have e2:(i:Int)+1=mOfL y l:=by
     refine Classical.byContradiction λh'=>?_
     have:=m2 h';omega
    refine hQ (.ret,_,_) ⟨_,_,VW.any (.same (.int (.int (.same (.same .nil))))) rfl,?_⟩
    rw[e2]
    exact hq (jv [_,_])
   clear hQ hq hq6
   rw[<-em]at e
   simp only[aD,reduceCtorEq,bA,bB,ne_eq]
   have om:mU ((i:Int)+1)=true:=fI.2 (by omega)
   generalize d8 y ((i:Int)+1)=ml at *
   generalize mcum y ((i:Int)+1+1)=c2 at *
   generalize mcum y ((i:Int)+1)=c1 at *
   (repeat' first|exact trivial|refine⟨?_,?_⟩|intro)<;>first|omega|exact go (by omega)|exact fin (by omega)
 · cases hv
theorem Mq{S:bq}(hS:az Tryz.prog cfg S):az Tryz.prog cfg (bw S 217 MA):=by
 refine aA hS λargs t v he hv=>?_
 unfold MA at he
 split at he
 · rename_i d
   cases he
   obtain⟨h1,hv⟩:=bU hv
   rw[aQ]at h1
   simp only[bA,bB]at h1
   have hv':Tr.run (bif du d then Tr.ret (AV.tuple [.int .i64 (bO d),.int .i64 (eo d),.int .i64 0])else Tr.ret (AV.tuple [.int .i64 0,.int .i64 0,.int .i64 6]))=some v:=hv
   have ids:aq v=[]:=by
    cases hb:du d<;>rw[hb]at hv'<;>cases hv'<;>simp[aq,bG]
   refine cp qB (L:=Tx) IZ (by simp) (eC EA λi hi e he st Q hw=>?_) (ap λQ' hQ=>al ((Wi d).mpr ?_)) ids
   · have hi:i=0:=by simp at hi;omega
     subst hi
     cases he
     exact cR (cV.good qB) (by decide) rfl RN hw
   · dsimp only
     obtain⟨y1,y2⟩:=yOf_spec d
     rw[yst_succ]at y2
     have yes:du d=true->Q' (.tuple [.int .i64 (bO d),.int .i64 (mOfL (bO d) (d-bN (bO d))),.int .i64 0]):=λh=>by
      rw[h]at hv';cases hv';exact hQ _ rfl
     have no:du d=false->Q' (.tuple [.int .i64 0,.int .i64 0,.int .i64 6]):=λh=>by
      rw[h]at hv';cases hv';exact hQ _ rfl
     have yb:du d=true->-10000000000000000<=bO d/\bO d<=10000000000000000:=λh=>lz.2 h
     have y1:bN (bO d)<=d:=y1
     have y2:d<bN (bO d)+365+gO (bO d):=y2
     have l2:0<=gO (bO d)/\gO (bO d)<=1:=lp_01 _
     clear hQ hv hv' ids
     cases hc:du d with
     | true=>
       have yes:=yes hc
       obtain⟨c1,c2⟩:=yb hc
       have c3:=qp (y:=bO d) c1 (by omega)
       clear no yb
       generalize bN (bO d)=ys at *
       generalize bO d=yy at *
       generalize gO yy=ll at *
       simp only[aD,reduceCtorEq,bA,bB,ne_eq]
       (repeat' first|exact trivial|refine⟨?_,?_⟩|intro)<;>first|omega|exact yes|(exfalso;assumption)|(rename_i h;cases h)
     | false=>
       have no:=no hc
       simp only[aD,reduceCtorEq,bA,bB,ne_eq]
       (repeat' first|exact trivial|refine⟨?_,?_⟩|intro)<;>first|omega|contradiction|exact no
 · cases he
end Go.Ev
end
section
set_option maxRecDepth 100000
set_option maxHeartbeats 4000000
namespace Go.Ev
open Go Go.Proofs
def Xf:dM:=λargs=>match args with
 | [.int .i64 a,.int .i64 b]=>some (aN [ae .i64 a,aa b 400 || (aa b 146097 || aa b 12)] (.ret (.int .i64 (dH a b))))
 | _=>none
def X_:dM:=λargs=>match args with
 | [.int .i64 y]=>some (aN [ae .i64 y] (.ret (.int .i64 (gO y))))
 | _=>none
def R1:bq:=bw (bw dF 78 Xf) 30 X_
def X9:dM:=λargs=>match args with
 | [.int .i64 y,.int .i64 m]=>some (aN [ae .i64 y] (.ret (.int .i64 (d8 y m))))
 | _=>none
def XV(y:Int):Bool:=ab (-10000000000000000) y&&ab y 10000000000000001
def Yb:dM:=λargs=>match args with
 | [.int .i64 y]=>some (aN [XV y] (.ret (.int .i64 (bN y))))
 | _=>none
def R2:bq:=bw (bw R1 32 X9) 29 Yb
theorem WD(a:Int){Q:AV->Prop}:aO Q (pT dF aW 78 [.int .i64 a,.int .i64 400]) (b_ 120122040)=((λ(u0:Bool)(u1:Int)=>(λ(u2:Prop)=>(u0=true->u2/\ae .i64 (Int.sub u1 1)=true/\Q (AV.int .i64 (Int.sub u1 1)))/\(u0=false->u2/\Q (AV.int .i64 u1))) (ae .i64 u1=true)) (not (ab 0 (Int.tmod a 400))) (Int.tdiv a 400)):=by kernel_rfl
theorem Ue(a:Int){Q:AV->Prop}:aO Q (pT dF aW 78 [.int .i64 a,.int .i64 146097]) (b_ 120122040)=((λ(u0:Bool)(u1:Int)=>(λ(u2:Prop)=>(u0=true->u2/\ae .i64 (Int.sub u1 1)=true/\Q (AV.int .i64 (Int.sub u1 1)))/\(u0=false->u2/\Q (AV.int .i64 u1))) (ae .i64 u1=true)) (not (ab 0 (Int.tmod a 146097))) (Int.tdiv a 146097)):=by kernel_rfl
theorem WB(a:Int){Q:AV->Prop}:aO Q (pT dF aW 78 [.int .i64 a,.int .i64 12]) (b_ 120122040)=((λ(u0:Bool)(u1:Int)=>(λ(u2:Prop)=>(u0=true->u2/\ae .i64 (Int.sub u1 1)=true/\Q (AV.int .i64 (Int.sub u1 1)))/\(u0=false->u2/\Q (AV.int .i64 u1))) (ae .i64 u1=true)) (not (ab 0 (Int.tmod a 12))) (Int.tdiv a 12)):=by kernel_rfl
theorem Yn(y:Int){Q:AV->Prop}:aO Q (pT dF aW 30 [.int .i64 y]) (b_ 10330008107331142322024220240)=((λ(u0 u1 u2:Bool)(u3 u4:Prop)=>(λ(u5 u6 u7 u8:Prop)=>(u5->u5/\u5/\u5/\(u6->u6/\u6/\u5/\u1=false/\u5/\(u2=true->u3)/\(u2=false->u4))/\(u7->u7/\u7/\u5/\u1=true/\u5/\u3))/\(u8->u8/\u8/\u8/\u8/\u8/\u4)) (u0=true) (not u1=true) (not u1=false) (u0=false)) (aa (Int.tmod y 4) 0) (not (aa (Int.tmod y 100) 0)) (aa (Int.tmod y 400) 0) (Q (AV.int .i64 1)) (Q (AV.int .i64 0))):=by kernel_rfl
theorem Yz(y m:Int){Q:AV->Prop}:aO Q (pT R1 aW 32 [.int .i64 y,.int .i64 m]) (b_ 10005231523102311432432432412204)=((λ(u1 u2 u3:Bool)(u0:Int)(u4:Prop)=>(λ(u5 u6 u7 u8 u9 ua:Prop)=>(aa m 2=true->ae .i64 y=true/\ae .i64 u0=true/\Q (AV.int .i64 u0))/\(aa m 2=false->(u5->u5/\u1=false/\(u6->u6/\u2=false/\(u7->u7/\u3=false/\(aa m 11=true->u4)/\(aa m 11=false->Q (AV.int .i64 31)))/\(u8->u8/\u3=true/\u4))/\(u9->u9/\u2=true/\u4))/\(ua->ua/\u1=true/\u4))) (not u1=true) (not u2=true) (not u3=true) (not u3=false) (not u2=false) (not u1=false)) (aa m 4) (aa m 6) (aa m 9) (Int.add 28 (gO y)) (Q (AV.int .i64 30))):=by kernel_rfl
theorem Yq(y:Int){Q:AV->Prop}:aO Q (pT R1 aW 29 [.int .i64 y]) (b_ 1220707077020)=((λ(u0 u1:Int)=>(λ(u2:Int)=>(λ(u3 u4 u5 u6:Int)=>(λ(u7 u8 u9:Int)=>(λ(ua:Int)=>(λ(ub:Int)=>(λ(uc:Int)=>ae .i64 y=true/\ae .i64 u0=true/\ae .i64 u2=true/\ae .i64 u1=true/\ae .i64 u3=true/\ae .i64 u7=true/\ae .i64 (Int.add u2 3)=true/\ae .i64 u4=true/\ae .i64 ua=true/\ae .i64 u5=true/\ae .i64 u8=true/\ae .i64 ub=true/\ae .i64 u6=true/\ae .i64 u9=true/\ae .i64 uc=true/\Q (AV.int .i64 uc)) (Int.add ub u9)) (Int.sub ua u8)) (Int.add u7 u4)) (Int.add u1 u3) (Int.tdiv u5 100) (Int.tdiv u6 400)) (Int.mul 365 u2) (Int.tdiv (Int.add u2 3) 4) (Int.add u2 99) (Int.add u2 399)) (Int.sub y u0)) (Int.mul (dH y 400) 400) (Int.mul (dH y 400) 146097)):=by kernel_rfl
theorem zA:aH tab 78=some (bC 78,aE 78):=by kernel_rfl
theorem NI:aH tab 30=some (bC 30,aE 30):=by kernel_rfl
theorem Nw:aH tab 32=some (bC 32,aE 32):=by kernel_rfl
theorem Mx:aH tab 29=some (bC 29,aE 29):=by kernel_rfl
theorem yP{a b:Int}(hb:0<b):(a.tmod b<0->a.tdiv b-1=dH a b)/\(0<=a.tmod b->a.tdiv b=dH a b):=by
 have h1:=Int.mul_tdiv_add_tmod a b
 have h2:=Int.emod_add_mul_ediv a b
 have h3:=Int.emod_nonneg a (show b≠0 by omega)
 have h4:=Int.emod_lt_of_pos a hb
 have h5 : -b<a.tmod b/\a.tmod b<b:=⟨Int.lt_tmod_of_pos a hb,Int.tmod_lt_of_pos a hb⟩
 unfold dH
 refine⟨λh=>?_,λh=>?_⟩
 · symm
   refine(Int.ediv_emod_unique (r:=a.tmod b+b) hb).2 ⟨?_,by omega,by omega⟩ |>.1
   rw[Int.mul_sub];omega
 · symm
   exact((Int.ediv_emod_unique (r:=a.tmod b) hb).2 ⟨by omega,by omega,by omega⟩).1
theorem Bu:az Tryz.prog cfg R1:=by
 refine aA (aA aT λargs t v he hv=>?_) λargs t v he hv=>?_
 · unfold Xf at he
   split at he
   · rename_i a b
     cases he
     obtain⟨⟨h1,h2,-⟩,hv⟩:=aI hv
     rw[aQ]at h1
     simp only[bA,bB]at h1
     rw[Bool.or_eq_true,Bool.or_eq_true,aS,aS,aS]at h2
     cases hv
     rcases h2 with rfl|rfl|rfl
     · refine cp aT (L:=aW) zA (by simp) ak (ap λQ' hQ=>al ((WD a).mpr ?_)) (by simp[aq])
       dsimp only
       obtain⟨k1,k2⟩:=@yP a 400 (by decide)
       have tb:=Go.Proofs.YtafekjglclnegaaGreatDoor.tdiv_bd a 400 (by decide) h1.1 h1.2
       simp only[aD,reduceCtorEq,bA,bB,ne_eq]
       (repeat' first|exact trivial|refine⟨?_,?_⟩|intro)<;>first|omega|refine hQ _ ?_
       · rw[<-k1 (by assumption)]
       · rw[<-k2 (by omega)]
     · refine cp aT (L:=aW) zA (by simp) ak (ap λQ' hQ=>al ((Ue a).mpr ?_)) (by simp[aq])
       dsimp only
       obtain⟨k1,k2⟩:=@yP a 146097 (by decide)
       have tb:=Go.Proofs.YtafekjglclnegaaGreatDoor.tdiv_bd a 146097 (by decide) h1.1 h1.2
       simp only[aD,reduceCtorEq,bA,bB,ne_eq]
       (repeat' first|exact trivial|refine⟨?_,?_⟩|intro)<;>first|omega|refine hQ _ ?_
       · rw[<-k1 (by assumption)]
       · rw[<-k2 (by omega)]
     · refine cp aT (L:=aW) zA (by simp) ak (ap λQ' hQ=>al ((WB a).mpr ?_)) (by simp[aq])
       dsimp only
       obtain⟨k1,k2⟩:=@yP a 12 (by decide)
       have tb:=Go.Proofs.YtafekjglclnegaaGreatDoor.tdiv_bd a 12 (by decide) h1.1 h1.2
       simp only[aD,reduceCtorEq,bA,bB,ne_eq]
       (repeat' first|exact trivial|refine⟨?_,?_⟩|intro)<;>first|omega|refine hQ _ ?_
       · rw[<-k1 (by assumption)]
       · rw[<-k2 (by omega)]
   · cases he
 · unfold X_ at he
   split at he
   · rename_i y
     cases he
     obtain⟨h1,hv⟩:=bU hv
     rw[aQ]at h1
     simp only[bA,bB]at h1
     cases hv
     refine cp aT (L:=aW) NI (by simp) ak (ap λQ' hQ=>al ((Yn y).mpr ?_)) (by simp[aq])
     dsimp only
     have z:∀k:Int,y.tmod k=0↔y%k=0:=λk=>by rw[<-Int.dvd_iff_tmod_eq_zero,<-Int.dvd_iff_emod_eq_zero]
     have yes:(y%4=0/\(y%100≠0\/y%400=0))->Q' (.int .i64 1):=λh=>hQ _ (by unfold gO Go.Proofs.YtafekjglclnegaaGreatDoor.lp;rw[if_pos h])
     have no:¬(y%4=0/\(y%100≠0\/y%400=0))->Q' (.int .i64 0):=λh=>hQ _ (by unfold gO Go.Proofs.YtafekjglclnegaaGreatDoor.lp;rw[if_neg h])
     simp only[aD,reduceCtorEq,bA,bB,ne_eq]
     simp only[z]
     (repeat' first|exact trivial|refine⟨?_,?_⟩|intro)<;>first|omega|(refine yes ?_;omega)|(refine no ?_;omega)
   · cases he
theorem ya:az Tryz.prog cfg R2:=by
 refine aA (aA Bu λargs t v he hv=>?_) λargs t v he hv=>?_
 · unfold X9 at he
   split at he
   · rename_i y m
     cases he
     obtain⟨h1,hv⟩:=bU hv
     rw[aQ]at h1
     simp only[bA,bB]at h1
     cases hv
     have hl:0<=gO y/\gO y<=1:=Go.Proofs.YtafekjglclnegaaGreatDoor.lp_01 y
     refine cp Bu (L:=aW) Nw (by simp) ak (ap λQ' hQ=>al ((Yz y m).mpr ?_)) (by simp[aq])
     dsimp only
     have fin:∀n:Int,n=d8 y m->Q' (.int .i64 n):=λn h=>hQ _ (by rw[h])
     simp only[aD,reduceCtorEq,bA,bB,ne_eq]
     (repeat' first|exact trivial|refine⟨?_,?_⟩|intro)<;>first|omega|(refine fin _ ?_;unfold d8 Go.Proofs.YtafekjglclnegaaGreatDoor.mlen;(repeat' split)<;>first|omega|rfl)
   · cases he
 · unfold Yb at he
   split at he
   · rename_i y
     cases he
     obtain⟨h1,hv⟩:=bU hv
     unfold XV at h1
     rw[Bool.and_eq_true,aK,aK]at h1
     cases hv
     have hf:dH y 400*400<=y/\y<=dH y 400*400+399:=by unfold dH;omega
     refine cp Bu (L:=aW) Mx (by simp) ak (ap λQ' hQ=>al ((Yq y).mpr ?_)) (by simp[aq])
     dsimp only
     have fin:∀n:Int,n=bN y->Q' (.int .i64 n):=λn h=>hQ _ (by rw[h])
     simp only[aD,reduceCtorEq,bA,bB,ne_eq]
     have t1:(y-dH y 400*400+3).tdiv 4=(y-dH y 400*400+3)/4:=Int.tdiv_eq_ediv_of_nonneg (by omega)
     have t2:(y-dH y 400*400+99).tdiv 100=(y-dH y 400*400+99)/100:=Int.tdiv_eq_ediv_of_nonneg (by omega)
     have t3:(y-dH y 400*400+399).tdiv 400=(y-dH y 400*400+399)/400:=Int.tdiv_eq_ediv_of_nonneg (by omega)
     simp only[t1,t2,t3]
     (repeat' first|exact trivial|refine⟨?_,?_⟩|intro)<;>first|omega|(refine fin _ ?_;unfold bN;rw[Go.Proofs.YtafekjglclnegaaGreatDoor.yst_cycles];unfold dH;omega)
   · cases he
def V_:fp:=λvs o=>match vs,o with
 | [.int .i64 y,.int .i64 m,.int .i64 d,.int .i64 a,.int .i64 k],⟨0,[],[]⟩=>some (aN [eD y,ab 1 m,ab m 13,aa a (bN y),aa k 1] (.ret (.exit 0,[.int .i64 y,.int .i64 m,.int .i64 d,.int .i64 (aR y m),.int .i64 m],b7)))
 | _,_=>none
def XS:dx:=j7 aW 0 (fL 25 [0,1,2,7,8] V_)
def XT:dM:=λargs=>match args with
 | [.int .i64 y,.int .i64 m,.int .i64 d]=>some (aN [eD y,ab 1 m,ab m 13,ab 1 d,ab d 31] (.ret (.int .i64 (aR y m+d-1))))
 | _=>none
def Tp:dM:=λargs=>match args with
 | [.int .i64 d]=>some (aN [ae .i64 d] (.ret (.int .i64 (bI (du d)))))
 | _=>none
def R3:bq:=bw (bw R2 14 XT) 121 Tp
def MD:fp:=λvs o=>match vs,o with
 | [.int .i64 d,.int .i64 y],⟨0,[],[]⟩=>some (aN [du d,eD y,ab (bN y) d] (.ret (.exit 0,[.int .i64 d,.int .i64 (bO d)],b7)))
 | _,_=>none
def TG:dx:=j7 aW 0 (fL 23 [0,4] MD)
def OW:dM:=λargs=>match args with
 | [.int .i64 d]=>some (aN [du d] (.ret (.int .i64 (bO d))))
 | _=>none
def R4:bq:=bw R3 122 OW
def NX:fp:=λvs o=>match vs,o with
 | [.int .i64 d,.int .i64 y,.int .i64 m],⟨0,[],[]⟩=>some (aN [du d,aa y (bO d),aa m 1] (.ret (.exit 0,[.int .i64 d,.int .i64 y,.int .i64 (eo d)],b7)))
 | _,_=>none
def QC:dx:=j7 aW 0 (fL 20 [0,3,4] NX)
def Pm:dM:=λargs=>match args with
 | [.int .i64 d]=>some (aN [du d] (.ret (.int .i64 (eo d))))
 | _=>none
def R5:bq:=bw R4 123 Pm
theorem W3(y m d a k:Int)(J:Nat->Value){Q:VQ->Prop}:aO Q (rT R2 aW [] 14 0 25 [0,1,2,7,8] [.int .i64 y,.int .i64 m,.int .i64 d,.int .i64 a,.int .i64 k] J b7) (b_ 11704)=((λ(u0:Bool)(u1:Int)=>(u0=true->ae .i64 y=true/\ae .i64 u1=true/\ae .i64 (Int.add k 1)=true/\Q (AX.normal,([AV.int .i64 y,AV.int .i64 m,AV.int .i64 d,AV.int .i64 u1,AV.int .i64 (Int.add k 1)],{ n:=0,os:=[],le:=[] })))/\(u0=false->Q (AX.exit 0,([AV.int .i64 y,AV.int .i64 m,AV.int .i64 d,AV.int .i64 a,AV.int .i64 k],{ n:=0,os:=[],le:=[] })))) (not (ab m k)) (Int.add a (d8 y k))):=by kernel_rfl
theorem Yi(y m d:Int){Q:AV->Prop}:aO Q (pT R2 XS 14 [.int .i64 y,.int .i64 m,.int .i64 d]) (b_ 12202270)=((λ(u0:Bool)(u1:Int)=>and u0 (ab y 10000000000000001)=true/\and u0 (ab y 10000000000000000)=true/\ab 1 m=true/\ab m 13=true/\aa (bN y) (bN y)=true/\(∀J1:Nat->Value,ae .i64 u1=true/\ae .i64 (Int.sub u1 1)=true/\Q (AV.int .i64 (Int.sub u1 1)))) (ab (Neg.neg 10000000000000000) y) (Int.add (aR y m) d)):=by kernel_rfl
theorem Uo(d:Int){Q:AV->Prop}:aO Q (pT R2 aW 121 [.int .i64 d]) (b_ 102338114320200202002400)=((λ(u0 u1:Bool)(u2:Prop)=>(λ(u3 u4:Prop)=>(u3->u3/\u3/\u3/\u3/\u3/\u0=false/\(u1=true->u2)/\(u1=false->Q (AV.int .i64 1)))/\(u4->u4/\u4/\u4/\u4/\u4/\u0=true/\u2)) (not u0=true) (not u0=false)) (not (ab (bN (Neg.neg 10000000000000000)) d)) (not (ab d 3652425000000000365)) (Q (AV.int .i64 0))):=by kernel_rfl
theorem Vf(d y:Int)(J:Nat->Value){Q:VQ->Prop}:aO Q (rT R3 aW [] 122 0 23 [0,4] [.int .i64 d,.int .i64 y] J b7) (b_ 1124202)=((λ(u0:Int)=>(λ(u2:Bool)(u1:Prop)=>u1/\and (ab (Neg.neg 10000000000000000) u0) (ab u0 10000000000000001)=true/\(u2=true->u1/\Q (AX.normal,([AV.int .i64 d,AV.int .i64 u0],{ n:=0,os:=[],le:=[] })))/\(u2=false->Q (AX.exit 0,([AV.int .i64 d,AV.int .i64 y],{ n:=0,os:=[],le:=[] })))) (ab (bN u0) d) (ae .i64 u0=true)) (Int.add y 1)):=by kernel_rfl
theorem UF(d:Int){Q:AV->Prop}:aO Q (pT R3 TG 122 [.int .i64 d]) (b_ 1142707020)=((λ(u0 u1:Int)=>(λ(u2:Int)=>(λ(u3:Int)=>(λ(u4:Bool)=>ae .i64 d=true/\ae .i64 u0=true/\ae .i64 u1=true/\ae .i64 (Int.sub d u1)=true/\ae .i64 u2=true/\ae .i64 u3=true/\and (ab (Neg.neg 3652425000000000000) d) (ab d 3652425000000000365)=true/\and (ab (Neg.neg 10000000000000000) u3) (ab u3 10000000000000000)=true/\(u4=true->(∀J1:Nat->Value,Q (AV.int .i64 (bO d))))/\(u4=false->False)) (ab (bN u3) d)) (Int.add u0 u2)) (Int.tdiv (Int.sub d u1) 366)) (Int.mul (dH d 146097) 400) (Int.mul (dH d 146097) 146097)):=by kernel_rfl
theorem Ui(d y m:Int)(J:Nat->Value){Q:VQ->Prop}:aO Q (rT R4 aW [] 123 0 20 [0,3,4] [.int .i64 d,.int .i64 y,.int .i64 m] J b7) (b_ 1088112470070274)=((λ(u0:Bool)(u1:Int)(u2:Prop)=>(λ(u5:Bool)(u3 u4 u6:Prop)=>(u3->u3/\u3/\u4/\u3/\and (ab (Neg.neg 10000000000000000) y) (ab y 10000000000000000)=true/\ab 1 u1=true/\ab u1 13=true/\u3/\u3/\u3/\(u5=true->u4/\Q (AX.normal,([AV.int .i64 d,AV.int .i64 y,AV.int .i64 u1],{ n:=0,os:=[],le:=[] })))/\(u5=false->u2))/\(u6->u6/\u6/\u6/\u6/\u6/\u6/\u2)) (ab (HSub.hSub (HAdd.hAdd (aR y u1) 1) 1) d) (u0=true) (ae .i64 u1=true) (u0=false)) (not (ab 12 m)) (Int.add m 1) (Q (AX.exit 0,([AV.int .i64 d,AV.int .i64 y,AV.int .i64 m],{ n:=0,os:=[],le:=[] })))):=by kernel_rfl
theorem UP(d:Int){Q:AV->Prop}:aO Q (pT R4 QC 123 [.int .i64 d]) (b_ 1070)=((λ(u0:Prop)=>u0/\u0/\aa (bO d) (bO d)=true/\(∀J1:Nat->Value,Q (AV.int .i64 (eo d)))) (and (ab (Neg.neg 3652425000000000000) d) (ab d 3652425000000000365)=true)):=by kernel_rfl
theorem K8:aH tab 14=some (bC 14,aE 14):=by kernel_rfl
theorem HP:aH tab 121=some (bC 121,aE 121):=by kernel_rfl
theorem Js:aH tab 122=some (bC 122,aE 122):=by kernel_rfl
theorem Hn:aH tab 123=some (bC 123,aE 123):=by kernel_rfl
theorem Hb:(bE (aE 14)).map (·.1)=[0]:=by kernel_rfl
theorem Gd:(bE (aE 122)).map (·.1)=[0]:=by kernel_rfl
theorem Et:(bE (aE 123)).map (·.1)=[0]:=by kernel_rfl
theorem fj{d:Int}:du d=true↔-3652425000000000000<=d/\d<=3652425000000000365:=by unfold du;rw[Bool.and_eq_true,aK,aK]
theorem UZ:dG Tryz.prog (dX cfg R2) (Cw cfg []) (lb 14 0) 25 [0,1,2,7,8] V_:=by
 intro vs o t Q hv hq J
 unfold V_ at hv
 split at hv
 · rename_i y m d a k
   cases hv
   replace hq:=eM hq;obtain⟨⟨h1,h2,h3,h4,h5,-⟩,hq⟩:=hq
   rw[cr]at h1
   rw[aK]at h2 h3
   rw[aS]at h4 h5
   subst h4 h5
   have hq:Q (.exit 0,[.int .i64 y,.int .i64 m,.int .i64 d,.int .i64 (aR y m),.int .i64 m],b7):=hq
   refine j_ ya rfl rfl ak (ι:={k:Int // 1<=k/\k<=m}) (λx=>[.int .i64 y,.int .i64 m,.int .i64 d,.int .i64 (aR y x.1),.int .i64 x.1]) (λ_=>b7) (λx=>(m-x.1).toNat) 0 (λ_=>Nat.le_refl _) (λx J=>?_) (Nat.le_refl _) (λJ=>Wk.refl ⟨⟨1,by omega,h2⟩,J,by rw[show aR y (⟨1,by omega,h2⟩:{k:Int // 1<=k/\k<=m}).1=bN y from Go.Proofs.YtafekjglclnegaaGreatDoor.mst_1 y]⟩) J
   obtain⟨k,hk⟩:=x
   dsimp only
   have hb : -3652425000000000001<=aR y k/\aR y k<=3652425000000000800:=Go.Proofs.YtafekjglclnegaaGreatDoor.mst_bd y k h1 hk.1 (by omega)
   have hl:28<=d8 y k/\d8 y k<=31:=Go.Proofs.YtafekjglclnegaaGreatDoor.mlen_bd y k
   have hs:k<=12->aR y (k+1)=aR y k+d8 y k:=λh=>Go.Proofs.YtafekjglclnegaaGreatDoor.mst_succ y k hk.1 h
   refine ap λQ' hQ=>al ((W3 y m d _ k J).mpr ?_)
   simp only[aD,reduceCtorEq,bA,bB,ne_eq]
   (repeat' first|exact trivial|refine⟨?_,?_⟩|intro)<;>first|omega|refine hQ _ ?_
   · exact⟨⟨k+1,by omega⟩,by dsimp only;omega,VW.of_eq (by dsimp only;rw[hs (by omega)]) rfl⟩
   · obtain rfl:k=m:=by omega
     exact⟨_,_,VW.refl,hq⟩
 · cases hv
theorem qd:az Tryz.prog cfg R3:=by
 refine aA (aA ya λargs t v he hv=>?_) λargs t v he hv=>?_
 · unfold XT at he
   split at he
   · rename_i y m d
     cases he
     obtain⟨⟨h1,h2,h3,h4,h5,-⟩,hv⟩:=aI hv
     rw[cr]at h1
     rw[aK]at h2 h3 h4 h5
     cases hv
     have hb : -3652425000000000001<=aR y m/\aR y m<=3652425000000000800:=Go.Proofs.YtafekjglclnegaaGreatDoor.mst_bd y m h1 h2 h3
     refine cp ya (L:=XS) K8 (by simp) (eC Hb λi hi e he st Q hw=>?_) (ap λQ' hQ=>al ((Yi y m d).mpr ?_)) (by simp[aq])
     · have hi:i=0:=by simp at hi;omega
       subst hi
       cases he
       exact cR (cV.good ya) (by decide) rfl UZ hw
     · have hy:=cr.2 h1
       simp only[aD,reduceCtorEq,bA,bB,ne_eq]
       (repeat' first|exact trivial|refine⟨?_,?_⟩|intro)<;>first|omega|assumption|exact hQ _ rfl
   · cases he
 · unfold Tp at he
   split at he
   · rename_i d
     cases he
     obtain⟨h1,hv⟩:=bU hv
     rw[aQ]at h1
     simp only[bA,bB]at h1
     cases hv
     refine cp ya (L:=aW) HP (by simp) ak (ap λQ' hQ=>al ((Uo d).mpr ?_)) (by simp[aq])
     dsimp only
     have e1:bN (-10000000000000000) = -3652425000000000000:=by decide
     have e2:bN 10000000000000000=3652425000000000000:=by decide
     have e3:gO 10000000000000000=1:=by decide
     have yes:(-3652425000000000000<=d/\d<=3652425000000000365)->Q' (.int .i64 1):=λh=>hQ _ (by rw[fj.2 h];rfl)
     have no:¬(-3652425000000000000<=d/\d<=3652425000000000365)->Q' (.int .i64 0):=λh=>hQ _ (by
      have:du d=false:=by rw[<-Bool.not_eq_true,fj];exact h
      rw[this];rfl)
     simp only[aD,reduceCtorEq,bA,bB,ne_eq]
     try simp only[e1,e2,e3]
     (repeat' first|exact trivial|refine⟨?_,?_⟩|intro)<;>first|omega|exact yes (by omega)|exact no (by omega)|skip
   · cases he
theorem O4:dG Tryz.prog (dX cfg R3) (Cw cfg []) (lb 122 0) 23 [0,4] MD:=by
 intro vs o t Q hv hq J
 unfold MD at hv
 split at hv
 · rename_i d y
   cases hv
   replace hq:=eM hq;obtain⟨⟨h1,h2,h3,-⟩,hq⟩:=hq
   rw[fj]at h1
   rw[cr]at h2
   rw[aK]at h3
   have hq:Q (.exit 0,[.int .i64 d,.int .i64 (bO d)],b7):=hq
   refine j_ qd rfl rfl ak (ι:={y:Int // (-10000000000000000<=y/\y<=10000000000000000)/\bN y<=d}) (λx=>[.int .i64 d,.int .i64 x.1]) (λ_=>b7) (λx=>(10000000000000001-x.1).toNat) 0 (λ_=>Nat.le_refl _) (λx J=>?_) (Nat.le_refl _) (λJ=>Wk.refl ⟨⟨y,h2,h3⟩,J,rfl⟩) J
   obtain⟨z,hz,hd⟩:=x
   dsimp only
   have top:bN (z+1)<=d->z+1<=10000000000000000:=λh=>by
    have h4:bN (z+1)<Go.Proofs.YtafekjglclnegaaGreatDoor.yst 10000000000000001:=by rw[Dr];omega
    have:=λh5:10000000000000001<=z+1=>Go.Proofs.YtafekjglclnegaaGreatDoor.yst_le h5
    unfold bN at h4
    omega
   have fin:d<bN (z+1)->bO d=z:=λh=>Go.Proofs.YtafekjglclnegaaGreatDoor.yOf_unique hd h
   refine ap λQ' hQ=>al ((Vf d z J).mpr ?_)
   simp only[aD,reduceCtorEq,bA,bB,ne_eq]
   (repeat' first|exact trivial|refine⟨?_,?_⟩|intro)<;>first|omega|refine hQ _ ?_
   · exact⟨⟨z+1,by have:=top (by assumption);omega,by assumption⟩,by dsimp only;omega,VW.of_eq rfl rfl⟩
   · rw[fin (by omega)]at hq
     exact⟨_,_,VW.refl,hq⟩
 · cases hv
theorem A7:az Tryz.prog cfg R4:=by
 refine aA qd λargs t v he hv=>?_
 unfold OW at he
 split at he
 · rename_i d
   cases he
   obtain⟨h1,hv⟩:=bU hv
   have h1':=h1
   rw[fj]at h1
   cases hv
   have hf:dH d 146097*146097<=d/\d<=dH d 146097*146097+146096:=by unfold dH;omega
   refine cp qd (L:=TG) Js (by simp) (eC Gd λi hi e he st Q hw=>?_) (ap λQ' hQ=>al ((UF d).mpr ?_)) (by simp[aq])
   · have hi:i=0:=by simp at hi;omega
     subst hi
     cases he
     exact cR (cV.good qd) (by decide) rfl O4 hw
   · have t1:(d-dH d 146097*146097).tdiv 366=(d-dH d 146097*146097)/366:=Int.tdiv_eq_ediv_of_nonneg (by omega)
     have key:bN (dH d 146097*400+(d-dH d 146097*146097)/366)<=d:=by
      unfold bN
      rw[show dH d 146097*400=400*dH d 146097 by omega,Go.Proofs.YtafekjglclnegaaGreatDoor.yst_cycle]
      unfold Go.Proofs.YtafekjglclnegaaGreatDoor.yst Go.Proofs.YtafekjglclnegaaGreatDoor.before
      generalize dH d 146097=q at *
      have hr:0<=d-q*146097:=by omega
      have hc:(d-q*146097)/366*366<=d-q*146097:=by omega
      generalize (d-q*146097)/366=c at *
      have:c<=0\/1<=c:=by omega
      rcases this with h|h<;>omega
     have bnd : -10000000000000000<=dH d 146097*400+(d-dH d 146097*146097)/366/\dH d 146097*400+(d-dH d 146097*146097)/366<=10000000000000000:=by
      generalize dH d 146097=q at *
      omega
     have bnd':=cr.2 bnd
     simp only[aD,reduceCtorEq,bA,bB,ne_eq]
     simp only[t1]
     (repeat' first|exact trivial|refine⟨?_,?_⟩|intro)<;>first|omega|assumption|exact hQ _ rfl
 · cases he
theorem Rh:dG Tryz.prog (dX cfg R4) (Cw cfg []) (lb 123 0) 20 [0,3,4] NX:=by
 intro vs o t Q hv hq J
 unfold NX at hv
 split at hv
 · rename_i d y m
   cases hv
   replace hq:=eM hq;obtain⟨⟨h1,h2,h3,-⟩,hq⟩:=hq
   rw[aS]at h2 h3
   subst h2 h3
   have hy:Go.Proofs.YtafekjglclnegaaGreatDoor.okY (bO d):=lz.2 h1
   obtain⟨s1,s2⟩:=Go.Proofs.YtafekjglclnegaaGreatDoor.yOf_spec d
   have hq:Q (.exit 0,[.int .i64 d,.int .i64 (bO d),.int .i64 (eo d)],b7):=hq
   refine j_ A7 rfl rfl ak (ι:={m:Int // (1<=m/\m<=12)/\aR (bO d) m<=d}) (λx=>[.int .i64 d,.int .i64 (bO d),.int .i64 x.1]) (λ_=>b7) (λx=>(13-x.1).toNat) 0 (λ_=>Nat.le_refl _) (λx J=>?_) (Nat.le_refl _) (λJ=>Wk.refl ⟨⟨1,by omega,by show Go.Proofs.YtafekjglclnegaaGreatDoor.mst _ 1<=d;rw[Go.Proofs.YtafekjglclnegaaGreatDoor.mst_1];exact s1⟩,J,rfl⟩) J
   obtain⟨m,hm,hd⟩:=x
   dsimp only
   have fin:m=12\/d<aR (bO d) (m+1)->eo d=m:=λh=>by
    refine Go.Proofs.YtafekjglclnegaaGreatDoor.mOf_unique hm.1 hd ?_
    rcases h with rfl|h
    · show d<Go.Proofs.YtafekjglclnegaaGreatDoor.mst _ 13
      rw[Go.Proofs.YtafekjglclnegaaGreatDoor.mst_next,Go.Proofs.YtafekjglclnegaaGreatDoor.mst_1];exact s2
    · exact h
   refine ap λQ' hQ=>al ((Ui d (bO d) m J).mpr ?_)
   dsimp only
   have hyb:=cr.2 hy
   have hy2 : -10000000000000000<=bO d/\bO d<=10000000000000000:=hy
   simp only[aD,reduceCtorEq,bA,bB,ne_eq]
   (repeat' first|exact trivial|refine⟨?_,?_⟩|intro)<;>first|omega|assumption|refine hQ _ ?_
   · exact⟨⟨m+1,by omega,by omega⟩,by dsimp only;omega,VW.of_eq rfl rfl⟩
   all_goals
    rw[fin (by omega)]at hq
    exact⟨_,_,VW.refl,hq⟩
 · cases hv
theorem Pi:az Tryz.prog cfg R5:=by
 refine aA A7 λargs t v he hv=>?_
 unfold Pm at he
 split at he
 · rename_i d
   cases he
   obtain⟨h1,hv⟩:=bU hv
   have h1':=h1
   rw[fj]at h1
   cases hv
   refine cp A7 (L:=QC) Hn (by simp) (eC Et λi hi e he st Q hw=>?_) (ap λQ' hQ=>al ((UP d).mpr ?_)) (by simp[aq])
   · have hi:i=0:=by simp at hi;omega
     subst hi
     cases he
     exact cR (cV.good A7) (by decide) rfl Rh hw
   · have hy : -10000000000000000<=bO d/\bO d<=10000000000000000:=lz.2 h1'
     simp only[aD,reduceCtorEq,bA,bB,ne_eq]
     (repeat' first|exact trivial|refine⟨?_,?_⟩|intro)<;>first|omega|assumption|exact hQ _ rfl
 · cases he
end Go.Ev
end
