import Derived.Test.YtafekjglclnegaaGreatDoorP27
set_option linter.all false
section
set_option maxRecDepth 100000
set_option maxHeartbeats 4000000
namespace Go.Ev
open Go Go.Proofs Go.Proofs.YtafekjglclnegaaGreatDoor
def yOfR (d:Int):Int:=yOf d
def mOfR (d:Int):Int:=mOf d
def inCal (d:Int):Bool:=intLe (-3652425000000000000) d&&intLe d 3652425000000000365
theorem yst_lo:yst (-10000000000000000) = -3652425000000000000:=by decide
theorem yst_hi:yst 10000000000000001=3652425000000000366:=by decide
theorem okY_yOf {d:Int}:okY (yOf d)↔inCal d=true:=by
 obtain ⟨h1,h2⟩:=yOf_spec d
 unfold inCal okY
 rw [Bool.and_eq_true,q_le_t,q_le_t,←yst_lo]
 have e:∀x:Int,x≤3652425000000000365↔x<yst 10000000000000001:=fun x=>by rw [yst_hi];omega
 rw [e]
 generalize yOf d=y at *
 constructor
 · rintro ⟨a,b⟩
   have:=yst_le a
   have:=yst_le (show y+1≤10000000000000001 by omega)
   omega
 · rintro ⟨a,b⟩
   refine ⟨?_,?_⟩
   · have:=fun h:y+1≤-10000000000000000=>yst_le h
     omega
   · have:=fun h:10000000000000001≤y=>yst_le h
     omega
def s214:Sum:=fun args=>match args with
 | [.int .i64 d]=>some (asrts [inR .i64 d] (.test (inCal d) fun b=>bif b then .ret (.tuple [.int .i64 (yOfR d),.int .i64 0]) else .ret (.tuple [.int .i64 0,.int .i64 6])))
 | _=>none
def XA10:Sums:=addP XA9 214 s214
def v217:LoopV:=fun vs o=>match vs,o with
 | [.int .i64 y,.int .i64 l,.int .i64 i,.int .i64 a,.int .i64 b],⟨0,[],[]⟩=>some (asrts [okYb y,intEq i 0,intEq a 0,intEq b 0,intLe 0 l,Bool.not (intLe (365+lpR y) l)] (.all fun J=>.ret (.ret,[.int .i64 y,.any (J 0),.any (J 1),.int .i64 (mOfL y l),.int .i64 0],own0)))
 | _,_=>none
def s217:Sum:=fun args=>match args with
 | [.int .i64 d]=>some (asrts [inR .i64 d] (.test (inCal d) fun b=>bif b then .ret (.tuple [.int .i64 (yOfR d),.int .i64 (mOfR d),.int .i64 0]) else .ret (.tuple [.int .i64 0,.int .i64 0,.int .i64 6])))
 | _=>none
def L217:Loops:=addL noL 0 (loopE 43 [2,7,26,3,4] v217)
theorem r217 (y l i:Int) (J:Nat->Value) {Q:VQ->Prop}:askA Q (rT XA10 noL [] 217 0 43 [2,7,26,3,4] [.int .i64 y,.int .i64 l,.int .i64 i,.int .i64 0,.int .i64 0] J own0) (dtN 1212412422022)=((fun (u1 u2:AV) (u0:Int)=>(fun (u5:AV) (u4:Bool) (u6:Int) (u3:Prop)=>not (intLe 12 i)=true/\u3/\and (intLe (Neg.neg 10000000000000000) y) (intLe y 10000000000000000)=true/\and (intLe 1 u0) (intLe u0 12)=true/\(u4=true->u3/\Q (AX.ret,([u1,AV.int .i64 l,AV.int .i64 i,u5,u2],{ n:=0,os:=[],le:=[] })))/\(u4=false->(inR .i64 u6=true->u3/\Q (AX.normal,([u1,AV.int .i64 u6,u5,u2,u2],{ n:=0,os:=[],le:=[] })))/\(inR .i64 u6=false->u3/\Q (AX.normal,([u1,AV.int .i64 (IntKind.wrap .i64 u6),u5,u2,u2],{ n:=0,os:=[],le:=[] }))))) (AV.int .i64 u0) (not (intLe (mlnR y u0) l)) (Int.sub l (mlnR y u0)) (inR .i64 u0=true)) (AV.int .i64 y) (AV.int .i64 0) (Int.add i 1)):=by kernel_rfl
theorem b217 (d:Int) {Q:AV->Prop}:askA Q (pT XA10 L217 217 [.int .i64 d]) (dtN 1011114400021114400024400420)=((fun (u1:AV) (u0:Int)=>(fun (u4:AV) (u2:Bool) (u3:Int)=>(fun (u6 u7 u8:Bool) (u5:Prop)=>inR .i64 d=true/\(inCal d=true->(u5->(inR .i64 u3=true->u5/\(intLe 0 u3=true->(u6=true->(∀J1:Nat->Value,∀J2:Nat->Value,Q (AV.tuple [u4,AV.int .i64 (mOfL u0 u3),u1])))/\(u6=false->False))/\(intLe 0 u3=false->False))/\(inR .i64 u3=false->u5/\(u7=true->(u8=true->(∀J1:Nat->Value,∀J2:Nat->Value,Q (AV.tuple [u4,AV.int .i64 (mOfL u0 (IntKind.wrap .i64 u3)),u1])))/\(u8=false->False))/\(u7=false->False)))/\(u2=false->False))/\(inCal d=false->Q (AV.tuple [u1,u1,AV.int .i64 6]))) (not (intLe (HAdd.hAdd 365 (lpR u0)) u3)) (intLe 0 (IntKind.wrap .i64 u3)) (not (intLe (HAdd.hAdd 365 (lpR u0)) (IntKind.wrap .i64 u3))) (u2=true)) (AV.int .i64 u0) (and (intLe (Neg.neg 10000000000000000) u0) (intLe u0 10000000000000000)) (Int.sub d (ystR u0))) (AV.int .i64 0) (yOfR d)):=by kernel_rfl
theorem body217:bodyOf tab 217=some (fnOf 217,codeOf 217):=by kernel_rfl
theorem body214:bodyOf tab 214=some (fnOf 214,codeOf 214):=by kernel_rfl
theorem loops217:(loopsOf (codeOf 217)).map (·.1)=[0]:=by kernel_rfl
theorem XA10_ok:SumsOK Tryz.prog cfg XA10:=by
 refine sums_addP XA9_ok fun args t v he hv=>?_
 unfold s214 at he
 split at he
 · rename_i d
   cases he
   obtain ⟨h1,hv⟩:=asrts_run hv
   rw [q_inR_t] at h1
   simp only [loK,hiK] at h1
   have hv':Tr.run (bif inCal d then Tr.ret (AV.tuple [.int .i64 (yOfR d),.int .i64 0]) else Tr.ret (AV.tuple [.int .i64 0,.int .i64 6]))=some v:=hv
   cases hc:inCal d with
   | true=>
     rw [hc] at hv'
     cases hv'
     refine fact_calls body214 (by simp [idsA,idsL]) fun m w hG=>?_
     simpa [concL,conc,yOfR] using years_Of_ok d w hG h1.1 h1.2 (okY_yOf.2 hc)
   | false=>
     rw [hc] at hv'
     cases hv'
     refine fact_calls body214 (by simp [idsA,idsL]) fun m w hG=>?_
     simpa [concL,conc,yOfR] using years_Of_no d w hG h1.1 h1.2 (fun h=>by rw [okY_yOf.1 h] at hc;cases hc)
 · cases he
theorem mcum_1 (y:Int):mcum y 1=0:=by unfold mcum;rw [if_pos (by decide)]
theorem lv217:LoopVOK Tryz.prog (cfgS cfg XA10) (Cw cfg []) (lb 217 0) 43 [2,7,26,3,4] v217:=by
 intro vs o t Q hv hq J
 unfold v217 at hv
 split at hv
 · rename_i y l i a b
   cases hv
   obtain ⟨h1,hq1⟩:=asrts_wp hq
   obtain ⟨h2,hq2⟩:=asrts_wp hq1
   obtain ⟨h3,hq3⟩:=asrts_wp hq2
   obtain ⟨h4,hq4⟩:=asrts_wp hq3
   obtain ⟨h5,hq5⟩:=asrts_wp hq4
   obtain ⟨h6,hq6⟩:=asrts_wp hq5
   clear hq hq1 hq2 hq3 hq4 hq5
   rw [q_eq_t] at h2 h3 h4
   rw [q_le_t] at h5
   rw [q_not_t,q_le_f] at h6
   subst h2 h3 h4
   have hy:=okYb_iff.1 h1
   have hq:∀J:Nat->Value,Q (.ret,[.int .i64 y,.any (J 0),.any (J 1),.int .i64 (mOfL y l),.int .i64 0],own0):=hq6
   have hs:=mOfL_spec y l h5 h6
   have h13:=mcum_13 y
   refine lvOK XA10_ok rfl rfl lok_none (ι:={i:Nat // (i:Int)+1≤mOfL y l}) (fun x=>[.int .i64 y,.int .i64 (l-mcum y ((x.1:Int)+1)),.int .i64 (x.1:Int),.int .i64 0,.int .i64 0]) (fun _=>own0) (fun x=>12-x.1) 0 (fun _=>Nat.zero_le _) (fun x J=>?_) (Nat.le_refl _) (fun J=>Wk.refl ⟨⟨0,by simp;omega⟩,J,by
    have e:l-mcum y (((0:Nat):Int)+1)=l:=by rw [show ((0:Nat):Int)+1=1 from rfl,mcum_1];omega
    dsimp only
    rw [e];rfl⟩) J
   obtain ⟨i,hi⟩:=x
   dsimp only
   refine wp_gen fun Q' hQ=>askA_wp ((r217 y (l-mcum y ((i:Int)+1)) i J).mpr ?_)
   dsimp only
   have e:=mcum_succ y ((i:Int)+1) (by omega) (by omega)
   have m1:=mcum_mono y (a:=(i:Int)+1) (b:=mOfL y l) (by omega) hi
   have m2:¬(i:Int)+1=mOfL y l->mcum y ((i:Int)+1+1)≤mcum y (mOfL y l):=fun h=>mcum_mono y (by omega) (by omega)
   have m3:(i:Int)+1=mOfL y l->mcum y ((i:Int)+1+1)=mcum y (mOfL y l+1):=fun h=>by rw [h]
   have b2:=mlnR_bd y ((i:Int)+1)
   have b3:=mcum_bd y ((i:Int)+1) (by omega) (by omega)
   have em:mlnR y ((i:Int)+1)=mlen y ((i:Int)+1):=rfl
   have l2:0≤lpR y/\lpR y≤1:=lp_01 y
   have go:mcum y ((i:Int)+1+1)≤l->Q' (.normal,[.int .i64 y,.int .i64 (l-mcum y ((i:Int)+1)-mlnR y ((i:Int)+1)),.int .i64 ((i:Int)+1),.int .i64 0,.int .i64 0],own0):=fun h=>
    hQ (.normal,_,_) ⟨⟨i+1,by
     have:¬(i:Int)+1=mOfL y l:=fun h'=>by have:=m3 h';omega
     simp;omega⟩,by dsimp only;omega,VW.of_eq (by
     have:l-mcum y ((i:Int)+1)-mlnR y ((i:Int)+1)=l-mcum y (((i+1:Nat):Int)+1):=by rw [show (((i+1:Nat):Int)+1)=(i:Int)+1+1 by omega,e,em];omega
     rw [this];rfl) rfl⟩
   have fin:l<mcum y ((i:Int)+1+1)->Q' (.ret,[.int .i64 y,.int .i64 (l-mcum y ((i:Int)+1)),.int .i64 (i:Int),.int .i64 ((i:Int)+1),.int .i64 0],own0):=fun h=>by
    have e2:(i:Int)+1=mOfL y l:=by
     refine Classical.byContradiction fun h'=>?_
     have:=m2 h';omega
    refine hQ (.ret,_,_) ⟨_,_,VW.any (.same (.int (.int (.same (.same .nil))))) rfl,?_⟩
    rw [e2]
    exact hq (jv [_,_])
   clear hQ hq hq6
   rw [←em] at e
   simp only [q_all,reduceCtorEq,loK,hiK,ne_eq]
   have om:okMb ((i:Int)+1)=true:=okMb_iff.2 (by omega)
   generalize mlnR y ((i:Int)+1)=ml at *
   generalize mcum y ((i:Int)+1+1)=c2 at *
   generalize mcum y ((i:Int)+1)=c1 at *
   (repeat' first|exact trivial|refine ⟨?_,?_⟩|intro)<;>first|omega|exact go (by omega)|exact fin (by omega)
 · cases hv
theorem add217 {S:Sums} (hS:SumsOK Tryz.prog cfg S):SumsOK Tryz.prog cfg (addP S 217 s217):=by
 refine sums_addP hS fun args t v he hv=>?_
 unfold s217 at he
 split at he
 · rename_i d
   cases he
   obtain ⟨h1,hv⟩:=asrts_run hv
   rw [q_inR_t] at h1
   simp only [loK,hiK] at h1
   have hv':Tr.run (bif inCal d then Tr.ret (AV.tuple [.int .i64 (yOfR d),.int .i64 (mOfR d),.int .i64 0]) else Tr.ret (AV.tuple [.int .i64 0,.int .i64 0,.int .i64 6]))=some v:=hv
   have ids:idsA v=[]:=by
    cases hb:inCal d<;>rw [hb] at hv'<;>cases hv'<;>simp [idsA,idsL]
   refine fpOK XA10_ok (L:=L217) body217 (by simp) (lok_at loops217 fun i hi e he st Q hw=>?_) (wp_gen fun Q' hQ=>askA_wp ((b217 d).mpr ?_)) ids
   · have hi:i=0:=by simp at hi;omega
     subst hi
     cases he
     exact loopE_ok (base0.good XA10_ok) (by decide) rfl lv217 hw
   · dsimp only
     obtain ⟨y1,y2⟩:=yOf_spec d
     rw [yst_succ] at y2
     have yes:inCal d=true->Q' (.tuple [.int .i64 (yOfR d),.int .i64 (mOfL (yOfR d) (d-ystR (yOfR d))),.int .i64 0]):=fun h=>by
      rw [h] at hv';cases hv';exact hQ _ rfl
     have no:inCal d=false->Q' (.tuple [.int .i64 0,.int .i64 0,.int .i64 6]):=fun h=>by
      rw [h] at hv';cases hv';exact hQ _ rfl
     have yb:inCal d=true->-10000000000000000≤yOfR d/\yOfR d≤10000000000000000:=fun h=>okY_yOf.2 h
     have y1:ystR (yOfR d)≤d:=y1
     have y2:d<ystR (yOfR d)+365+lpR (yOfR d):=y2
     have l2:0≤lpR (yOfR d)/\lpR (yOfR d)≤1:=lp_01 _
     clear hQ hv hv' ids
     cases hc:inCal d with
     | true=>
       have yes:=yes hc
       obtain ⟨c1,c2⟩:=yb hc
       have c3:=ystR_bd (y:=yOfR d) c1 (by omega)
       clear no yb
       generalize ystR (yOfR d)=ys at *
       generalize yOfR d=yy at *
       generalize lpR yy=ll at *
       simp only [q_all,reduceCtorEq,loK,hiK,ne_eq]
       (repeat' first|exact trivial|refine ⟨?_,?_⟩|intro)<;>first|omega|exact yes|(exfalso;assumption)|(rename_i h;cases h)
     | false=>
       have no:=no hc
       simp only [q_all,reduceCtorEq,loK,hiK,ne_eq]
       (repeat' first|exact trivial|refine ⟨?_,?_⟩|intro)<;>first|omega|contradiction|exact no
 · cases he
end Go.Ev
end
section
set_option maxRecDepth 100000
set_option maxHeartbeats 4000000
namespace Go.Ev
open Go Go.Proofs
def s78:Sum:=fun args=>match args with
 | [.int .i64 a,.int .i64 b]=>some (asrts [inR .i64 a,intEq b 400 || (intEq b 146097 || intEq b 12)] (.ret (.int .i64 (flo a b))))
 | _=>none
def s30:Sum:=fun args=>match args with
 | [.int .i64 y]=>some (asrts [inR .i64 y] (.ret (.int .i64 (lpR y))))
 | _=>none
def R1:Sums:=addP (addP nilS 78 s78) 30 s30
def s32:Sum:=fun args=>match args with
 | [.int .i64 y,.int .i64 m]=>some (asrts [inR .i64 y] (.ret (.int .i64 (mlnR y m))))
 | _=>none
def okS (y:Int):Bool:=intLe (-10000000000000000) y&&intLe y 10000000000000001
def s29:Sum:=fun args=>match args with
 | [.int .i64 y]=>some (asrts [okS y] (.ret (.int .i64 (ystR y))))
 | _=>none
def R2:Sums:=addP (addP R1 32 s32) 29 s29
theorem b78a (a:Int) {Q:AV->Prop}:askA Q (pT nilS noL 78 [.int .i64 a,.int .i64 400]) (dtN 120122040)=((fun (u0:Bool) (u1:Int)=>(fun (u2:Prop)=>(u0=true->u2/\inR .i64 (Int.sub u1 1)=true/\Q (AV.int .i64 (Int.sub u1 1)))/\(u0=false->u2/\Q (AV.int .i64 u1))) (inR .i64 u1=true)) (not (intLe 0 (Int.tmod a 400))) (Int.tdiv a 400)):=by kernel_rfl
theorem b78b (a:Int) {Q:AV->Prop}:askA Q (pT nilS noL 78 [.int .i64 a,.int .i64 146097]) (dtN 120122040)=((fun (u0:Bool) (u1:Int)=>(fun (u2:Prop)=>(u0=true->u2/\inR .i64 (Int.sub u1 1)=true/\Q (AV.int .i64 (Int.sub u1 1)))/\(u0=false->u2/\Q (AV.int .i64 u1))) (inR .i64 u1=true)) (not (intLe 0 (Int.tmod a 146097))) (Int.tdiv a 146097)):=by kernel_rfl
theorem b78c (a:Int) {Q:AV->Prop}:askA Q (pT nilS noL 78 [.int .i64 a,.int .i64 12]) (dtN 120122040)=((fun (u0:Bool) (u1:Int)=>(fun (u2:Prop)=>(u0=true->u2/\inR .i64 (Int.sub u1 1)=true/\Q (AV.int .i64 (Int.sub u1 1)))/\(u0=false->u2/\Q (AV.int .i64 u1))) (inR .i64 u1=true)) (not (intLe 0 (Int.tmod a 12))) (Int.tdiv a 12)):=by kernel_rfl
theorem b30 (y:Int) {Q:AV->Prop}:askA Q (pT nilS noL 30 [.int .i64 y]) (dtN 10330008107331142322024220240)=((fun (u0 u1 u2:Bool) (u3 u4:Prop)=>(fun (u5 u6 u7 u8:Prop)=>(u5->u5/\u5/\u5/\(u6->u6/\u6/\u5/\u1=false/\u5/\(u2=true->u3)/\(u2=false->u4))/\(u7->u7/\u7/\u5/\u1=true/\u5/\u3))/\(u8->u8/\u8/\u8/\u8/\u8/\u4)) (u0=true) (not u1=true) (not u1=false) (u0=false)) (intEq (Int.tmod y 4) 0) (not (intEq (Int.tmod y 100) 0)) (intEq (Int.tmod y 400) 0) (Q (AV.int .i64 1)) (Q (AV.int .i64 0))):=by kernel_rfl
theorem b32 (y m:Int) {Q:AV->Prop}:askA Q (pT R1 noL 32 [.int .i64 y,.int .i64 m]) (dtN 10005231523102311432432432412204)=((fun (u1 u2 u3:Bool) (u0:Int) (u4:Prop)=>(fun (u5 u6 u7 u8 u9 ua:Prop)=>(intEq m 2=true->inR .i64 y=true/\inR .i64 u0=true/\Q (AV.int .i64 u0))/\(intEq m 2=false->(u5->u5/\u1=false/\(u6->u6/\u2=false/\(u7->u7/\u3=false/\(intEq m 11=true->u4)/\(intEq m 11=false->Q (AV.int .i64 31)))/\(u8->u8/\u3=true/\u4))/\(u9->u9/\u2=true/\u4))/\(ua->ua/\u1=true/\u4))) (not u1=true) (not u2=true) (not u3=true) (not u3=false) (not u2=false) (not u1=false)) (intEq m 4) (intEq m 6) (intEq m 9) (Int.add 28 (lpR y)) (Q (AV.int .i64 30))):=by kernel_rfl
theorem b29 (y:Int) {Q:AV->Prop}:askA Q (pT R1 noL 29 [.int .i64 y]) (dtN 1220707077020)=((fun (u0 u1:Int)=>(fun (u2:Int)=>(fun (u3 u4 u5 u6:Int)=>(fun (u7 u8 u9:Int)=>(fun (ua:Int)=>(fun (ub:Int)=>(fun (uc:Int)=>inR .i64 y=true/\inR .i64 u0=true/\inR .i64 u2=true/\inR .i64 u1=true/\inR .i64 u3=true/\inR .i64 u7=true/\inR .i64 (Int.add u2 3)=true/\inR .i64 u4=true/\inR .i64 ua=true/\inR .i64 u5=true/\inR .i64 u8=true/\inR .i64 ub=true/\inR .i64 u6=true/\inR .i64 u9=true/\inR .i64 uc=true/\Q (AV.int .i64 uc)) (Int.add ub u9)) (Int.sub ua u8)) (Int.add u7 u4)) (Int.add u1 u3) (Int.tdiv u5 100) (Int.tdiv u6 400)) (Int.mul 365 u2) (Int.tdiv (Int.add u2 3) 4) (Int.add u2 99) (Int.add u2 399)) (Int.sub y u0)) (Int.mul (flo y 400) 400) (Int.mul (flo y 400) 146097)):=by kernel_rfl
theorem body78:bodyOf tab 78=some (fnOf 78,codeOf 78):=by kernel_rfl
theorem body30:bodyOf tab 30=some (fnOf 30,codeOf 30):=by kernel_rfl
theorem body32:bodyOf tab 32=some (fnOf 32,codeOf 32):=by kernel_rfl
theorem body29:bodyOf tab 29=some (fnOf 29,codeOf 29):=by kernel_rfl
theorem flo_q {a b:Int} (hb:0<b):(a.tmod b<0->a.tdiv b-1=flo a b)/\(0≤a.tmod b->a.tdiv b=flo a b):=by
 have h1:=Int.mul_tdiv_add_tmod a b
 have h2:=Int.emod_add_mul_ediv a b
 have h3:=Int.emod_nonneg a (show b≠0 by omega)
 have h4:=Int.emod_lt_of_pos a hb
 have h5 : -b<a.tmod b/\a.tmod b<b:=⟨Int.lt_tmod_of_pos a hb,Int.tmod_lt_of_pos a hb⟩
 unfold flo
 refine ⟨fun h=>?_,fun h=>?_⟩
 · symm
   refine (Int.ediv_emod_unique (r:=a.tmod b+b) hb).2 ⟨?_,by omega,by omega⟩ |>.1
   rw [Int.mul_sub];omega
 · symm
   exact ((Int.ediv_emod_unique (r:=a.tmod b) hb).2 ⟨by omega,by omega,by omega⟩).1
theorem R1_ok:SumsOK Tryz.prog cfg R1:=by
 refine sums_addP (sums_addP sums_nil fun args t v he hv=>?_) fun args t v he hv=>?_
 · unfold s78 at he
   split at he
   · rename_i a b
     cases he
     obtain ⟨h1,hv⟩:=asrts_run hv
     obtain ⟨h2,hv⟩:=asrts_run hv
     rw [q_inR_t] at h1
     simp only [loK,hiK] at h1
     rw [Bool.or_eq_true,Bool.or_eq_true,q_eq_t,q_eq_t,q_eq_t] at h2
     cases hv
     rcases h2 with rfl|rfl|rfl
     · refine fpOK sums_nil (L:=noL) body78 (by simp) lok_none (wp_gen fun Q' hQ=>askA_wp ((b78a a).mpr ?_)) (by simp [idsA])
       dsimp only
       obtain ⟨k1,k2⟩:=@flo_q a 400 (by decide)
       have tb:=Go.Proofs.YtafekjglclnegaaGreatDoor.tdiv_bd a 400 (by decide) h1.1 h1.2
       simp only [q_all,reduceCtorEq,loK,hiK,ne_eq]
       (repeat' first|exact trivial|refine ⟨?_,?_⟩|intro)<;>first|omega|refine hQ _ ?_
       · rw [←k1 (by assumption)]
       · rw [←k2 (by omega)]
     · refine fpOK sums_nil (L:=noL) body78 (by simp) lok_none (wp_gen fun Q' hQ=>askA_wp ((b78b a).mpr ?_)) (by simp [idsA])
       dsimp only
       obtain ⟨k1,k2⟩:=@flo_q a 146097 (by decide)
       have tb:=Go.Proofs.YtafekjglclnegaaGreatDoor.tdiv_bd a 146097 (by decide) h1.1 h1.2
       simp only [q_all,reduceCtorEq,loK,hiK,ne_eq]
       (repeat' first|exact trivial|refine ⟨?_,?_⟩|intro)<;>first|omega|refine hQ _ ?_
       · rw [←k1 (by assumption)]
       · rw [←k2 (by omega)]
     · refine fpOK sums_nil (L:=noL) body78 (by simp) lok_none (wp_gen fun Q' hQ=>askA_wp ((b78c a).mpr ?_)) (by simp [idsA])
       dsimp only
       obtain ⟨k1,k2⟩:=@flo_q a 12 (by decide)
       have tb:=Go.Proofs.YtafekjglclnegaaGreatDoor.tdiv_bd a 12 (by decide) h1.1 h1.2
       simp only [q_all,reduceCtorEq,loK,hiK,ne_eq]
       (repeat' first|exact trivial|refine ⟨?_,?_⟩|intro)<;>first|omega|refine hQ _ ?_
       · rw [←k1 (by assumption)]
       · rw [←k2 (by omega)]
   · cases he
 · unfold s30 at he
   split at he
   · rename_i y
     cases he
     obtain ⟨h1,hv⟩:=asrts_run hv
     rw [q_inR_t] at h1
     simp only [loK,hiK] at h1
     cases hv
     refine fpOK sums_nil (L:=noL) body30 (by simp) lok_none (wp_gen fun Q' hQ=>askA_wp ((b30 y).mpr ?_)) (by simp [idsA])
     dsimp only
     have z:∀k:Int,y.tmod k=0↔y%k=0:=fun k=>by rw [←Int.dvd_iff_tmod_eq_zero,←Int.dvd_iff_emod_eq_zero]
     have yes:(y%4=0/\(y%100≠0∨y%400=0))->Q' (.int .i64 1):=fun h=>hQ _ (by unfold lpR Go.Proofs.YtafekjglclnegaaGreatDoor.lp;rw [if_pos h])
     have no:¬(y%4=0/\(y%100≠0∨y%400=0))->Q' (.int .i64 0):=fun h=>hQ _ (by unfold lpR Go.Proofs.YtafekjglclnegaaGreatDoor.lp;rw [if_neg h])
     simp only [q_all,reduceCtorEq,loK,hiK,ne_eq]
     simp only [z]
     (repeat' first|exact trivial|refine ⟨?_,?_⟩|intro)<;>first|omega|(refine yes ?_;omega)|(refine no ?_;omega)
   · cases he
theorem R2_ok:SumsOK Tryz.prog cfg R2:=by
 refine sums_addP (sums_addP R1_ok fun args t v he hv=>?_) fun args t v he hv=>?_
 · unfold s32 at he
   split at he
   · rename_i y m
     cases he
     obtain ⟨h1,hv⟩:=asrts_run hv
     rw [q_inR_t] at h1
     simp only [loK,hiK] at h1
     cases hv
     have hl:0≤lpR y/\lpR y≤1:=Go.Proofs.YtafekjglclnegaaGreatDoor.lp_01 y
     refine fpOK R1_ok (L:=noL) body32 (by simp) lok_none (wp_gen fun Q' hQ=>askA_wp ((b32 y m).mpr ?_)) (by simp [idsA])
     dsimp only
     have fin:∀n:Int,n=mlnR y m->Q' (.int .i64 n):=fun n h=>hQ _ (by rw [h])
     simp only [q_all,reduceCtorEq,loK,hiK,ne_eq]
     (repeat' first|exact trivial|refine ⟨?_,?_⟩|intro)<;>first|omega|(refine fin _ ?_;unfold mlnR Go.Proofs.YtafekjglclnegaaGreatDoor.mlen;(repeat' split)<;>first|omega|rfl)
   · cases he
 · unfold s29 at he
   split at he
   · rename_i y
     cases he
     obtain ⟨h1,hv⟩:=asrts_run hv
     unfold okS at h1
     rw [Bool.and_eq_true,q_le_t,q_le_t] at h1
     cases hv
     have hf:flo y 400*400≤y/\y≤flo y 400*400+399:=by unfold flo;omega
     refine fpOK R1_ok (L:=noL) body29 (by simp) lok_none (wp_gen fun Q' hQ=>askA_wp ((b29 y).mpr ?_)) (by simp [idsA])
     dsimp only
     have fin:∀n:Int,n=ystR y->Q' (.int .i64 n):=fun n h=>hQ _ (by rw [h])
     simp only [q_all,reduceCtorEq,loK,hiK,ne_eq]
     have t1:(y-flo y 400*400+3).tdiv 4=(y-flo y 400*400+3)/4:=Int.tdiv_eq_ediv_of_nonneg (by omega)
     have t2:(y-flo y 400*400+99).tdiv 100=(y-flo y 400*400+99)/100:=Int.tdiv_eq_ediv_of_nonneg (by omega)
     have t3:(y-flo y 400*400+399).tdiv 400=(y-flo y 400*400+399)/400:=Int.tdiv_eq_ediv_of_nonneg (by omega)
     simp only [t1,t2,t3]
     (repeat' first|exact trivial|refine ⟨?_,?_⟩|intro)<;>first|omega|(refine fin _ ?_;unfold ystR;rw [Go.Proofs.YtafekjglclnegaaGreatDoor.yst_cycles];unfold flo;omega)
   · cases he
def v14:LoopV:=fun vs o=>match vs,o with
 | [.int .i64 y,.int .i64 m,.int .i64 d,.int .i64 a,.int .i64 k],⟨0,[],[]⟩=>some (asrts [okYb y,intLe 1 m,intLe m 13,intEq a (ystR y),intEq k 1] (.ret (.exit 0,[.int .i64 y,.int .i64 m,.int .i64 d,.int .i64 (mstR' y m),.int .i64 m],own0)))
 | _,_=>none
def L14:Loops:=addL noL 0 (loopE 25 [0,1,2,7,8] v14)
def s14:Sum:=fun args=>match args with
 | [.int .i64 y,.int .i64 m,.int .i64 d]=>some (asrts [okYb y,intLe 1 m,intLe m 13,intLe 1 d,intLe d 31] (.ret (.int .i64 (mstR' y m+d-1))))
 | _=>none
def s121:Sum:=fun args=>match args with
 | [.int .i64 d]=>some (asrts [inR .i64 d] (.ret (.int .i64 (bI (inCal d)))))
 | _=>none
def R3:Sums:=addP (addP R2 14 s14) 121 s121
def v122:LoopV:=fun vs o=>match vs,o with
 | [.int .i64 d,.int .i64 y],⟨0,[],[]⟩=>some (asrts [inCal d,okYb y,intLe (ystR y) d] (.ret (.exit 0,[.int .i64 d,.int .i64 (yOfR d)],own0)))
 | _,_=>none
def L122:Loops:=addL noL 0 (loopE 23 [0,4] v122)
def s122:Sum:=fun args=>match args with
 | [.int .i64 d]=>some (asrts [inCal d] (.ret (.int .i64 (yOfR d))))
 | _=>none
def R4:Sums:=addP R3 122 s122
def v123:LoopV:=fun vs o=>match vs,o with
 | [.int .i64 d,.int .i64 y,.int .i64 m],⟨0,[],[]⟩=>some (asrts [inCal d,intEq y (yOfR d),intEq m 1] (.ret (.exit 0,[.int .i64 d,.int .i64 y,.int .i64 (mOfR d)],own0)))
 | _,_=>none
def L123:Loops:=addL noL 0 (loopE 20 [0,3,4] v123)
def s123:Sum:=fun args=>match args with
 | [.int .i64 d]=>some (asrts [inCal d] (.ret (.int .i64 (mOfR d))))
 | _=>none
def R5:Sums:=addP R4 123 s123
theorem r14 (y m d a k:Int) (J:Nat->Value) {Q:VQ->Prop}:askA Q (rT R2 noL [] 14 0 25 [0,1,2,7,8] [.int .i64 y,.int .i64 m,.int .i64 d,.int .i64 a,.int .i64 k] J own0) (dtN 11704)=((fun (u0:Bool) (u1:Int)=>(u0=true->inR .i64 y=true/\inR .i64 u1=true/\inR .i64 (Int.add k 1)=true/\Q (AX.normal,([AV.int .i64 y,AV.int .i64 m,AV.int .i64 d,AV.int .i64 u1,AV.int .i64 (Int.add k 1)],{ n:=0,os:=[],le:=[] })))/\(u0=false->Q (AX.exit 0,([AV.int .i64 y,AV.int .i64 m,AV.int .i64 d,AV.int .i64 a,AV.int .i64 k],{ n:=0,os:=[],le:=[] })))) (not (intLe m k)) (Int.add a (mlnR y k))):=by kernel_rfl
theorem b14 (y m d:Int) {Q:AV->Prop}:askA Q (pT R2 L14 14 [.int .i64 y,.int .i64 m,.int .i64 d]) (dtN 12202270)=((fun (u0:Bool) (u1:Int)=>and u0 (intLe y 10000000000000001)=true/\and u0 (intLe y 10000000000000000)=true/\intLe 1 m=true/\intLe m 13=true/\intEq (ystR y) (ystR y)=true/\(∀J1:Nat->Value,inR .i64 u1=true/\inR .i64 (Int.sub u1 1)=true/\Q (AV.int .i64 (Int.sub u1 1)))) (intLe (Neg.neg 10000000000000000) y) (Int.add (mstR' y m) d)):=by kernel_rfl
theorem b121 (d:Int) {Q:AV->Prop}:askA Q (pT R2 noL 121 [.int .i64 d]) (dtN 102338114320200202002400)=((fun (u0 u1:Bool) (u2:Prop)=>(fun (u3 u4:Prop)=>(u3->u3/\u3/\u3/\u3/\u3/\u0=false/\(u1=true->u2)/\(u1=false->Q (AV.int .i64 1)))/\(u4->u4/\u4/\u4/\u4/\u4/\u0=true/\u2)) (not u0=true) (not u0=false)) (not (intLe (ystR (Neg.neg 10000000000000000)) d)) (not (intLe d 3652425000000000365)) (Q (AV.int .i64 0))):=by kernel_rfl
theorem r122 (d y:Int) (J:Nat->Value) {Q:VQ->Prop}:askA Q (rT R3 noL [] 122 0 23 [0,4] [.int .i64 d,.int .i64 y] J own0) (dtN 1124202)=((fun (u0:Int)=>(fun (u2:Bool) (u1:Prop)=>u1/\and (intLe (Neg.neg 10000000000000000) u0) (intLe u0 10000000000000001)=true/\(u2=true->u1/\Q (AX.normal,([AV.int .i64 d,AV.int .i64 u0],{ n:=0,os:=[],le:=[] })))/\(u2=false->Q (AX.exit 0,([AV.int .i64 d,AV.int .i64 y],{ n:=0,os:=[],le:=[] })))) (intLe (ystR u0) d) (inR .i64 u0=true)) (Int.add y 1)):=by kernel_rfl
theorem b122 (d:Int) {Q:AV->Prop}:askA Q (pT R3 L122 122 [.int .i64 d]) (dtN 1142707020)=((fun (u0 u1:Int)=>(fun (u2:Int)=>(fun (u3:Int)=>(fun (u4:Bool)=>inR .i64 d=true/\inR .i64 u0=true/\inR .i64 u1=true/\inR .i64 (Int.sub d u1)=true/\inR .i64 u2=true/\inR .i64 u3=true/\and (intLe (Neg.neg 3652425000000000000) d) (intLe d 3652425000000000365)=true/\and (intLe (Neg.neg 10000000000000000) u3) (intLe u3 10000000000000000)=true/\(u4=true->(∀J1:Nat->Value,Q (AV.int .i64 (yOfR d))))/\(u4=false->False)) (intLe (ystR u3) d)) (Int.add u0 u2)) (Int.tdiv (Int.sub d u1) 366)) (Int.mul (flo d 146097) 400) (Int.mul (flo d 146097) 146097)):=by kernel_rfl
theorem r123 (d y m:Int) (J:Nat->Value) {Q:VQ->Prop}:askA Q (rT R4 noL [] 123 0 20 [0,3,4] [.int .i64 d,.int .i64 y,.int .i64 m] J own0) (dtN 1088112470070274)=((fun (u0:Bool) (u1:Int) (u2:Prop)=>(fun (u5:Bool) (u3 u4 u6:Prop)=>(u3->u3/\u3/\u4/\u3/\and (intLe (Neg.neg 10000000000000000) y) (intLe y 10000000000000000)=true/\intLe 1 u1=true/\intLe u1 13=true/\u3/\u3/\u3/\(u5=true->u4/\Q (AX.normal,([AV.int .i64 d,AV.int .i64 y,AV.int .i64 u1],{ n:=0,os:=[],le:=[] })))/\(u5=false->u2))/\(u6->u6/\u6/\u6/\u6/\u6/\u6/\u2)) (intLe (HSub.hSub (HAdd.hAdd (mstR' y u1) 1) 1) d) (u0=true) (inR .i64 u1=true) (u0=false)) (not (intLe 12 m)) (Int.add m 1) (Q (AX.exit 0,([AV.int .i64 d,AV.int .i64 y,AV.int .i64 m],{ n:=0,os:=[],le:=[] })))):=by kernel_rfl
theorem b123 (d:Int) {Q:AV->Prop}:askA Q (pT R4 L123 123 [.int .i64 d]) (dtN 1070)=((fun (u0:Prop)=>u0/\u0/\intEq (yOfR d) (yOfR d)=true/\(∀J1:Nat->Value,Q (AV.int .i64 (mOfR d)))) (and (intLe (Neg.neg 3652425000000000000) d) (intLe d 3652425000000000365)=true)):=by kernel_rfl
theorem body14:bodyOf tab 14=some (fnOf 14,codeOf 14):=by kernel_rfl
theorem body121:bodyOf tab 121=some (fnOf 121,codeOf 121):=by kernel_rfl
theorem body122:bodyOf tab 122=some (fnOf 122,codeOf 122):=by kernel_rfl
theorem body123:bodyOf tab 123=some (fnOf 123,codeOf 123):=by kernel_rfl
theorem loops14:(loopsOf (codeOf 14)).map (·.1)=[0]:=by kernel_rfl
theorem loops122:(loopsOf (codeOf 122)).map (·.1)=[0]:=by kernel_rfl
theorem loops123:(loopsOf (codeOf 123)).map (·.1)=[0]:=by kernel_rfl
theorem inCal_iff {d:Int}:inCal d=true↔-3652425000000000000≤d/\d≤3652425000000000365:=by unfold inCal;rw [Bool.and_eq_true,q_le_t,q_le_t]
theorem lv14:LoopVOK Tryz.prog (cfgS cfg R2) (Cw cfg []) (lb 14 0) 25 [0,1,2,7,8] v14:=by
 intro vs o t Q hv hq J
 unfold v14 at hv
 split at hv
 · rename_i y m d a k
   cases hv
   obtain ⟨h1,hq'⟩:=asrts_wp hq;clear hq;have hq:=hq';clear hq'
   obtain ⟨h2,hq'⟩:=asrts_wp hq;clear hq;have hq:=hq';clear hq'
   obtain ⟨h3,hq'⟩:=asrts_wp hq;clear hq;have hq:=hq';clear hq'
   obtain ⟨h4,hq'⟩:=asrts_wp hq;clear hq;have hq:=hq';clear hq'
   obtain ⟨h5,hq'⟩:=asrts_wp hq;clear hq;have hq:=hq';clear hq'
   rw [okYb_iff] at h1
   rw [q_le_t] at h2 h3
   rw [q_eq_t] at h4 h5
   subst h4 h5
   have hq:Q (.exit 0,[.int .i64 y,.int .i64 m,.int .i64 d,.int .i64 (mstR' y m),.int .i64 m],own0):=hq
   refine lvOK R2_ok rfl rfl lok_none (ι:={k:Int // 1≤k/\k≤m}) (fun x=>[.int .i64 y,.int .i64 m,.int .i64 d,.int .i64 (mstR' y x.1),.int .i64 x.1]) (fun _=>own0) (fun x=>(m-x.1).toNat) 0 (fun _=>Nat.le_refl _) (fun x J=>?_) (Nat.le_refl _) (fun J=>Wk.refl ⟨⟨1,by omega,h2⟩,J,by rw [show mstR' y (⟨1,by omega,h2⟩:{k:Int // 1≤k/\k≤m}).1=ystR y from Go.Proofs.YtafekjglclnegaaGreatDoor.mst_1 y]⟩) J
   obtain ⟨k,hk⟩:=x
   dsimp only
   have hb : -3652425000000000001≤mstR' y k/\mstR' y k≤3652425000000000800:=Go.Proofs.YtafekjglclnegaaGreatDoor.mst_bd y k h1 hk.1 (by omega)
   have hl:28≤mlnR y k/\mlnR y k≤31:=Go.Proofs.YtafekjglclnegaaGreatDoor.mlen_bd y k
   have hs:k≤12->mstR' y (k+1)=mstR' y k+mlnR y k:=fun h=>Go.Proofs.YtafekjglclnegaaGreatDoor.mst_succ y k hk.1 h
   refine wp_gen fun Q' hQ=>askA_wp ((r14 y m d _ k J).mpr ?_)
   simp only [q_all,reduceCtorEq,loK,hiK,ne_eq]
   (repeat' first|exact trivial|refine ⟨?_,?_⟩|intro)<;>first|omega|refine hQ _ ?_
   · exact ⟨⟨k+1,by omega⟩,by dsimp only;omega,VW.of_eq (by dsimp only;rw [hs (by omega)]) rfl⟩
   · obtain rfl:k=m:=by omega
     exact ⟨_,_,VW.refl,hq⟩
 · cases hv
theorem R3_ok:SumsOK Tryz.prog cfg R3:=by
 refine sums_addP (sums_addP R2_ok fun args t v he hv=>?_) fun args t v he hv=>?_
 · unfold s14 at he
   split at he
   · rename_i y m d
     cases he
     obtain ⟨h1,hv⟩:=asrts_run hv
     obtain ⟨h2,hv⟩:=asrts_run hv
     obtain ⟨h3,hv⟩:=asrts_run hv
     obtain ⟨h4,hv⟩:=asrts_run hv
     obtain ⟨h5,hv⟩:=asrts_run hv
     rw [okYb_iff] at h1
     rw [q_le_t] at h2 h3 h4 h5
     cases hv
     have hb : -3652425000000000001≤mstR' y m/\mstR' y m≤3652425000000000800:=Go.Proofs.YtafekjglclnegaaGreatDoor.mst_bd y m h1 h2 h3
     refine fpOK R2_ok (L:=L14) body14 (by simp) (lok_at loops14 fun i hi e he st Q hw=>?_) (wp_gen fun Q' hQ=>askA_wp ((b14 y m d).mpr ?_)) (by simp [idsA])
     · have hi:i=0:=by simp at hi;omega
       subst hi
       cases he
       exact loopE_ok (base0.good R2_ok) (by decide) rfl lv14 hw
     · have hy:=okYb_iff.2 h1
       simp only [q_all,reduceCtorEq,loK,hiK,ne_eq]
       (repeat' first|exact trivial|refine ⟨?_,?_⟩|intro)<;>first|omega|assumption|exact hQ _ rfl
   · cases he
 · unfold s121 at he
   split at he
   · rename_i d
     cases he
     obtain ⟨h1,hv⟩:=asrts_run hv
     rw [q_inR_t] at h1
     simp only [loK,hiK] at h1
     cases hv
     refine fpOK R2_ok (L:=noL) body121 (by simp) lok_none (wp_gen fun Q' hQ=>askA_wp ((b121 d).mpr ?_)) (by simp [idsA])
     dsimp only
     have e1:ystR (-10000000000000000) = -3652425000000000000:=by decide
     have e2:ystR 10000000000000000=3652425000000000000:=by decide
     have e3:lpR 10000000000000000=1:=by decide
     have yes:(-3652425000000000000≤d/\d≤3652425000000000365)->Q' (.int .i64 1):=fun h=>hQ _ (by rw [inCal_iff.2 h];rfl)
     have no:¬(-3652425000000000000≤d/\d≤3652425000000000365)->Q' (.int .i64 0):=fun h=>hQ _ (by
      have:inCal d=false:=by rw [←Bool.not_eq_true,inCal_iff];exact h
      rw [this];rfl)
     simp only [q_all,reduceCtorEq,loK,hiK,ne_eq]
     try simp only [e1,e2,e3]
     (repeat' first|exact trivial|refine ⟨?_,?_⟩|intro)<;>first|omega|exact yes (by omega)|exact no (by omega)|skip
   · cases he
theorem lv122:LoopVOK Tryz.prog (cfgS cfg R3) (Cw cfg []) (lb 122 0) 23 [0,4] v122:=by
 intro vs o t Q hv hq J
 unfold v122 at hv
 split at hv
 · rename_i d y
   cases hv
   obtain ⟨h1,hq'⟩:=asrts_wp hq;clear hq;have hq:=hq';clear hq'
   obtain ⟨h2,hq'⟩:=asrts_wp hq;clear hq;have hq:=hq';clear hq'
   obtain ⟨h3,hq'⟩:=asrts_wp hq;clear hq;have hq:=hq';clear hq'
   rw [inCal_iff] at h1
   rw [okYb_iff] at h2
   rw [q_le_t] at h3
   have hq:Q (.exit 0,[.int .i64 d,.int .i64 (yOfR d)],own0):=hq
   refine lvOK R3_ok rfl rfl lok_none (ι:={y:Int // (-10000000000000000≤y/\y≤10000000000000000)/\ystR y≤d}) (fun x=>[.int .i64 d,.int .i64 x.1]) (fun _=>own0) (fun x=>(10000000000000001-x.1).toNat) 0 (fun _=>Nat.le_refl _) (fun x J=>?_) (Nat.le_refl _) (fun J=>Wk.refl ⟨⟨y,h2,h3⟩,J,rfl⟩) J
   obtain ⟨z,hz,hd⟩:=x
   dsimp only
   have top:ystR (z+1)≤d->z+1≤10000000000000000:=fun h=>by
    have h4:ystR (z+1)<Go.Proofs.YtafekjglclnegaaGreatDoor.yst 10000000000000001:=by rw [yst_hi];omega
    have:=fun h5:10000000000000001≤z+1=>Go.Proofs.YtafekjglclnegaaGreatDoor.yst_le h5
    unfold ystR at h4
    omega
   have fin:d<ystR (z+1)->yOfR d=z:=fun h=>Go.Proofs.YtafekjglclnegaaGreatDoor.yOf_unique hd h
   refine wp_gen fun Q' hQ=>askA_wp ((r122 d z J).mpr ?_)
   simp only [q_all,reduceCtorEq,loK,hiK,ne_eq]
   (repeat' first|exact trivial|refine ⟨?_,?_⟩|intro)<;>first|omega|refine hQ _ ?_
   · exact ⟨⟨z+1,by have:=top (by assumption);omega,by assumption⟩,by dsimp only;omega,VW.of_eq rfl rfl⟩
   · rw [fin (by omega)] at hq
     exact ⟨_,_,VW.refl,hq⟩
 · cases hv
theorem R4_ok:SumsOK Tryz.prog cfg R4:=by
 refine sums_addP R3_ok fun args t v he hv=>?_
 unfold s122 at he
 split at he
 · rename_i d
   cases he
   obtain ⟨h1,hv⟩:=asrts_run hv
   have h1':=h1
   rw [inCal_iff] at h1
   cases hv
   have hf:flo d 146097*146097≤d/\d≤flo d 146097*146097+146096:=by unfold flo;omega
   refine fpOK R3_ok (L:=L122) body122 (by simp) (lok_at loops122 fun i hi e he st Q hw=>?_) (wp_gen fun Q' hQ=>askA_wp ((b122 d).mpr ?_)) (by simp [idsA])
   · have hi:i=0:=by simp at hi;omega
     subst hi
     cases he
     exact loopE_ok (base0.good R3_ok) (by decide) rfl lv122 hw
   · have t1:(d-flo d 146097*146097).tdiv 366=(d-flo d 146097*146097)/366:=Int.tdiv_eq_ediv_of_nonneg (by omega)
     have key:ystR (flo d 146097*400+(d-flo d 146097*146097)/366)≤d:=by
      unfold ystR
      rw [show flo d 146097*400=400*flo d 146097 by omega,Go.Proofs.YtafekjglclnegaaGreatDoor.yst_cycle]
      unfold Go.Proofs.YtafekjglclnegaaGreatDoor.yst Go.Proofs.YtafekjglclnegaaGreatDoor.before
      generalize flo d 146097=q at *
      have hr:0≤d-q*146097:=by omega
      have hc:(d-q*146097)/366*366≤d-q*146097:=by omega
      generalize (d-q*146097)/366=c at *
      have:c≤0∨1≤c:=by omega
      rcases this with h|h<;>omega
     have bnd : -10000000000000000≤flo d 146097*400+(d-flo d 146097*146097)/366/\flo d 146097*400+(d-flo d 146097*146097)/366≤10000000000000000:=by
      generalize flo d 146097=q at *
      omega
     have bnd':=okYb_iff.2 bnd
     simp only [q_all,reduceCtorEq,loK,hiK,ne_eq]
     simp only [t1]
     (repeat' first|exact trivial|refine ⟨?_,?_⟩|intro)<;>first|omega|assumption|exact hQ _ rfl
 · cases he
theorem lv123:LoopVOK Tryz.prog (cfgS cfg R4) (Cw cfg []) (lb 123 0) 20 [0,3,4] v123:=by
 intro vs o t Q hv hq J
 unfold v123 at hv
 split at hv
 · rename_i d y m
   cases hv
   obtain ⟨h1,hq'⟩:=asrts_wp hq;clear hq;have hq:=hq';clear hq'
   obtain ⟨h2,hq'⟩:=asrts_wp hq;clear hq;have hq:=hq';clear hq'
   obtain ⟨h3,hq'⟩:=asrts_wp hq;clear hq;have hq:=hq';clear hq'
   rw [q_eq_t] at h2 h3
   subst h2 h3
   have hy:Go.Proofs.YtafekjglclnegaaGreatDoor.okY (yOfR d):=okY_yOf.2 h1
   obtain ⟨s1,s2⟩:=Go.Proofs.YtafekjglclnegaaGreatDoor.yOf_spec d
   have hq:Q (.exit 0,[.int .i64 d,.int .i64 (yOfR d),.int .i64 (mOfR d)],own0):=hq
   refine lvOK R4_ok rfl rfl lok_none (ι:={m:Int // (1≤m/\m≤12)/\mstR' (yOfR d) m≤d}) (fun x=>[.int .i64 d,.int .i64 (yOfR d),.int .i64 x.1]) (fun _=>own0) (fun x=>(13-x.1).toNat) 0 (fun _=>Nat.le_refl _) (fun x J=>?_) (Nat.le_refl _) (fun J=>Wk.refl ⟨⟨1,by omega,by show Go.Proofs.YtafekjglclnegaaGreatDoor.mst _ 1≤d;rw [Go.Proofs.YtafekjglclnegaaGreatDoor.mst_1];exact s1⟩,J,rfl⟩) J
   obtain ⟨m,hm,hd⟩:=x
   dsimp only
   have fin:m=12∨d<mstR' (yOfR d) (m+1)->mOfR d=m:=fun h=>by
    refine Go.Proofs.YtafekjglclnegaaGreatDoor.mOf_unique hm.1 hd ?_
    rcases h with rfl|h
    · show d<Go.Proofs.YtafekjglclnegaaGreatDoor.mst _ 13
      rw [Go.Proofs.YtafekjglclnegaaGreatDoor.mst_next,Go.Proofs.YtafekjglclnegaaGreatDoor.mst_1];exact s2
    · exact h
   refine wp_gen fun Q' hQ=>askA_wp ((r123 d (yOfR d) m J).mpr ?_)
   dsimp only
   have hyb:=okYb_iff.2 hy
   have hy2 : -10000000000000000≤yOfR d/\yOfR d≤10000000000000000:=hy
   simp only [q_all,reduceCtorEq,loK,hiK,ne_eq]
   (repeat' first|exact trivial|refine ⟨?_,?_⟩|intro)<;>first|omega|assumption|refine hQ _ ?_
   · exact ⟨⟨m+1,by omega,by omega⟩,by dsimp only;omega,VW.of_eq rfl rfl⟩
   all_goals
    rw [fin (by omega)] at hq
    exact ⟨_,_,VW.refl,hq⟩
 · cases hv
theorem R5_ok:SumsOK Tryz.prog cfg R5:=by
 refine sums_addP R4_ok fun args t v he hv=>?_
 unfold s123 at he
 split at he
 · rename_i d
   cases he
   obtain ⟨h1,hv⟩:=asrts_run hv
   have h1':=h1
   rw [inCal_iff] at h1
   cases hv
   refine fpOK R4_ok (L:=L123) body123 (by simp) (lok_at loops123 fun i hi e he st Q hw=>?_) (wp_gen fun Q' hQ=>askA_wp ((b123 d).mpr ?_)) (by simp [idsA])
   · have hi:i=0:=by simp at hi;omega
     subst hi
     cases he
     exact loopE_ok (base0.good R4_ok) (by decide) rfl lv123 hw
   · have hy : -10000000000000000≤yOfR d/\yOfR d≤10000000000000000:=okY_yOf.2 h1'
     simp only [q_all,reduceCtorEq,loK,hiK,ne_eq]
     (repeat' first|exact trivial|refine ⟨?_,?_⟩|intro)<;>first|omega|assumption|exact hQ _ rfl
 · cases he
end Go.Ev
end
