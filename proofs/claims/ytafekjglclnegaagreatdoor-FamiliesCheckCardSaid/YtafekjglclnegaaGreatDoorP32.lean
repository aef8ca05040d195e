import Derived.Test.YtafekjglclnegaaGreatDoorP31
set_option linter.all false
set_option maxRecDepth 100000
set_option maxHeartbeats 4000000
namespace Go.Ev
open Go Go.Proofs
def R6:Sums:=addP (addP (addP (addP (addP (addP R5 214 s214) 217 s217) 273 s273) 274 s274) 277 s277) 278 s278
def mo12 (i:Int):Int:=i%12
def s218:Sum:=fun args=>match args with
 | [.int .i64 i]=>some (asrts [inR .i64 i,okYb (flo i 12)] (.ret (.tuple [.int .i64 (mstR' (flo i 12) (mo12 i+1)),.int .i64 (mstR' (flo i 12) (mo12 i+2)-1),.int .i64 0])))
 | _=>none
def R7:Sums:=addP R6 218 s218
def okH (d p:Int):Bool:=intEq p 3 || inCal d
def loH (d p:Int):Int:=bif intEq p 3 then d else bif intEq p 1 then ystR (yOfR d) else mstR' (yOfR d) (mOfR d)
def hiH (d p:Int):Int:=bif intEq p 3 then d else bif intEq p 1 then ystR (yOfR d)+364+lpR (yOfR d) else mstR' (yOfR d) (mOfR d)+mlnR (yOfR d) (mOfR d)-1
def ansH (d p:Int):Tr AV:=.test (intLe 1 p&&intLe p 3) fun b=>bif b then (.test (okH d p) fun c=>bif c then .ret (.tuple [vRun 0 (loH d p) 0 (hiH d p),.int .i64 0]) else .ret (.tuple [vRun 0 0 0 0,.int .i64 6])) else .ret (.tuple [vRun 0 0 0 0,.int .i64 18])
def s65:Sum:=fun args=>match args with
 | [.int .i64 d,.int .i64 p]=>some (asrts [inR .i64 d] (ansH d p))
 | _=>none
def s116:Sum:=fun args=>match args with
 | [.int .i64 d,.int .u8 p]=>some (asrts [inR .i64 d] (ansH d p))
 | _=>none
theorem b218 (i:Int) {Q:AV→Prop}:askA Q (pT R6 noL 218 [.int .i64 i]) (dtN 111002202440211100220244074020)=((fun (u0 u1:Int)=>(fun (u2:Bool) (u3 u4 u5:Int) (u6:Prop)=>(fun (u7:Int) (u8 u9 ua:Prop)=>(fun (ub uc:Prop)=>inR .i64 u0=true∧(u2=true→inR .i64 u3=true∧inR .i64 u4=true∧ub∧(u8→(uc→ub∧u8∧uc∧Q (AV.tuple [AV.int .i64 (mstR' u3 u7),AV.int .i64 (HSub.hSub (mstR' u3 (HAdd.hAdd u7 1)) 1),AV.int .i64 0]))∧(okMb u7=false→False))∧(okYb u3=false→False))∧(u2=false→u9∧(u6→(ua→u9∧u6∧ua∧Q (AV.tuple [AV.int .i64 (mstR' u0 u5),AV.int .i64 (HSub.hSub (mstR' u0 (HAdd.hAdd u5 1)) 1),AV.int .i64 0]))∧(okMb u5=false→False))∧(okYb u0=false→False))) (inR .i64 u7=true) (okMb u7=true)) (Int.add u4 1) (okYb u3=true) (inR .i64 u5=true) (okMb u5=true)) (not (intLe 0 u1)) (Int.sub u0 1) (Int.add u1 12) (Int.add u1 1) (okYb u0=true)) (Int.tdiv i 12) (Int.tmod i 12)):=by kernel_rfl
theorem b65a (d p:Int) {Q:AV→Prop}:askA Q (pT R5 noL 65 [.int .i64 d,.int .i64 p]) (dtN 100231100070007000224003320201000220220200204104201004104324)=((fun (u2 u3:AV) (u0 u1 u4:Bool) (u6 u7:Int) (u5:Prop)=>(fun (u9:AV) (ub ug:Int) (u8 ua uc ud ue uf uh:Prop)=>(fun (uj:Int) (ui:Prop)=>(u8→u8∧u0=false∧(u1=true→ui)∧(u1=false→(intEq p 3=true→Q (AV.tuple [AV.agg [u2,AV.int .i64 d,u2,AV.int .i64 d],u3]))∧(intEq p 3=false→inR .i64 d=true∧(u4=true→Q (AV.tuple [u9,AV.int .i64 6]))∧(u4=false→(intEq p 1=true→u5∧ua∧ua∧inR .i64 ub=true∧uc∧inR .i64 uj=true∧Q (AV.tuple [AV.agg [u2,AV.int .i64 (ystR u6),u2,AV.int .i64 uj],u3]))∧(intEq p 1=false→u5∧u5∧intEq u7 0=false∧not (intLe u7 12)=false∧(ud→ue∧uf∧ud∧ue∧uf∧uc∧inR .i64 ug=true∧inR .i64 (Int.sub ug 1)=true∧Q (AV.tuple [AV.agg [u2,AV.int .i64 (HSub.hSub (HAdd.hAdd (mstR' u6 u7) 1) 1),u2,AV.int .i64 (Int.sub ug 1)],u3]))∧(okYb u6=false→False))))))∧(uh→uh∧u0=true∧ui)) (Int.add ub (lpR u6)) (Q (AV.tuple [u9,AV.int .i64 18]))) (AV.agg [u2,u3,u2,u3]) (Int.add (ystR u6) 364) (Int.add (HSub.hSub (HAdd.hAdd (mstR' u6 u7) 1) 1) (mlnR u6 u7)) (not u0=true) (and (intLe (Neg.neg 10000000000000000) u6) (intLe u6 10000000000000001)=true) (inR .i64 u6=true) (okYb u6=true) (intLe 1 u7=true) (intLe u7 13=true) (not u0=false)) (AV.int .i8 0) (AV.int .i64 0) (not (intLe 1 p)) (not (intLe p 3)) (intEq (cond (inCal d) 1 0) 0) (yOfR d) (mOfR d) (inCal d=true)):=by kernel_rfl
theorem b65b (d p:Int) {Q:AV→Prop}:askA Q (pT R5 noL 65 [.int .i64 d,.int .i64 p]) (dtN 100231301304104201004104324)=((fun (u2 u3:AV) (u0 u1 u4:Bool) (u5:Prop)=>(fun (u7:AV) (u6 u8:Prop)=>(fun (u9:Prop)=>(u6→u6∧u0=false∧(u1=true→u9)∧(u1=false→(intEq p 3=true→Q (AV.tuple [AV.agg [u2,AV.int .i64 d,u2,AV.int .i64 d],u3]))∧(intEq p 3=false→inR .i64 d=true∧(u4=true→Q (AV.tuple [u7,AV.int .i64 6]))∧(u4=false→(intEq p 1=true→u5)∧(intEq p 1=false→u5)))))∧(u8→u8∧u0=true∧u9)) (Q (AV.tuple [u7,AV.int .i64 18]))) (AV.agg [u2,u3,u2,u3]) (not u0=true) (not u0=false)) (AV.int .i8 0) (AV.int .i64 0) (not (intLe 1 p)) (not (intLe p 3)) (intEq (cond (inCal d) 1 0) 0) (inCal d=false∧False)):=by kernel_rfl
theorem b116a (d:Int) {Q:AV→Prop}:askA Q (pT R7 noL 116 [.int .i64 d,.int .u8 1]) (dtN 1105204000220006)=((fun (u0:Prop)=>inR .i64 d=true∧inCal d=true∧(u0→u0∧Q (AV.tuple [AV.agg [AV.int .i8 0,AV.int .i64 (ystR (yOfR d)),AV.int .i8 0,AV.int .i64 (HSub.hSub (ystR (HAdd.hAdd (yOfR d) 1)) 1)],AV.int .i64 0]))∧(okYb (yOfR d)=false→False)) (okYb (yOfR d)=true)):=by kernel_rfl
theorem b116b (d:Int) {Q:AV→Prop}:askA Q (pT R7 noL 116 [.int .i64 d,.int .u8 2]) (dtN 11000420002270006)=((fun (u0:Int)=>(fun (u1:Int)=>(fun (u2:Int)=>(fun (u4:Int) (u3:Prop)=>inR .i64 d=true∧inCal d=true∧inR .i64 u0=true∧inR .i64 u1=true∧u3∧u3∧(okYb u4=true→Q (AV.tuple [AV.agg [AV.int .i8 0,AV.int .i64 (mstR' u4 (HAdd.hAdd (mo12 u2) 1)),AV.int .i8 0,AV.int .i64 (HSub.hSub (mstR' u4 (HAdd.hAdd (mo12 u2) 2)) 1)],AV.int .i64 0]))∧(okYb u4=false→False)) (flo u2 12) (inR .i64 u2=true)) (Int.sub u1 1)) (Int.add u0 (mOfR d))) (Int.mul 12 (yOfR d))):=by kernel_rfl
theorem b116c (d:Int) {Q:AV→Prop}:askA Q (pT R7 noL 116 [.int .i64 d,.int .u8 3]) (dtN 100056)=(Q (AV.tuple [AV.agg [AV.int .i8 0,AV.int .i64 d,AV.int .i8 0,AV.int .i64 d],AV.int .i64 0])):=by kernel_rfl
theorem b116d (d:Int) {Q:AV→Prop}:askA Q (pT R7 noL 116 [.int .i64 d,.int .u8 1]) (dtN 100320006)=(inR .i64 d=true∧inCal d=false∧Q (AV.tuple [AV.agg [AV.int .i8 0,AV.int .i64 0,AV.int .i8 0,AV.int .i64 0],AV.int .i64 6])):=by kernel_rfl
theorem b116e (d:Int) {Q:AV→Prop}:askA Q (pT R7 noL 116 [.int .i64 d,.int .u8 2]) (dtN 105320006)=(inR .i64 d=true∧inCal d=false∧Q (AV.tuple [AV.agg [AV.int .i8 0,AV.int .i64 0,AV.int .i8 0,AV.int .i64 0],AV.int .i64 6])):=by kernel_rfl
theorem b116f (d p:Int) {Q:AV→Prop}:askA Q (pT R7 noL 116 [.int .i64 d,.int .u8 p]) (dtN 100331074)=((fun (u0 u1 u2:Prop)=>(u0→u0∧u0∧not (intLe p 3)=true∧u1)∧(u2→u2∧u2∧u1)) (intLe 1 p=true) (Q (AV.tuple [AV.agg [AV.int .i8 0,AV.int .i64 0,AV.int .i8 0,AV.int .i64 0],AV.int .i64 18])) (intLe 1 p=false)):=by kernel_rfl
theorem body218:bodyOf tab 218=some (fnOf 218,codeOf 218):=by kernel_rfl
theorem body65:bodyOf tab 65=some (fnOf 65,codeOf 65):=by kernel_rfl
theorem body116:bodyOf tab 116=some (fnOf 116,codeOf 116):=by kernel_rfl
theorem R6_ok:SumsOK Tryz.prog cfg R6:=sums_addG (sums_addG (sums_addG (sums_addG (add217 (sums_addG R5_ok (XA10_ok 214 _ rfl))) (XA4_ok 273 _ rfl)) (XA4_ok 274 _ rfl)) (XA6_ok 277 _ rfl)) (XA7_ok 278 _ rfl)
theorem mo12_q {i:Int}:(i.tmod 12<0→i.tmod 12+12=mo12 i)∧(0≤i.tmod 12→i.tmod 12=mo12 i):=by
 obtain ⟨k1,k2⟩:=@flo_q i 12 (by decide)
 have h1:=Int.mul_tdiv_add_tmod i 12
 unfold mo12
 unfold flo at k1 k2
 refine ⟨fun h=>?_,fun h=>?_⟩
 · have:=k1 h;omega
 · have:=k2 h;omega
theorem R7_ok:SumsOK Tryz.prog cfg R7:=by
 refine sums_addP R6_ok fun args t v he hv=>?_
 unfold s218 at he
 split at he
 · rename_i i
   cases he
   obtain ⟨h1,hv⟩:=asrts_run hv
   obtain ⟨h2,hv⟩:=asrts_run hv
   rw [q_inR_t] at h1
   simp only [loK,hiK] at h1
   cases hv
   refine fpOK R6_ok (L:=noL) body218 (by simp) lok_none (wp_gen fun Q' hQ=>askA_wp ((b218 i).mpr ?_)) (by simp [idsA,idsL])
   dsimp only
   obtain ⟨k1,k2⟩:=@flo_q i 12 (by decide)
   obtain ⟨m1,m2⟩:=@mo12_q i
   have tb:=Go.Proofs.YtafekjglclnegaaGreatDoor.tdiv_bd i 12 (by decide) h1.1 h1.2
   have mb:0≤mo12 i∧mo12 i≤11:=by unfold mo12;omega
   have e2:mo12 i+1+1=mo12 i+2:=by omega
   have om:okMb (mo12 i+1)=true:=okMb_iff.2 (by omega)
   by_cases hn:i.tmod 12<0
   · have k1:=k1 hn
     have m1:=m1 hn
     clear k2 m2
     simp only [show Int.sub (i.tdiv 12) 1=i.tdiv 12-1 from rfl,show Int.add (i.tmod 12) 12=i.tmod 12+12 from rfl,k1,m1,show Int.add (mo12 i) 1=mo12 i+1 from rfl,e2]
     simp only [q_all,reduceCtorEq,loK,hiK,ne_eq]
     (repeat' first|exact trivial|refine ⟨?_,?_⟩|intro)<;>first|contradiction|omega|assumption|exact hQ _ rfl|(exfalso;simp_all;done)
   · have k2:=k2 (by omega)
     have m2:=m2 (by omega)
     clear k1 m1
     rw [k2] at tb
     simp only [k2,m2,show Int.add (mo12 i) 1=mo12 i+1 from rfl,e2]
     simp only [q_all,reduceCtorEq,loK,hiK,ne_eq]
     (repeat' first|exact trivial|refine ⟨?_,?_⟩|intro)<;>first|contradiction|omega|assumption|exact hQ _ rfl|(exfalso;simp_all;done)
 · cases he
theorem ans18 {d p:Int} (h:¬(1≤p∧p≤3)):(ansH d p).run=some (.tuple [vRun 0 0 0 0,.int .i64 18]):=by
 have e:(intLe 1 p&&intLe p 3)=false:=by rw [←Bool.not_eq_true,Bool.and_eq_true,q_le_t,q_le_t];exact h
 simp only [ansH,Tr.run,e,cond_false]
theorem ans3 {d:Int}:(ansH d 3).run=some (.tuple [vRun 0 d 0 d,.int .i64 0]):=rfl
theorem okH1 {d p:Int} (h:inCal d=true):okH d p=true:=by unfold okH;rw [h,Bool.or_true]
theorem ans1 {d:Int} (h:inCal d=true):(ansH d 1).run=some (.tuple [vRun 0 (ystR (yOfR d)) 0 (ystR (yOfR d)+364+lpR (yOfR d)),.int .i64 0]):=by
 have e0:(intLe 1 1&&intLe 1 3)=true:=rfl
 simp only [ansH,Tr.run,e0,okH1 h,cond_true]
 rfl
theorem ans2 {d:Int} (h:inCal d=true):(ansH d 2).run=some (.tuple [vRun 0 (mstR' (yOfR d) (mOfR d)) 0 (mstR' (yOfR d) (mOfR d)+mlnR (yOfR d) (mOfR d)-1),.int .i64 0]):=by
 have e0:(intLe 1 2&&intLe 2 3)=true:=rfl
 simp only [ansH,Tr.run,e0,okH1 h,cond_true]
 rfl
theorem ans6 {d p:Int} (h:inCal d=false) (hp:p=1∨p=2):(ansH d p).run=some (.tuple [vRun 0 0 0 0,.int .i64 6]):=by
 have e0:(intLe 1 p&&intLe p 3)=true:=by rw [Bool.and_eq_true,q_le_t,q_le_t];omega
 have e1:okH d p=false:=by unfold okH;rw [h,Bool.or_false,q_eq_f];omega
 simp only [ansH,Tr.run,e0,e1,cond_true,cond_false]
theorem ans_ids {d p:Int} {v:AV} (h:(ansH d p).run=some v):idsA v=[]:=by
 have hc:inCal d=true∨inCal d=false:=by cases inCal d<;>simp
 have hp:¬(1≤p∧p≤3)∨p=1∨p=2∨p=3:=by omega
 have key:∀u,(ansH d p).run=some u→idsA u=[]→idsA v=[]:=fun u hu hi=>by
  rw [hu] at h;cases h;exact hi
 rcases hp with hp|rfl|rfl|rfl
 · exact key _ (ans18 hp) (by simp [idsA,idsL])
 · rcases hc with hc|hc
   · exact key _ (ans1 hc) (by simp [idsA,idsL])
   · exact key _ (ans6 hc (.inl rfl)) (by simp [idsA,idsL])
 · rcases hc with hc|hc
   · exact key _ (ans2 hc) (by simp [idsA,idsL])
   · exact key _ (ans6 hc (.inr rfl)) (by simp [idsA,idsL])
 · exact key _ ans3 (by simp [idsA,idsL])
theorem cal_bd {d:Int} (h:inCal d=true):(-10000000000000000≤yOfR d∧yOfR d≤10000000000000000)∧(1≤mOfR d∧mOfR d≤12)∧(-3652425000000000001≤ystR (yOfR d)∧ystR (yOfR d)≤3652425000000000400)∧(-3652425000000000001≤mstR' (yOfR d) (mOfR d)∧mstR' (yOfR d) (mOfR d)≤3652425000000000800)∧(28≤mlnR (yOfR d) (mOfR d)∧mlnR (yOfR d) (mOfR d)≤31)∧(0≤lpR (yOfR d)∧lpR (yOfR d)≤1):=by
 have hy : -10000000000000000≤yOfR d∧yOfR d≤10000000000000000:=okY_yOf.2 h
 have hm:1≤mOfR d∧mOfR d≤12:=⟨(Go.Proofs.YtafekjglclnegaaGreatDoor.mOf_spec d).1,(Go.Proofs.YtafekjglclnegaaGreatDoor.mOf_spec d).2.1⟩
 exact ⟨hy,hm,Go.Proofs.YtafekjglclnegaaGreatDoor.yst_bd _ hy.1 (by omega),Go.Proofs.YtafekjglclnegaaGreatDoor.mst_bd _ _ hy hm.1 (by omega),Go.Proofs.YtafekjglclnegaaGreatDoor.mlen_bd _ _,Go.Proofs.YtafekjglclnegaaGreatDoor.lp_01 _⟩
theorem f65 {d p:Int} {v:AV} (hd : -9223372036854775808≤d∧d≤9223372036854775807) (hv:(ansH d p).run=some v):FactW Tryz.prog cfg 65 [.int .i64 d,.int .i64 p] [] v []:=by
 cases hc:inCal d with
 | true=>
   obtain ⟨hY,hM,c1,c2,c3,c4⟩:=cal_bd hc
   refine fpOK R5_ok (L:=noL) body65 (by simp) lok_none (wp_gen fun Q' hQ=>askA_wp ((b65a d p).mpr ?_)) (ans_ids hv)
   dsimp only
   have fin:∀u,(ansH d p).run=some u→Q' u:=fun u hu=>hQ _ (Option.some.inj (hu.symm.trans hv))
   have hyb:=okYb_iff.2 hY
   clear hQ hv
   simp only [hc,cond_true]
   have hp:¬(1≤p∧p≤3)∨p=1∨p=2∨p=3:=by omega
   have e1:mstR' (yOfR d) (mOfR d)+1-1=mstR' (yOfR d) (mOfR d):=by omega
   rcases hp with hp|rfl|rfl|rfl
   · have k:=fin _ (ans18 hp)
     simp only [q_all,reduceCtorEq,loK,hiK,ne_eq]
     (repeat' first|exact trivial|refine ⟨?_,?_⟩|intro)<;>first|contradiction|omega|assumption|(exfalso;simp_all;done)
   · have k:=fin _ (ans1 hc)
     simp only [q_all,reduceCtorEq,loK,hiK,ne_eq]
     (repeat' first|exact trivial|refine ⟨?_,?_⟩|intro)<;>first|contradiction|omega|assumption|(exfalso;simp_all;done)
   · have k:=fin _ (ans2 hc)
     simp only [e1]
     simp only [q_all,reduceCtorEq,loK,hiK,ne_eq]
     (repeat' first|exact trivial|refine ⟨?_,?_⟩|intro)<;>first|contradiction|omega|assumption|(exfalso;simp_all;done)
   · have k:=fin _ ans3
     simp only [q_all,reduceCtorEq,loK,hiK,ne_eq]
     (repeat' first|exact trivial|refine ⟨?_,?_⟩|intro)<;>first|contradiction|omega|assumption|(exfalso;simp_all;done)
 | false=>
   refine fpOK R5_ok (L:=noL) body65 (by simp) lok_none (wp_gen fun Q' hQ=>askA_wp ((b65b d p).mpr ?_)) (ans_ids hv)
   dsimp only
   have fin:∀u,(ansH d p).run=some u→Q' u:=fun u hu=>hQ _ (Option.some.inj (hu.symm.trans hv))
   clear hQ hv
   simp only [hc,cond_false]
   have hp:¬(1≤p∧p≤3)∨(p=1∨p=2)∨p=3:=by omega
   rcases hp with hp|hp|rfl
   · have k:=fin _ (ans18 hp)
     simp only [q_all,reduceCtorEq,loK,hiK,ne_eq]
     (repeat' first|exact trivial|refine ⟨?_,?_⟩|intro)<;>first|contradiction|omega|assumption|(exfalso;simp_all;done)
   · have k:=fin _ (ans6 hc hp)
     simp only [q_all,reduceCtorEq,loK,hiK,ne_eq]
     (repeat' first|exact trivial|refine ⟨?_,?_⟩|intro)<;>first|contradiction|omega|assumption|(exfalso;simp_all;done)
   · have k:=fin _ ans3
     simp only [q_all,reduceCtorEq,loK,hiK,ne_eq]
     (repeat' first|exact trivial|refine ⟨?_,?_⟩|intro)<;>first|contradiction|omega|assumption|(exfalso;simp_all;done)
theorem f116 {d p:Int} {v:AV} (hd : -9223372036854775808≤d∧d≤9223372036854775807) (hv:(ansH d p).run=some v):FactW Tryz.prog cfg 116 [.int .i64 d,.int .u8 p] [] v []:=by
 have ids:=ans_ids hv
 have hp:¬(1≤p∧p≤3)∨p=1∨p=2∨p=3:=by omega
 rcases hp with hp|rfl|rfl|rfl
 · refine fpOK R7_ok (L:=noL) body116 (by simp) lok_none (wp_gen fun Q' hQ=>askA_wp ((b116f d p).mpr ?_)) ids
   dsimp only
   have fin:∀u,(ansH d p).run=some u→Q' u:=fun u hu=>hQ _ (Option.some.inj (hu.symm.trans hv))
   simp only [q_all,reduceCtorEq,loK,hiK,ne_eq]
   (repeat' first|exact trivial|refine ⟨?_,?_⟩|intro)<;>first|contradiction|omega|assumption|exact fin _ (ans18 hp)
 · cases hc:inCal d with
   | true=>
     obtain ⟨hY,hM,c1,c2,c3,c4⟩:=cal_bd hc
     refine fpOK R7_ok (L:=noL) body116 (by simp) lok_none (wp_gen fun Q' hQ=>askA_wp ((b116a d).mpr ?_)) ids
     dsimp only
     have fin:∀u,(ansH d 1).run=some u→Q' u:=fun u hu=>hQ _ (Option.some.inj (hu.symm.trans hv))
     have hyb:=okYb_iff.2 hY
     have e:ystR (yOfR d+1)-1=ystR (yOfR d)+364+lpR (yOfR d):=by
      have:ystR (yOfR d+1)=ystR (yOfR d)+365+lpR (yOfR d):=Go.Proofs.YtafekjglclnegaaGreatDoor.yst_succ _
      omega
     rw [e]
     simp only [q_all,reduceCtorEq,loK,hiK,ne_eq]
     (repeat' first|exact trivial|refine ⟨?_,?_⟩|intro)<;>first|contradiction|omega|assumption|exact fin _ (ans1 hc)|(exfalso;simp_all;done)
   | false=>
     refine fpOK R7_ok (L:=noL) body116 (by simp) lok_none (wp_gen fun Q' hQ=>askA_wp ((b116d d).mpr ?_)) ids
     have fin:∀u,(ansH d 1).run=some u→Q' u:=fun u hu=>hQ _ (Option.some.inj (hu.symm.trans hv))
     simp only [q_all,reduceCtorEq,loK,hiK,ne_eq]
     (repeat' first|exact trivial|refine ⟨?_,?_⟩|intro)<;>first|contradiction|omega|assumption|exact fin _ (ans6 hc (.inl rfl))
 · cases hc:inCal d with
   | true=>
     obtain ⟨hY,hM,c1,c2,c3,c4⟩:=cal_bd hc
     refine fpOK R7_ok (L:=noL) body116 (by simp) lok_none (wp_gen fun Q' hQ=>askA_wp ((b116b d).mpr ?_)) ids
     dsimp only
     have fin:∀u,(ansH d 2).run=some u→Q' u:=fun u hu=>hQ _ (Option.some.inj (hu.symm.trans hv))
     have hyb:=okYb_iff.2 hY
     have e1:flo (Int.sub (Int.add (Int.mul 12 (yOfR d)) (mOfR d)) 1) 12=yOfR d:=by
      show (12*yOfR d+mOfR d-1)/12=yOfR d
      omega
     have e2:mo12 (Int.sub (Int.add (Int.mul 12 (yOfR d)) (mOfR d)) 1)=mOfR d-1:=by
      show (12*yOfR d+mOfR d-1)%12=mOfR d-1
      omega
     have e3:mstR' (yOfR d) (mOfR d+1)-1=mstR' (yOfR d) (mOfR d)+mlnR (yOfR d) (mOfR d)-1:=by
      have:mstR' (yOfR d) (mOfR d+1)=mstR' (yOfR d) (mOfR d)+mlnR (yOfR d) (mOfR d):=Go.Proofs.YtafekjglclnegaaGreatDoor.mst_succ _ _ hM.1 hM.2
      omega
     rw [e1,e2,show mOfR d-1+1=mOfR d by omega,show mOfR d-1+2=mOfR d+1 by omega,e3]
     simp only [q_all,reduceCtorEq,loK,hiK,ne_eq]
     (repeat' first|exact trivial|refine ⟨?_,?_⟩|intro)<;>first|contradiction|omega|assumption|exact fin _ (ans2 hc)|(exfalso;simp_all;done)
   | false=>
     refine fpOK R7_ok (L:=noL) body116 (by simp) lok_none (wp_gen fun Q' hQ=>askA_wp ((b116e d).mpr ?_)) ids
     have fin:∀u,(ansH d 2).run=some u→Q' u:=fun u hu=>hQ _ (Option.some.inj (hu.symm.trans hv))
     simp only [q_all,reduceCtorEq,loK,hiK,ne_eq]
     (repeat' first|exact trivial|refine ⟨?_,?_⟩|intro)<;>first|contradiction|omega|assumption|exact fin _ (ans6 hc (.inr rfl))
 · refine fpOK R7_ok (L:=noL) body116 (by simp) lok_none (wp_gen fun Q' hQ=>askA_wp ((b116c d).mpr ?_)) ids
   exact hQ _ (Option.some.inj (ans3.symm.trans hv))
theorem add65 {S:Sums} (hS:SumsOK Tryz.prog cfg S):SumsOK Tryz.prog cfg (addP S 65 s65):=sums_addP hS fun args t v he hv=>by
 unfold s65 at he
 split at he
 · cases he
   obtain ⟨h1,hv⟩:=asrts_run hv
   rw [q_inR_t] at h1
   simp only [loK,hiK] at h1
   exact f65 h1 hv
 · cases he
theorem add116 {S:Sums} (hS:SumsOK Tryz.prog cfg S):SumsOK Tryz.prog cfg (addP S 116 s116):=sums_addP hS fun args t v he hv=>by
 unfold s116 at he
 split at he
 · cases he
   obtain ⟨h1,hv⟩:=asrts_run hv
   rw [q_inR_t] at h1
   simp only [loK,hiK] at h1
   exact f116 h1 hv
 · cases he
end Go.Ev
