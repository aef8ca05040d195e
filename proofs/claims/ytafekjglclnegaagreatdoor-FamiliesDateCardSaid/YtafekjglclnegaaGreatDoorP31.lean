import Derived.Test.YtafekjglclnegaaGreatDoorP30
import Derived.Test.YtafekjglclnegaaGreatDoorP29
set_option linter.all false
set_option maxRecDepth 100000
set_option maxHeartbeats 4000000
namespace Go.Ev
open Go Go.Proofs
def R6:Sums:=addP (addP (addP (addP (addP (addP R5 214 s214) 217 s217) 273 s273) 274 s274) 277 s277) 278 s278
def mo12 (i:Int):Int:=i%12
def s218:Sum:=fun args=>match args with
 | [.int .i64 i]=>some (asrts [inR .i64 i,okYb (flo i 12)] (.ret (.tuple [.int .i64 (mstR' (flo i 12) (mo12 i+1)),.int .i64 (mstR' (flo i 12) (mo12 i+2)-1),.int .i64 0])))
 | _=>none
def R7:Sums:=addP R6 218 s218
def okH (d p:Int):Bool:=intEq p 3 || inCal d
def loH (d p:Int):Int:=bif intEq p 3 then d else bif intEq p 1 then ystR (yOfR d) else mstR' (yOfR d) (mOfR d)
def hiH (d p:Int):Int:=bif intEq p 3 then d else bif intEq p 1 then ystR (yOfR d)+364+lpR (yOfR d) else mstR' (yOfR d) (mOfR d)+mlnR (yOfR d) (mOfR d)-1
def ansH (d p:Int):Tr AV:=.test (intLe 1 p&&intLe p 3) fun b=>bif b then (.test (okH d p) fun c=>bif c then .ret (.tuple [vRun 0 (loH d p) 0 (hiH d p),.int .i64 0]) else .ret (.tuple [vRun 0 0 0 0,.int .i64 6])) else .ret (.tuple [vRun 0 0 0 0,.int .i64 18])
def s116:Sum:=fun args=>match args with
 | [.int .i64 d,.int .u8 p]=>some (asrts [inR .i64 d] (ansH d p))
 | _=>none
theorem b218 (i:Int) {Q:AV->Prop}:askA Q (pT R6 noL 218 [.int .i64 i]) (dtN 111002202440211100220244074020)=((fun (u0 u1:Int)=>(fun (u2:Bool) (u3 u4 u5:Int) (u6:Prop)=>(fun (u7:Int) (u8 u9 ua:Prop)=>(fun (ub uc:Prop)=>inR .i64 u0=true/\(u2=true->inR .i64 u3=true/\inR .i64 u4=true/\ub/\(u8->(uc->ub/\u8/\uc/\Q (AV.tuple [AV.int .i64 (mstR' u3 u7),AV.int .i64 (HSub.hSub (mstR' u3 (HAdd.hAdd u7 1)) 1),AV.int .i64 0]))/\(okMb u7=false->False))/\(okYb u3=false->False))/\(u2=false->u9/\(u6->(ua->u9/\u6/\ua/\Q (AV.tuple [AV.int .i64 (mstR' u0 u5),AV.int .i64 (HSub.hSub (mstR' u0 (HAdd.hAdd u5 1)) 1),AV.int .i64 0]))/\(okMb u5=false->False))/\(okYb u0=false->False))) (inR .i64 u7=true) (okMb u7=true)) (Int.add u4 1) (okYb u3=true) (inR .i64 u5=true) (okMb u5=true)) (not (intLe 0 u1)) (Int.sub u0 1) (Int.add u1 12) (Int.add u1 1) (okYb u0=true)) (Int.tdiv i 12) (Int.tmod i 12)):=by kernel_rfl
theorem b116a (d:Int) {Q:AV->Prop}:askA Q (pT R7 noL 116 [.int .i64 d,.int .u8 1]) (dtN 1105204000220006)=((fun (u0:Prop)=>inR .i64 d=true/\inCal d=true/\(u0->u0/\Q (AV.tuple [AV.agg [AV.int .i8 0,AV.int .i64 (ystR (yOfR d)),AV.int .i8 0,AV.int .i64 (HSub.hSub (ystR (HAdd.hAdd (yOfR d) 1)) 1)],AV.int .i64 0]))/\(okYb (yOfR d)=false->False)) (okYb (yOfR d)=true)):=by kernel_rfl
theorem b116b (d:Int) {Q:AV->Prop}:askA Q (pT R7 noL 116 [.int .i64 d,.int .u8 2]) (dtN 11000420002270006)=((fun (u0:Int)=>(fun (u1:Int)=>(fun (u2:Int)=>(fun (u4:Int) (u3:Prop)=>inR .i64 d=true/\inCal d=true/\inR .i64 u0=true/\inR .i64 u1=true/\u3/\u3/\(okYb u4=true->Q (AV.tuple [AV.agg [AV.int .i8 0,AV.int .i64 (mstR' u4 (HAdd.hAdd (mo12 u2) 1)),AV.int .i8 0,AV.int .i64 (HSub.hSub (mstR' u4 (HAdd.hAdd (mo12 u2) 2)) 1)],AV.int .i64 0]))/\(okYb u4=false->False)) (flo u2 12) (inR .i64 u2=true)) (Int.sub u1 1)) (Int.add u0 (mOfR d))) (Int.mul 12 (yOfR d))):=by kernel_rfl
theorem b116c (d:Int) {Q:AV->Prop}:askA Q (pT R7 noL 116 [.int .i64 d,.int .u8 3]) (dtN 100056)=(Q (AV.tuple [AV.agg [AV.int .i8 0,AV.int .i64 d,AV.int .i8 0,AV.int .i64 d],AV.int .i64 0])):=by kernel_rfl
theorem b116d (d:Int) {Q:AV->Prop}:askA Q (pT R7 noL 116 [.int .i64 d,.int .u8 1]) (dtN 100320006)=(inR .i64 d=true/\inCal d=false/\Q (AV.tuple [AV.agg [AV.int .i8 0,AV.int .i64 0,AV.int .i8 0,AV.int .i64 0],AV.int .i64 6])):=by kernel_rfl
theorem b116e (d:Int) {Q:AV->Prop}:askA Q (pT R7 noL 116 [.int .i64 d,.int .u8 2]) (dtN 105320006)=(inR .i64 d=true/\inCal d=false/\Q (AV.tuple [AV.agg [AV.int .i8 0,AV.int .i64 0,AV.int .i8 0,AV.int .i64 0],AV.int .i64 6])):=by kernel_rfl
theorem b116f (d p:Int) {Q:AV->Prop}:askA Q (pT R7 noL 116 [.int .i64 d,.int .u8 p]) (dtN 100331074)=((fun (u0 u1 u2:Prop)=>(u0->u0/\u0/\not (intLe p 3)=true/\u1)/\(u2->u2/\u2/\u1)) (intLe 1 p=true) (Q (AV.tuple [AV.agg [AV.int .i8 0,AV.int .i64 0,AV.int .i8 0,AV.int .i64 0],AV.int .i64 18])) (intLe 1 p=false)):=by kernel_rfl
theorem body218:bodyOf tab 218=some (fnOf 218,codeOf 218):=by kernel_rfl
theorem body116:bodyOf tab 116=some (fnOf 116,codeOf 116):=by kernel_rfl
theorem R6_ok:SumsOK Tryz.prog cfg R6:=sums_addG (sums_addG (sums_addG (sums_addG (add217 (sums_addG R5_ok (XA10_ok 214 _ rfl))) (XA4_ok 273 _ rfl)) (XA4_ok 274 _ rfl)) (XA6_ok 277 _ rfl)) (XA7_ok 278 _ rfl)
theorem mo12_q {i:Int}:(i.tmod 12<0->i.tmod 12+12=mo12 i)/\(0≤i.tmod 12->i.tmod 12=mo12 i):=by
 obtain ⟨k1,k2⟩:=@flo_q i 12 (by decide)
 have h1:=Int.mul_tdiv_add_tmod i 12
 unfold mo12
 unfold flo at k1 k2
 refine ⟨fun h=>?_,fun h=>?_⟩
 · have:=k1 h;omega
 · have:=k2 h;omega
theorem R7_ok:SumsOK Tryz.prog cfg R7:=by
 refine sums_addP R6_ok fun args t v he hv=>?_
 unfold s218 at he
 split at he
 · rename_i i
   cases he
   obtain ⟨h1,hv⟩:=asrts_run hv
   obtain ⟨h2,hv⟩:=asrts_run hv
   rw [q_inR_t] at h1
   simp only [loK,hiK] at h1
   cases hv
   refine fpOK R6_ok (L:=noL) body218 (by simp) lok_none (wp_gen fun Q' hQ=>askA_wp ((b218 i).mpr ?_)) (by simp [idsA,idsL])
   dsimp only
   obtain ⟨k1,k2⟩:=@flo_q i 12 (by decide)
   obtain ⟨m1,m2⟩:=@mo12_q i
   have tb:=Go.Proofs.YtafekjglclnegaaGreatDoor.tdiv_bd i 12 (by decide) h1.1 h1.2
   have mb:0≤mo12 i/\mo12 i≤11:=by unfold mo12;omega
   have e2:mo12 i+1+1=mo12 i+2:=by omega
   have om:okMb (mo12 i+1)=true:=okMb_iff.2 (by omega)
   by_cases hn:i.tmod 12<0
   · have k1:=k1 hn
     have m1:=m1 hn
     clear k2 m2
     simp only [show Int.sub (i.tdiv 12) 1=i.tdiv 12-1 from rfl,show Int.add (i.tmod 12) 12=i.tmod 12+12 from rfl,k1,m1,show Int.add (mo12 i) 1=mo12 i+1 from rfl,e2]
     simp only [q_all,reduceCtorEq,loK,hiK,ne_eq]
     (repeat' first|exact trivial|refine ⟨?_,?_⟩|intro)<;>first|contradiction|omega|assumption|exact hQ _ rfl|(exfalso;simp_all;done)
   · have k2:=k2 (by omega)
     have m2:=m2 (by omega)
     clear k1 m1
     rw [k2] at tb
     simp only [k2,m2,show Int.add (mo12 i) 1=mo12 i+1 from rfl,e2]
     simp only [q_all,reduceCtorEq,loK,hiK,ne_eq]
     (repeat' first|exact trivial|refine ⟨?_,?_⟩|intro)<;>first|contradiction|omega|assumption|exact hQ _ rfl|(exfalso;simp_all;done)
 · cases he
theorem ans18 {d p:Int} (h:¬(1≤p/\p≤3)):(ansH d p).run=some (.tuple [vRun 0 0 0 0,.int .i64 18]):=by
 have e:(intLe 1 p&&intLe p 3)=false:=by rw [←Bool.not_eq_true,Bool.and_eq_true,q_le_t,q_le_t];exact h
 simp only [ansH,Tr.run,e,cond_false]
theorem ans3 {d:Int}:(ansH d 3).run=some (.tuple [vRun 0 d 0 d,.int .i64 0]):=rfl
theorem okH1 {d p:Int} (h:inCal d=true):okH d p=true:=by unfold okH;rw [h,Bool.or_true]
theorem ans1 {d:Int} (h:inCal d=true):(ansH d 1).run=some (.tuple [vRun 0 (ystR (yOfR d)) 0 (ystR (yOfR d)+364+lpR (yOfR d)),.int .i64 0]):=by
 have e0:(intLe 1 1&&intLe 1 3)=true:=rfl
 simp only [ansH,Tr.run,e0,okH1 h,cond_true]
 rfl
theorem ans2 {d:Int} (h:inCal d=true):(ansH d 2).run=some (.tuple [vRun 0 (mstR' (yOfR d) (mOfR d)) 0 (mstR' (yOfR d) (mOfR d)+mlnR (yOfR d) (mOfR d)-1),.int .i64 0]):=by
 have e0:(intLe 1 2&&intLe 2 3)=true:=rfl
 simp only [ansH,Tr.run,e0,okH1 h,cond_true]
 rfl
theorem ans6 {d p:Int} (h:inCal d=false) (hp:p=1∨p=2):(ansH d p).run=some (.tuple [vRun 0 0 0 0,.int .i64 6]):=by
 have e0:(intLe 1 p&&intLe p 3)=true:=by rw [Bool.and_eq_true,q_le_t,q_le_t];omega
 have e1:okH d p=false:=by unfold okH;rw [h,Bool.or_false,q_eq_f];omega
 simp only [ansH,Tr.run,e0,e1,cond_true,cond_false]
theorem ans_ids {d p:Int} {v:AV} (h:(ansH d p).run=some v):idsA v=[]:=by
 have hc:inCal d=true∨inCal d=false:=by cases inCal d<;>simp
 have hp:¬(1≤p/\p≤3)∨p=1∨p=2∨p=3:=by omega
 have key:∀u,(ansH d p).run=some u->idsA u=[]->idsA v=[]:=fun u hu hi=>by
  rw [hu] at h;cases h;exact hi
 rcases hp with hp|rfl|rfl|rfl
 · exact key _ (ans18 hp) (by simp [idsA,idsL])
 · rcases hc with hc|hc
   · exact key _ (ans1 hc) (by simp [idsA,idsL])
   · exact key _ (ans6 hc (.inl rfl)) (by simp [idsA,idsL])
 · rcases hc with hc|hc
   · exact key _ (ans2 hc) (by simp [idsA,idsL])
   · exact key _ (ans6 hc (.inr rfl)) (by simp [idsA,idsL])
 · exact key _ ans3 (by simp [idsA,idsL])
theorem cal_bd {d:Int} (h:inCal d=true):(-10000000000000000≤yOfR d/\yOfR d≤10000000000000000)/\(1≤mOfR d/\mOfR d≤12)/\(-3652425000000000001≤ystR (yOfR d)/\ystR (yOfR d)≤3652425000000000400)/\(-3652425000000000001≤mstR' (yOfR d) (mOfR d)/\mstR' (yOfR d) (mOfR d)≤3652425000000000800)/\(28≤mlnR (yOfR d) (mOfR d)/\mlnR (yOfR d) (mOfR d)≤31)/\(0≤lpR (yOfR d)/\lpR (yOfR d)≤1):=by
 have hy : -10000000000000000≤yOfR d/\yOfR d≤10000000000000000:=okY_yOf.2 h
 have hm:1≤mOfR d/\mOfR d≤12:=⟨(Go.Proofs.YtafekjglclnegaaGreatDoor.mOf_spec d).1,(Go.Proofs.YtafekjglclnegaaGreatDoor.mOf_spec d).2.1⟩
 exact ⟨hy,hm,Go.Proofs.YtafekjglclnegaaGreatDoor.yst_bd _ hy.1 (by omega),Go.Proofs.YtafekjglclnegaaGreatDoor.mst_bd _ _ hy hm.1 (by omega),Go.Proofs.YtafekjglclnegaaGreatDoor.mlen_bd _ _,Go.Proofs.YtafekjglclnegaaGreatDoor.lp_01 _⟩
theorem f116 {d p:Int} {v:AV} (hd : -9223372036854775808≤d/\d≤9223372036854775807) (hv:(ansH d p).run=some v):FactW Tryz.prog cfg 116 [.int .i64 d,.int .u8 p] [] v []:=by
 have ids:=ans_ids hv
 have hp:¬(1≤p/\p≤3)∨p=1∨p=2∨p=3:=by omega
 rcases hp with hp|rfl|rfl|rfl
 · refine fpOK R7_ok (L:=noL) body116 (by simp) lok_none (wp_gen fun Q' hQ=>askA_wp ((b116f d p).mpr ?_)) ids
   dsimp only
   have fin:∀u,(ansH d p).run=some u->Q' u:=fun u hu=>hQ _ (Option.some.inj (hu.symm.trans hv))
   simp only [q_all,reduceCtorEq,loK,hiK,ne_eq]
   (repeat' first|exact trivial|refine ⟨?_,?_⟩|intro)<;>first|contradiction|omega|assumption|exact fin _ (ans18 hp)
 · cases hc:inCal d with
   | true=>
     obtain ⟨hY,hM,c1,c2,c3,c4⟩:=cal_bd hc
     refine fpOK R7_ok (L:=noL) body116 (by simp) lok_none (wp_gen fun Q' hQ=>askA_wp ((b116a d).mpr ?_)) ids
     dsimp only
     have fin:∀u,(ansH d 1).run=some u->Q' u:=fun u hu=>hQ _ (Option.some.inj (hu.symm.trans hv))
     have hyb:=okYb_iff.2 hY
     have e:ystR (yOfR d+1)-1=ystR (yOfR d)+364+lpR (yOfR d):=by
      have:ystR (yOfR d+1)=ystR (yOfR d)+365+lpR (yOfR d):=Go.Proofs.YtafekjglclnegaaGreatDoor.yst_succ _
      omega
     rw [e]
     simp only [q_all,reduceCtorEq,loK,hiK,ne_eq]
     (repeat' first|exact trivial|refine ⟨?_,?_⟩|intro)<;>first|contradiction|omega|assumption|exact fin _ (ans1 hc)|(exfalso;simp_all;done)
   | false=>
     refine fpOK R7_ok (L:=noL) body116 (by simp) lok_none (wp_gen fun Q' hQ=>askA_wp ((b116d d).mpr ?_)) ids
     have fin:∀u,(ansH d 1).run=some u->Q' u:=fun u hu=>hQ _ (Option.some.inj (hu.symm.trans hv))
     simp only [q_all,reduceCtorEq,loK,hiK,ne_eq]
     (repeat' first|exact trivial|refine ⟨?_,?_⟩|intro)<;>first|contradiction|omega|assumption|exact fin _ (ans6 hc (.inl rfl))
 · cases hc:inCal d with
   | true=>
     obtain ⟨hY,hM,c1,c2,c3,c4⟩:=cal_bd hc
     refine fpOK R7_ok (L:=noL) body116 (by simp) lok_none (wp_gen fun Q' hQ=>askA_wp ((b116b d).mpr ?_)) ids
     dsimp only
     have fin:∀u,(ansH d 2).run=some u->Q' u:=fun u hu=>hQ _ (Option.some.inj (hu.symm.trans hv))
     have hyb:=okYb_iff.2 hY
     have e1:flo (Int.sub (Int.add (Int.mul 12 (yOfR d)) (mOfR d)) 1) 12=yOfR d:=by
      show (12*yOfR d+mOfR d-1)/12=yOfR d
      omega
     have e2:mo12 (Int.sub (Int.add (Int.mul 12 (yOfR d)) (mOfR d)) 1)=mOfR d-1:=by
      show (12*yOfR d+mOfR d-1)%12=mOfR d-1
      omega
     have e3:mstR' (yOfR d) (mOfR d+1)-1=mstR' (yOfR d) (mOfR d)+mlnR (yOfR d) (mOfR d)-1:=by
      have:mstR' (yOfR d) (mOfR d+1)=mstR' (yOfR d) (mOfR d)+mlnR (yOfR d) (mOfR d):=Go.Proofs.YtafekjglclnegaaGreatDoor.mst_succ _ _ hM.1 hM.2
      omega
     rw [e1,e2,show mOfR d-1+1=mOfR d by omega,show mOfR d-1+2=mOfR d+1 by omega,e3]
     simp only [q_all,reduceCtorEq,loK,hiK,ne_eq]
     (repeat' first|exact trivial|refine ⟨?_,?_⟩|intro)<;>first|contradiction|omega|assumption|exact fin _ (ans2 hc)|(exfalso;simp_all;done)
   | false=>
     refine fpOK R7_ok (L:=noL) body116 (by simp) lok_none (wp_gen fun Q' hQ=>askA_wp ((b116e d).mpr ?_)) ids
     have fin:∀u,(ansH d 2).run=some u->Q' u:=fun u hu=>hQ _ (Option.some.inj (hu.symm.trans hv))
     simp only [q_all,reduceCtorEq,loK,hiK,ne_eq]
     (repeat' first|exact trivial|refine ⟨?_,?_⟩|intro)<;>first|contradiction|omega|assumption|exact fin _ (ans6 hc (.inr rfl))
 · refine fpOK R7_ok (L:=noL) body116 (by simp) lok_none (wp_gen fun Q' hQ=>askA_wp ((b116c d).mpr ?_)) ids
   exact hQ _ (Option.some.inj (ans3.symm.trans hv))
theorem add116 {S:Sums} (hS:SumsOK Tryz.prog cfg S):SumsOK Tryz.prog cfg (addP S 116 s116):=sums_addP hS fun args t v he hv=>by
 unfold s116 at he
 split at he
 · cases he
   obtain ⟨h1,hv⟩:=asrts_run hv
   rw [q_inR_t] at h1
   simp only [loK,hiK] at h1
   exact f116 h1 hv
 · cases he
def inYB (ng:Bool) (s:List UInt8) (e k:Int):Bool:=bif Nat.beq (hasN s 88 88) 0 then intEq k (valR ng s e) else match s with|[c0,c1,c2,c3]=>(bif ng then intLe 1 (-k)&&decide (inM c0 c1 c2 c3 (-k)) else decide (inM c0 c1 c2 c3 k))|_=>false
def okYbR (y:Int):Bool:=intLe (-10000000000000000) y&&intLe y 10000000000000000
def s128:Sum:=fun args=>match args with
 | [.agg [.bool ng,.bool lg,.str s,.int .i64 e,.int .i64 g],.int .i64 n]=>some (asrts [intEq g 0,okY14 ng lg s e g,Nat.ble s.length 1000,okX s,okYbR n] (.ret (.int .i64 (bI (inYB ng s e n)))))
 | _=>none
def s127:Sum:=fun args=>match args with
 | [.agg [.bool ng,.bool lg,.str s,.int .i64 e,.int .i64 g]]=>some (asrts [intEq g 0,okY14 ng lg s e g,Nat.ble s.length 1000,okX s] (.ret (.tuple [.int .i64 (loY ng s e),.int .i64 (hiY ng s e)])))
 | _=>none
def dOK (s:List UInt8) (n:Int) (j:Nat):Bool:=(List.range j).all fun k=>decide (mt (s.getD (3-k) 0) (n/10^k%10))
def v128:LoopV:=fun vs o=>match vs,o with
 | [.int .i64 n,.ptr 14 0,.int .i64 z,.int .i64 i],⟨1,[.cells [.bool ng,.bool lg,.str s,.int .i64 e,.int .i64 g] true none],[]⟩=>some (asrts [intEq z 0,intEq i 3,Nat.beq s.length 4,intLe 0 n,intLe n 10000000000000000] (.test (dOK s n 4) fun b=>bif b then .ret (.exit 0,[.int .i64 (n/10000),.ptr 14 0,.int .i64 0,.int .i64 (-1)],o) else .all fun J=>.ret (.ret,[.any (J 0),.ptr 14 0,.int .i64 0,.any (J 1)],o)))
 | _,_=>none
def L128:Loops:=addL noL 0 (loopE 92 [1,2,4,5] v128)
def z4:List UInt8:=[48,48,48,48]
def xd (v c:UInt8):UInt8:=bif Nat.beq c.toNat 88 then v else c
def lowX (s:List UInt8):List UInt8:=s.map (xd 48)
def hiX (s:List UInt8):List UInt8:=s.map (xd 57)
def lowS (s:List UInt8):Nat->List UInt8
 | 0=>z4
 | i+1=>bif Nat.beq (s.getD i 0).toNat 88 then z4.take i++[49]++z4.drop (i+1) else lowS s i
def v127a:LoopV:=fun vs o=>match vs,o with
 | [.ptr 14 0,.str [],.str [],.int .i64 i],⟨1,[.cells [.bool ng,.bool lg,.str s,.int .i64 e,.int .i64 g] true none],[]⟩=>some (asrts [intEq i 0,Nat.beq s.length 4] (.ret (.exit 0,[.ptr 14 0,.str (lowX s),.str (hiX s),.int .i64 4],o)))
 | _,_=>none
def v127b:LoopV:=fun vs o=>match vs,o with
 | [.ptr 14 0,.str l,.str h,.int .i64 i],⟨1,[.cells [.bool ng,.bool lg,.str s,.int .i64 e,.int .i64 g] true none],[]⟩=>some (asrts [intEq i 0,Nat.beq s.length 4,bytesEq l [48,48,48,48]] (.ret (.exit 2,[.ptr 14 0,.str (lowS s 4),.str h,.int .i64 4],o)))
 | _,_=>none
def L127:Loops:=addL (addL noL 0 (loopE 117 [1,4,5,6] v127a)) 2 (loopE 117 [1,4,5,9] v127b)
theorem r128 (ng lg:Bool) (s:List UInt8) (e g n i:Int) (J:Nat->Value) {Q:VQ->Prop}:askA Q (rT T9 noL [] 128 0 92 [1,2,4,5] [.int .i64 n,.ptr 14 0,.int .i64 0,.int .i64 i] J ⟨1,[.cells [.bool ng,.bool lg,.str s,.int .i64 e,.int .i64 g] true none],[]⟩) (dtN 112200888122014770770242204)=((fun (u2 u3:Int) (u0 u1 u4:Prop)=>(fun (u5 u6:Bool)=>(fun (u7 u8:Prop)=>(u0->u0/\u1/\(u7->u7/\u7/\u7/\u0/\u1/\u7/\u7/\u7/\inR .i64 u3=true/\u7/\inR .u8 u3=true/\u7/\u7/\(u6=true->Q (AX.ret,([AV.int .i64 n,AV.ptr 14 0,AV.int .i64 0,AV.int .i64 i],{ n:=1,os:=[AObj.cells [AV.bool ng,AV.bool lg,AV.str s,AV.int .i64 e,AV.int .i64 g] true Option.none],le:=[] })))/\(u6=false->u4))/\(u8->u8/\u8/\u8/\u8/\u8/\u8/\u8/\u8/\u8/\u4))/\(intLe 0 i=false->Q (AX.exit 0,([AV.int .i64 n,AV.ptr 14 0,AV.int .i64 0,AV.int .i64 i],{ n:=1,os:=[AObj.cells [AV.bool ng,AV.bool lg,AV.str s,AV.int .i64 e,AV.int .i64 g] true Option.none],le:=[] })))) (u5=true) (u5=false)) (not (intEq u2 88)) (not (intEq u2 u3))) (Int.ofNat (UInt8.toNat (List.getD s (Int.toNat i) (UInt8.ofNat 0)))) (Int.add 48 (Int.tmod n 10)) (intLe 0 i=true) (natLt (Int.toNat i) (List.length s)=true) (inR .i64 (Int.tdiv n 10)=true/\inR .i64 (Int.sub i 1)=true/\Q (AX.normal,([AV.int .i64 (Int.tdiv n 10),AV.ptr 14 0,AV.int .i64 0,AV.int .i64 (Int.sub i 1)],{ n:=1,os:=[AObj.cells [AV.bool ng,AV.bool lg,AV.str s,AV.int .i64 e,AV.int .i64 g] true Option.none],le:=[] })))):=by kernel_rfl
theorem b128a (ng lg:Bool) (s:List UInt8) (e n:Int) {Q:AV->Prop}:askA Q (pT T9 noL 128 [.agg [.bool ng,.bool lg,.str s,.int .i64 e,.int .i64 0],.int .i64 n]) (dtN 1023003300811420200022700032000530200232337020541023003300811411440200022700032000530200232337020542403322)=((fun (u0 ub:Bool) (u1 u8:Int) (u2 u3 u4 u5 u6 u7 u9 ua:Prop)=>(fun (ud uh:Bool) (uf:Int) (uc ue ug ui:Prop)=>(fun (uk:Bool) (uj ul:Prop)=>uc/\uc/\u0=false/\not (intLe n 10000000000000000)=false/\(ng=true->inR .i64 u1=true/\(uj->uj/\u2/\uj/\uj/\u3/\u3/\uj/\u3/\uj/\uj/\ud=false/\u2/\u3/\u2/\u4/\u5/\u6/\u7/\ue/\(inR .i64 uf=true->(intEq u8 uf=true->u9)/\(intEq u8 uf=false->ua))/\(inR .i64 uf=false->(uk=true->u9)/\(uk=false->ua)))/\(ul->ul/\ul/\ul/\ul/\ul/\ul/\ud=true/\ua))/\(ng=false->(ug->ug/\u2/\ug/\ug/\u3/\u3/\ug/\u3/\ug/\ug/\ub=false/\u2/\u3/\u2/\u4/\u5/\u6/\u7/\ue/\inR .i64 (Int.tdiv n 1)=true/\(uh=true->u9)/\(uh=false->ua))/\(ui->ui/\ui/\ui/\ui/\ui/\ui/\ub=true/\ua))) (intEq u8 (IntKind.wrap .i64 uf)) (not ud=true) (not ud=false)) (not (intLe 0 u1)) (intEq u8 (Int.tdiv n 1)) (Int.tdiv u1 1) (not u0=true) (inR .i64 u8=true) (not ub=true) (not ub=false)) (not (intLe (Neg.neg 10000000000000000) n)) (not (intLe 0 n)) (Int.sub 0 n) (Int.tdiv (Int.ofNat (magV s (Int.toNat e))) 1) (Nat.ble (List.length s) 1000=true) (intEq (minI 1 (Int.ofNat (hasN s 88 88))) 1=false) (intLe 0 e=true) (intLe e 1000=true) (digL s=true) (magOk s (Int.toNat e)=true) (Q (AV.int .i64 1)) (Q (AV.int .i64 0))):=by kernel_rfl
theorem b128b (ng lg:Bool) (s:List UInt8) (e n:Int) {Q:AV->Prop}:askA Q (pT T9 L128 128 [.agg [.bool ng,.bool lg,.str s,.int .i64 e,.int .i64 0],.int .i64 n]) (dtN 10230033008111447002200053323370227020541023003300811144700220051432770227020542403322)=((fun (u0 u1 ua ub:Bool) (u3:Int) (u2 u4 u5 u6 u7 u8 u9:Prop)=>(fun (ud ue:Bool) (uc uf ug uh:Prop)=>(fun (ui uj:Prop)=>uc/\uc/\u0=false/\not u1=false/\(u2->inR .i64 u3=true/\(ui->ui/\u4/\ui/\ui/\u5/\u5/\ui/\u5/\ui/\u2/\u2/\ui/\u2/\ud=false/\(intEq u3 0=true->u6)/\(intEq u3 0=false->u4/\u5/\u7/\intLe 0 u3=true/\intLe u3 10000000000000000=true/\(dOK s u3 4=true->(∀J1:Nat->Value,(ue=true->u6)/\(ue=false->u8)))/\(dOK s u3 4=false->uf)))/\(uj->uj/\uj/\uj/\uj/\uj/\uj/\ud=true/\u6))/\(u9->(ug->ug/\u4/\ug/\ug/\u5/\u5/\ug/\u5/\ug/\u9/\u9/\ug/\u9/\ua=false/\u4/\u5/\u7/\intLe 0 n=true/\u1=true/\(dOK s n 4=true->(∀J1:Nat->Value,(ub=true->u6)/\(ub=false->u8)))/\(dOK s n 4=false->uf))/\(uh->uh/\uh/\uh/\uh/\uh/\uh/\ua=true/\u6))) (not ud=true) (not ud=false)) (not (intLe 0 u3)) (not (intLe (HDiv.hDiv u3 10000) 0)) (not u0=true) (∀J1:Nat->Value,∀J2:Nat->Value,u6) (not ua=true) (not ua=false)) (not (intLe (Neg.neg 10000000000000000) n)) (intLe n 10000000000000000) (not (intLe 0 n)) (not (intLe (HDiv.hDiv n 10000) 0)) (Int.sub 0 n) (ng=true) (Nat.ble (List.length s) 1000=true) (intEq (minI 1 (Int.ofNat (hasN s 88 88))) 1=true) (Q (AV.int .i64 0)) (Nat.beq (List.length s) 4=true) (Q (AV.int .i64 1)) (ng=false)):=by kernel_rfl
theorem b127a (ng lg:Bool) (s:List UInt8) (e:Int) {Q:AV->Prop}:askA Q (pT T9 noL 127 [.agg [.bool ng,.bool lg,.str s,.int .i64 e,.int .i64 0]]) (dtN 1122400022700227532005)=((fun (u5:Int) (u0 u1 u2 u3 u4:Prop)=>(fun (u7 u8:AV) (u6:Prop)=>u0/\intEq (minI 1 (Int.ofNat (hasN s 88 88))) 1=false/\u0/\u1/\u2/\u3/\u4/\u0/\u1/\u2/\u3/\u4/\(ng=true->u6/\u6/\Q (AV.tuple [u7,u7]))/\(ng=false->Q (AV.tuple [u8,u8]))) (AV.int .i64 (Int.sub 0 u5)) (AV.int .i64 u5) (inR .i64 (Int.sub 0 u5)=true)) (Int.ofNat (magV s (Int.toNat e))) (Nat.ble (List.length s) 1000=true) (intLe 0 e=true) (intLe e 1000=true) (digL s=true) (magOk s (Int.toNat e)=true)):=by kernel_rfl
theorem r127a (ng lg:Bool) (s l h:List UInt8) (e g:Int) (i:Nat) (J:Nat->Value) {Q:VQ->Prop}:askA Q (rT T9 noL [] 127 0 117 [1,4,5,6] [.ptr 14 0,.str l,.str h,.int .i64 (Int.ofNat i)] J ⟨1,[.cells [.bool ng,.bool lg,.str s,.int .i64 e,.int .i64 g] true none],[]⟩) (dtN 1112241742020202020204)=((fun (u1:AV) (u0:Int)=>(fun (u2:Bool) (u3:Int)=>(fun (u6:AV) (u5:Nat) (u4:Prop)=>(fun (u9:Bool) (ua:Nat) (u7 u8:Prop)=>(fun (ub:Bool)=>(u2=true->u4/\u7/\u8/\u4/\u7/\u8/\(u9=true->Nat.ble (HAdd.hAdd (List.length l) 1) 1000000=true/\Nat.ble (HAdd.hAdd (List.length h) 1) 1000000=true/\u4/\Q (AX.normal,([u1,AV.str (HAppend.hAppend l [UInt8.ofNat 48]),AV.str (HAppend.hAppend h [UInt8.ofNat 57]),u6],{ n:=1,os:=[AObj.cells [AV.bool ng,AV.bool lg,AV.str s,AV.int .i64 e,AV.int .i64 g] true Option.none],le:=[] })))/\(u9=false->(ub=true->Nat.ble (HAdd.hAdd (List.length h) ua) 1000000=true/\u4/\Q (AX.normal,([u1,AV.str (HAppend.hAppend l (List.drop i (List.take u5 s))),AV.str (HAppend.hAppend h (List.drop i (List.take u5 s))),u6],{ n:=1,os:=[AObj.cells [AV.bool ng,AV.bool lg,AV.str s,AV.int .i64 e,AV.int .i64 g] true Option.none],le:=[] })))/\(ub=false->False)))/\(u2=false->Q (AX.exit 0,([u1,AV.str l,AV.str h,AV.int .i64 u0],{ n:=1,os:=[AObj.cells [AV.bool ng,AV.bool lg,AV.str s,AV.int .i64 e,AV.int .i64 g] true Option.none],le:=[] })))) (Nat.ble (HAdd.hAdd (List.length l) ua) 1000000)) (bytesEq (List.drop i (List.take u5 s)) [UInt8.ofNat 88]) (List.length (List.drop i (List.take u5 s))) (Nat.ble u5 (List.length s)=true) (Nat.ble i u5=true)) (AV.int .i64 u3) (Int.toNat u3) (inR .i64 u3=true)) (not (intLe 4 u0)) (Int.add u0 1)) (AV.ptr 14 0) (Int.ofNat i)):=by kernel_rfl
theorem r127b (ng lg:Bool) (s l h:List UInt8) (e g:Int) (i:Nat) (J:Nat->Value) {Q:VQ->Prop}:askA Q (rT T9 noL [] 127 1 117 [1,4,5,9] [.ptr 14 0,.str l,.str h,.int .i64 (Int.ofNat i)] J ⟨1,[.cells [.bool ng,.bool lg,.str s,.int .i64 e,.int .i64 g] true none],[]⟩) (dtN 1121112420242042004)=((fun (u3 u4:AV) (u1 u2:Bool) (u0:Int)=>(fun (u5:Bool) (u6:Int)=>(fun (u9:AV) (u8:Bool) (u7:Prop)=>(u5=true->natLt i (List.length s)=true/\(u1=true->Nat.ble i 4=true/\(u2=true->u7/\Nat.ble (Int.toNat u6) 4=true/\(u8=true->u7/\Q (AX.normal,([u3,AV.str (HAppend.hAppend (HAppend.hAppend (List.drop 0 (List.take i [UInt8.ofNat 48,UInt8.ofNat 48,UInt8.ofNat 48,UInt8.ofNat 48])) [UInt8.ofNat 49]) (List.drop (Int.toNat u6) [UInt8.ofNat 48,UInt8.ofNat 48,UInt8.ofNat 48,UInt8.ofNat 48])),u4,u9],{ n:=1,os:=[AObj.cells [AV.bool ng,AV.bool lg,AV.str s,AV.int .i64 e,AV.int .i64 g] true Option.none],le:=[] })))/\(u8=false->False))/\(u2=false->False))/\(u1=false->u7/\Q (AX.normal,([u3,AV.str l,u4,u9],{ n:=1,os:=[AObj.cells [AV.bool ng,AV.bool lg,AV.str s,AV.int .i64 e,AV.int .i64 g] true Option.none],le:=[] }))))/\(u5=false->Q (AX.exit 2,([u3,AV.str l,u4,AV.int .i64 u0],{ n:=1,os:=[AObj.cells [AV.bool ng,AV.bool lg,AV.str s,AV.int .i64 e,AV.int .i64 g] true Option.none],le:=[] })))) (AV.int .i64 u6) (Nat.ble (HAdd.hAdd (List.length (HAppend.hAppend (List.drop 0 (List.take i [UInt8.ofNat 48,UInt8.ofNat 48,UInt8.ofNat 48,UInt8.ofNat 48])) [UInt8.ofNat 49])) (List.length (List.drop (Int.toNat u6) [UInt8.ofNat 48,UInt8.ofNat 48,UInt8.ofNat 48,UInt8.ofNat 48]))) 1000000) (inR .i64 u6=true)) (not (intLe 4 u0)) (Int.add u0 1)) (AV.ptr 14 0) (AV.str h) (intEq (Int.ofNat (UInt8.toNat (List.getD s i (UInt8.ofNat 0)))) 88) (Nat.ble (HAdd.hAdd (List.length (List.drop 0 (List.take i [UInt8.ofNat 48,UInt8.ofNat 48,UInt8.ofNat 48,UInt8.ofNat 48]))) 1) 1000000) (Int.ofNat i)):=by kernel_rfl
theorem b127b (ng lg:Bool) (s:List UInt8) {Q:AV->Prop}:askA Q (pT T9 L127 127 [.agg [.bool ng,.bool lg,.str s,.int .i64 0,.int .i64 0]]) (dtN 111113000130004400400111300013000440040044004000331111100200010104200044004001111402000114114420004400400440040011111002000101042000440040011114020001141144200044004004400400220422402022005)=((fun (u8:AV) (u4 u6:Bool) (u7:Int) (u2 u3:List UInt8) (u0 u1 u5 u9 ua:Prop)=>(fun (uq:AV) (ub uc uk:Bool) (uf ug un:Int) (ud ue uh ui uj ul um uo up:Prop)=>(fun (ut uu uw uy uB:AV) (uz:Int) (ur us uv ux uA:Prop)=>(fun (uE uG:AV) (uC uD uF:Prop)=>Nat.ble (List.length s) 1000=true/\intEq (minI 1 (Int.ofNat (hasN s 88 88))) 1=true/\u0/\(∀J1:Nat->Value,(u1->u1/\u1/\(ub=true->u0/\ub=true/\(∀J2:Nat->Value,(uc=true->(digL u3=true->(magOk u3 0=true->(ud->(u5->(ue->u1/\(ur->(us->Q (AV.tuple [ut,uu]))/\(uv->Q (AV.tuple [ut,uw])))/\(ux->(us->Q (AV.tuple [uy,uu]))/\(uv->Q (AV.tuple [uy,uw]))))/\(uh->u1/\(us->Q (AV.tuple [u8,uu]))/\(uv->Q (AV.tuple [u8,uw]))))/\u9)/\ui)/\(magOk u3 0=false->uC))/\(digL u3=false->False))/\(uc=false->False)))/\(ub=false->(uk=true->(ul->(um->(ud->(u5->(ue->u1/\(ur->(uD->Q (AV.tuple [ut,uE]))/\(uF->Q (AV.tuple [ut,uG])))/\(ux->(uD->Q (AV.tuple [uy,uE]))/\(uF->Q (AV.tuple [uy,uG]))))/\(uh->u1/\(uD->Q (AV.tuple [u8,uE]))/\(uF->Q (AV.tuple [u8,uG]))))/\u9)/\ui)/\(uo->uC))/\up)/\uA))/\(ua->ua/\ua/\(uk=true->(ul->(um->(ud->(u5->(ue->ua/\Q (AV.tuple [uB,uq]))/\(uh->ua/\Q (AV.tuple [uB,u8])))/\u9)/\ui)/\(uo->(ud->(u5->(ue->ua/\Q (AV.tuple [u8,uq]))/\(uh->ua/\uj))/\u9)/\ui))/\up)/\uA))) (AV.int .i64 uz) (AV.int .i64 (IntKind.wrap .i64 uz)) ((ud->(u5->(ue->u1/\(ur->Q (AV.tuple [ut,u8]))/\(ux->Q (AV.tuple [uy,u8])))/\(uh->u1/\uj))/\u9)/\ui) (inR .i64 uz=true) (inR .i64 uz=false)) (AV.int .i64 uf) (AV.int .i64 ug) (AV.int .i64 (IntKind.wrap .i64 ug)) (AV.int .i64 (IntKind.wrap .i64 uf)) (AV.int .i64 un) (Int.sub 0 un) (inR .i64 uf=true) (inR .i64 ug=true) (inR .i64 ug=false) (inR .i64 uf=false) (uk=false->False)) (AV.int .i64 u7) (bytesEq u2 [UInt8.ofNat 48,UInt8.ofNat 48,UInt8.ofNat 48,UInt8.ofNat 48]) (Nat.ble (List.length u3) 1000) (Nat.ble (List.length u2) 1000) (Int.sub 0 u7) (Int.sub 0 (Int.ofNat (magV u3 0))) (Int.ofNat (magV u2 0)) (u4=true) (u6=true) (u6=false) (u4=false->False) (Q (AV.tuple [u8,u8])) (digL u2=true) (magOk u2 0=true) (magOk u2 0=false) (digL u2=false->False)) (AV.int .i64 0) (Nat.ble (List.length (hiX s)) 1000) (magOk (hiX s) 0) (Int.ofNat (magV (hiX s) 0)) (lowX s) (lowS s 4) (Nat.beq (List.length s) 4=true) (ng=true) (digL (hiX s)=true) (digL (hiX s)=false->False) (ng=false)):=by kernel_rfl
theorem body128:bodyOf tab 128=some (fnOf 128,codeOf 128):=by kernel_rfl
theorem body127:bodyOf tab 127=some (fnOf 127,codeOf 127):=by kernel_rfl
theorem loops128:(loopsOf (codeOf 128)).map (·.1)=[0]:=by kernel_rfl
theorem loops127:(loopsOf (codeOf 127)).map (·.1)=[0,2]:=by kernel_rfl
theorem dOK_succ {s:List UInt8} {n:Int} {j:Nat}:dOK s n (j+1)=(dOK s n j&&decide (mt (s.getD (3-j) 0) (n/10^j%10))):=by
 unfold dOK
 rw [List.range_succ,List.all_append,List.all_cons,List.all_nil,Bool.and_true]
theorem dOK_false {s:List UInt8} {n:Int}:∀{k j:Nat},dOK s n j=false->j≤k->dOK s n k=false
 | 0,j,h,hj=>by
   obtain rfl:j=0:=by omega
   exact h
 | k+1,j,h,hj=>by
   by_cases e:j=k+1
   · subst e;exact h
   · rw [dOK_succ,dOK_false (k:=k) h (by omega),Bool.false_and]
theorem lv128:LoopVOK Tryz.prog (cfgS cfg T9) (Cw cfg []) (lb 128 0) 92 [1,2,4,5] v128:=by
 intro vs o t Q hv hq J
 unfold v128 at hv
 split at hv
 · rename_i n z i ng lg s e g
   cases hv
   obtain ⟨h1,hq'⟩:=asrts_wp hq;clear hq;have hq:=hq';clear hq'
   obtain ⟨h2,hq'⟩:=asrts_wp hq;clear hq;have hq:=hq';clear hq'
   obtain ⟨h3,hq'⟩:=asrts_wp hq;clear hq;have hq:=hq';clear hq'
   obtain ⟨h4,hq'⟩:=asrts_wp hq;clear hq;have hq:=hq';clear hq'
   obtain ⟨h5,hq'⟩:=asrts_wp hq;clear hq;have hq:=hq';clear hq'
   rw [q_eq_t] at h1 h2
   rw [q_beq_t] at h3
   rw [q_le_t] at h4 h5
   subst h1 h2
   simp only [asrts,Tr.wp] at hq
   refine lvOK T9_ok rfl rfl lok_none (ι:={j:Nat // j≤4/\dOK s n j=true}) (fun x=>[.int .i64 (n/10^x.1),.ptr 14 0,.int .i64 0,.int .i64 (3-(x.1:Int))]) (fun _=>⟨1,[.cells [.bool ng,.bool lg,.str s,.int .i64 e,.int .i64 g] true none],[]⟩) (fun x=>4-x.1) 1 (fun _=>Nat.le_refl _) (fun x J=>?_) (Nat.le_refl _) (fun J=>Wk.refl ⟨⟨0,by omega,rfl⟩,J,by dsimp only;rw [Int.pow_zero,Int.ediv_one];rfl⟩) J
   obtain ⟨j,hj,hd⟩:=x
   dsimp only
   have hdiv:∀j:Nat,n/10^(j+1)=n/10^j/10:=fun j=>by
    rw [Int.pow_succ,Int.ediv_ediv_of_nonneg (Int.pow_nonneg (by decide))]
   have hpos:0≤n/10^j:=Int.ediv_nonneg h4 (Int.pow_nonneg (by decide))
   have hle:n/10^j≤10000000000000000:=Int.le_trans (Int.ediv_le_self _ h4) h5
   have hs:=@dOK_succ s n j
   rw [hd,Bool.true_and] at hs
   have mtq:∀x:Int,mt (s.getD (3-j) 0) x↔(s.getD (3-j) 0).toNat=88∨((s.getD (3-j) 0).toNat:Int)=48+x:=fun x=>by unfold mt;omega
   have ret:dOK s n (j+1)=false->j+1≤4->∀J:Nat->Value,Q (.ret,[.any (J 0),.ptr 14 0,.int .i64 0,.any (J 1)],⟨1,[.cells [.bool ng,.bool lg,.str s,.int .i64 e,.int .i64 g] true none],[]⟩):=fun h hk=>by
    rw [dOK_false h hk] at hq
    exact hq
   have fin:j=4->Q (.exit 0,[.int .i64 (n/10000),.ptr 14 0,.int .i64 0,.int .i64 (-1)],⟨1,[.cells [.bool ng,.bool lg,.str s,.int .i64 e,.int .i64 g] true none],[]⟩):=fun h=>by
    subst h
    rw [hd] at hq
    exact hq
   clear hq
   refine wp_gen fun Q' hQ=>askA_wp ((r128 ng lg s e g (n/10^j) (3-(j:Int)) J).mpr ?_)
   dsimp only
   rw [Int.tmod_eq_emod_of_nonneg hpos,Int.tdiv_eq_ediv_of_nonneg hpos]
   by_cases h4':j=4
   · have fin':=fin h4'
     clear fin
     subst h4'
     simp only [q_all,reduceCtorEq,loK,hiK,ne_eq]
     (repeat' first|exact trivial|refine ⟨?_,?_⟩|intro)<;>first|contradiction|omega|assumption|refine hQ _ ?_
     exact ⟨_,_,VW.of_eq rfl rfl,fin'⟩
   · have e3:Int.toNat (3-(j:Int))=3-j:=by omega
     rw [e3]
     rw [show (UInt8.ofNat 0)=(0:UInt8) from rfl]
     have ret:=fun h=>ret h (by omega)
     clear fin
     rw [hs] at ret
     rw [decide_eq_false_iff_not,mtq] at ret
     have go:(s.getD (3-j) 0).toNat=88∨((s.getD (3-j) 0).toNat:Int)=48+n/10^j%10->dOK s n (j+1)=true:=fun h=>by rw [hs,decide_eq_true_eq,mtq];exact h
     have next:dOK s n (j+1)=true->∃y:{j:Nat // j≤4/\dOK s n j=true},4-y.1<4-j/\VW cfg (Cw cfg []) 1 92 [1,2,4,5] [.int .i64 (n/10^j/10),.ptr 14 0,.int .i64 0,.int .i64 (3-(j:Int)-1)] ⟨1,[.cells [.bool ng,.bool lg,.str s,.int .i64 e,.int .i64 g] true none],[]⟩ [.int .i64 (n/10^y.1),.ptr 14 0,.int .i64 0,.int .i64 (3-(y.1:Int))] ⟨1,[.cells [.bool ng,.bool lg,.str s,.int .i64 e,.int .i64 g] true none],[]⟩:=fun h=>
      ⟨⟨j+1,by omega,h⟩,by dsimp only;omega,VW.of_eq (by dsimp only;rw [hdiv,show 3-((j+1:Nat):Int)=3-(j:Int)-1 by omega]) rfl⟩
     clear hs mtq hd hdiv
     have b1:0≤n/10^j%10/\n/10^j%10≤9:=by omega
     have hcl:=UInt8.toNat_lt (s.getD (3-j) 0)
     generalize (s.getD (3-j) 0).toNat=cn at *
     have hv2:s.length=4:=h3
     simp only [q_all,reduceCtorEq,loK,hiK,ne_eq]
     (repeat' first|exact trivial|refine ⟨?_,?_⟩|intro)<;>first|contradiction|omega|assumption|refine hQ _ ?_
     all_goals first
      | exact ⟨_,_,VW.any (.int (.same (.same (.int .nil)))) rfl,ret (by omega) (jv [_,_])⟩
      | exact next (go (by omega))
 · cases hv
theorem minI1 {n:Nat}:intEq (minI 1 (Int.ofNat n)) 1=!(Nat.beq n 0):=by
 cases n with
 | zero=>rfl
 | succ n=>
   have:minI 1 (Int.ofNat (n+1))=1:=by
    unfold minI
    cases h:intLe 1 (Int.ofNat (n+1)) with
    | true=>rfl
    | false=>rw [q_le_f] at h;exfalso;have h:((n+1:Nat):Int)<1:=h;omega
   rw [this,beqF (by omega:¬n+1=0)]
   rfl
theorem okY_plain {ng lg:Bool} {s:List UInt8} {e g:Int} (h:okY14 ng lg s e g=true) (hx:hasN s 88 88=0):(0≤e/\e≤1000)/\digL s=true/\magOk s e.toNat=true/\magV s e.toNat≤10000000000000000:=by
 have hd:digL s=true:=digL_of (by
  unfold okY14 at h
  rw [decide_eq_true_eq] at h
  omega)
 have hm:magOk s e.toNat=true:=by
  unfold okY14 at h
  rw [decide_eq_true_eq] at h
  rcases h with ⟨k1,k2,⟨l1,l2,l3,l4⟩|⟨l1,l2,l3,l4,l5,l6,l7,l8,l9,l10⟩⟩
  · unfold magOk
    rw [q_ble_t]
    unfold magV
    rw [l3]
    have:numL s≤9999:=by
     match s,l2,hd with
     | [p,q,r,t],_,hd=>
       simp only [digL,List.all_cons,List.all_nil,Bool.and_true,Bool.and_eq_true,dB,decide_eq_true_eq] at hd
       simp only [numL,List.foldl_cons,List.foldl_nil]
       omega
    simp only [Int.toNat_zero,Nat.pow_zero,Nat.mul_one]
    omega
  · exact l10
 refine ⟨?_,hd,hm,by unfold magOk at hm;rwa [q_ble_t] at hm⟩
 unfold okY14 at h
 rw [decide_eq_true_eq] at h
 omega
theorem okY_mask {ng lg:Bool} {s:List UInt8} {e g:Int} (h:okY14 ng lg s e g=true) (hx:¬hasN s 88 88=0):e=0:=by
 unfold okY14 at h
 rw [decide_eq_true_eq] at h
 omega
theorem dOK_in {c0 c1 c2 c3:UInt8} {n:Int} (hn:0≤n):inM c0 c1 c2 c3 n↔dOK [c0,c1,c2,c3] n 4=true/\n/10000=0:=by
 have e:dOK [c0,c1,c2,c3] n 4=(decide (mt c3 (n/1%10))&&(decide (mt c2 (n/10%10))&&(decide (mt c1 (n/100%10))&&(decide (mt c0 (n/1000%10))&&true)))):=rfl
 rw [e]
 simp only [Bool.and_eq_true,decide_eq_true_eq,Int.ediv_one,and_true]
 unfold inM
 constructor
 · rintro ⟨h1,h2,h3,h4,h5,h6⟩
   refine ⟨⟨h6,h5,h4,?_⟩,by omega⟩
   rwa [show n/1000%10=n/1000 by omega]
 · rintro ⟨⟨h1,h2,h3,h4⟩,h5⟩
   refine ⟨hn,by omega,?_,h3,h2,h1⟩
   rwa [show n/1000%10=n/1000 by omega] at h4
theorem f128 {ng lg:Bool} {s:List UInt8} {e n:Int} (ho:okY14 ng lg s e 0=true) (hs:s.length≤1000) (hX:okX s=true) (hn : -10000000000000000≤n/\n≤10000000000000000) :
 FactW Tryz.prog cfg 128 [.agg [.bool ng,.bool lg,.str s,.int .i64 e,.int .i64 0],.int .i64 n] [] (.int .i64 (bI (inYB ng s e n))) []:=by
 cases hx:Nat.beq (hasN s 88 88) 0 with
 | true=>
   have hx0:intEq (minI 1 (Int.ofNat (hasN s 88 88))) 1=false:=by rw [minI1,hx];rfl
   rw [q_beq_t] at hx
   obtain ⟨he,hd,hm,hv⟩:=okY_plain ho hx
   refine fpOK T9_ok (L:=noL) body128 (by simp) lok_none (wp_gen fun Q' hQ=>askA_wp ((b128a ng lg s e n).mpr ?_)) (by simp [idsA])
   dsimp only
   have hY:inYB ng s e n=intEq n (valR ng s e):=by unfold inYB;rw [beqT hx];rfl
   rw [hY] at hQ
   have hval:valR ng s e=if ng=true then -(magV s e.toNat:Int) else (magV s e.toNat:Int):=by unfold valR;cases ng<;>rfl
   have yes:n=valR ng s e->Q' (.int .i64 1):=fun h=>hQ _ (by rw [q_eq_t.mpr h];rfl)
   have no:n≠valR ng s e->Q' (.int .i64 0):=fun h=>hQ _ (by rw [q_eq_f.mpr h];rfl)
   rw [hval] at yes no
   rw [hx] at hx0 ⊢
   simp only [Int.tdiv_one]
   clear hQ hY hval ho
   generalize magV s e.toNat=mv at *
   cases ng with
   | true=>
     simp only [if_true] at yes no
     simp only [q_all,reduceCtorEq,loK,hiK,ne_eq]
     (repeat' first|exact trivial|refine ⟨?_,?_⟩|intro)<;>first|contradiction|omega|assumption|(refine yes ?_;omega)|(refine no ?_;omega)
   | false=>
     simp only [Bool.false_eq_true,if_false] at yes no
     simp only [q_all,reduceCtorEq,loK,hiK,ne_eq]
     (repeat' first|exact trivial|refine ⟨?_,?_⟩|intro)<;>first|contradiction|omega|assumption|(refine yes ?_;omega)|(refine no ?_;omega)
 | false=>
   have hx1:intEq (minI 1 (Int.ofNat (hasN s 88 88))) 1=true:=by rw [minI1,hx];rfl
   obtain ⟨c0,c1,c2,c3,rfl,_⟩:=okX_m hX hx
   refine fpOK T9_ok (L:=L128) body128 (by simp) (lok_at loops128 fun i hi e he st Q hw=>?_) (wp_gen fun Q' hQ=>askA_wp ((b128b ng lg [c0,c1,c2,c3] e n).mpr ?_)) (by simp [idsA])
   · have hi:i=0:=by simp at hi;omega
     subst hi
     cases he
     exact loopE_ok (base0.good T9_ok) (by decide) rfl lv128 hw
   · have hY:inYB ng [c0,c1,c2,c3] e n=(bif ng then intLe 1 (-n)&&decide (inM c0 c1 c2 c3 (-n)) else decide (inM c0 c1 c2 c3 n)):=by unfold inYB;rw [hx];rfl
     rw [hY] at hQ
     rw [hx1]
     have z0:∀k:Int,Int.sub 0 k = -k:=fun k=>Int.zero_sub k
     simp only [z0]
     cases ng with
     | true=>
       have yes:1≤-n/\dOK [c0,c1,c2,c3] (-n) 4=true/\-n/10000=0->Q' (.int .i64 1):=fun h=>hQ _ (by rw [cond_true,q_le_t.mpr h.1,decide_eq_true ((dOK_in (by omega)).2 h.2)];rfl)
       have no:¬(1≤-n/\dOK [c0,c1,c2,c3] (-n) 4=true/\-n/10000=0)->Q' (.int .i64 0):=fun h=>hQ _ (by
        have:(intLe 1 (-n)&&decide (inM c0 c1 c2 c3 (-n)))=false:=by
         rw [←Bool.not_eq_true,Bool.and_eq_true,q_le_t,decide_eq_true_eq]
         exact fun k=>h ⟨k.1,(dOK_in (by omega)).1 k.2⟩
        rw [cond_true,this];rfl)
       clear hQ ho hX hx hx1 hY z0
       have h4:[c0,c1,c2,c3].length=4:=rfl
       generalize [c0,c1,c2,c3]=s at *
       generalize dOK s n 4=dn at *
       generalize dOK s (-n) 4=dm at *
       simp only [q_all,reduceCtorEq,loK,hiK,ne_eq]
       (repeat' first|exact trivial|refine ⟨?_,?_⟩|intro)<;>first|contradiction|omega|assumption|(refine no fun h=>?_;rcases h with ⟨h1,h2,h3⟩;first|omega|(simp_all;done))|(refine yes ⟨?_,?_,?_⟩<;>first|assumption|omega)
     | false=>
       have yes:0≤n/\dOK [c0,c1,c2,c3] n 4=true/\n/10000=0->Q' (.int .i64 1):=fun h=>hQ _ (by rw [cond_false,decide_eq_true ((dOK_in h.1).2 h.2)];rfl)
       have no:¬(0≤n/\dOK [c0,c1,c2,c3] n 4=true/\n/10000=0)->Q' (.int .i64 0):=fun h=>hQ _ (by
        rw [cond_false,decide_eq_false fun k=>h ⟨k.1,(dOK_in k.1).1 k⟩];rfl)
       clear hQ ho hX hx hx1 hY z0
       have h4:[c0,c1,c2,c3].length=4:=rfl
       generalize [c0,c1,c2,c3]=s at *
       generalize dOK s n 4=dn at *
       generalize dOK s (-n) 4=dm at *
       simp only [q_all,reduceCtorEq,loK,hiK,ne_eq]
       (repeat' first|exact trivial|refine ⟨?_,?_⟩|intro)<;>first|contradiction|omega|assumption|(refine no fun h=>?_;rcases h with ⟨h1,h2,h3⟩;first|omega|(simp_all;done))|(refine yes ⟨?_,?_,?_⟩<;>first|assumption|omega)
theorem add128 {S:Sums} (hS:SumsOK Tryz.prog cfg S):SumsOK Tryz.prog cfg (addP S 128 s128):=sums_addP hS fun args t v he hv=>by
 unfold s128 at he
 split at he
 · rename_i ng lg s e g n
   cases he
   obtain ⟨h1,hv⟩:=asrts_run hv
   obtain ⟨h2,hv⟩:=asrts_run hv
   obtain ⟨h3,hv⟩:=asrts_run hv
   obtain ⟨h4,hv⟩:=asrts_run hv
   obtain ⟨h5,hv⟩:=asrts_run hv
   rw [q_eq_t] at h1
   rw [q_ble_t] at h3
   unfold okYbR at h5
   rw [Bool.and_eq_true,q_le_t,q_le_t] at h5
   cases hv
   subst h1
   exact f128 h2 h3 h4 h5
 · cases he
end Go.Ev
