import Derived.Test.YtafekjglclnegaaGreatDoorP25
set_option linter.all false
set_option maxRecDepth 100000
set_option maxHeartbeats 4000000
namespace Go.Ev
open Go Go.Proofs Go.Proofs.YtafekjglclnegaaGreatDoor
def okYb (y:Int):Bool:=intLe (-10000000000000000) y&&intLe y 10000000000000000
def okMb (m:Int):Bool:=intLe 1 m&&intLe m 12
def mlnR (y m:Int):Int:=mlen y m
def mstR' (y m:Int):Int:=mst y m
def s322:Sum:=fun args=>match args with
 | [.int .i64 y]=>some (asrts [okYb y] (.ret (.tuple [.bool (intEq (lpR y) 1),.int .i64 0])))
 | _=>none
def s273:Sum:=fun args=>match args with
 | [.int .i64 y]=>some (asrts [okYb y] (.ret (.tuple [.int .i64 (ystR y),.int .i64 0])))
 | _=>none
def s274:Sum:=fun args=>match args with
 | [.int .i64 y]=>some (asrts [okYb y] (.ret (.tuple [.int .i64 (ystR (y+1)-1),.int .i64 0])))
 | _=>none
def XA4:Sums:=addP (addP (addP XA3 322 s322) 273 s273) 274 s274
def s276:Sum:=fun args=>match args with
 | [.int .i64 y,.int .i64 m]=>some (asrts [okYb y,okMb m] (.ret (.int .i64 (mlnR y m))))
 | _=>none
def XA5:Sums:=addP XA4 276 s276
theorem b322 (y:Int) {Q:AV->Prop}:askA Q (pT XA3 noL 322 [.int .i64 y]) (dtN 12020203322)=((fun (u0:Bool) (u1:Int)=>(fun (u2:Prop)=>u2/\u2/\u0=false/\not (intLe y 10000000000000000)=false/\inR .i64 u1=true/\and (intLe (Neg.neg 20000000000000000) u1) (intLe u1 20000000000000000)=true/\and (intLe (Neg.neg 20000000000000000) y) (intLe y 20000000000000000)=true/\Q (AV.tuple [AV.bool (not (intLe (bfrR u1) (bfrR y))),AV.int .i64 0])) (not u0=true)) (not (intLe (Neg.neg 10000000000000000) y)) (Int.add y 1)):=by kernel_rfl
theorem b273 (y:Int) {Q:AV->Prop}:askA Q (pT XA3 noL 273 [.int .i64 y]) (dtN 12003322)=((fun (u0:Bool)=>(fun (u1:Prop)=>u1/\u1/\u0=false/\not (intLe y 10000000000000000)=false/\and (intLe (Neg.neg 20000000000000000) y) (intLe y 20000000000000000)=true/\Q (AV.tuple [AV.int .i64 (ystR y),AV.int .i64 0])) (not u0=true)) (not (intLe (Neg.neg 10000000000000000) y))):=by kernel_rfl
theorem b274 (y:Int) {Q:AV->Prop}:askA Q (pT XA3 noL 274 [.int .i64 y]) (dtN 11420203322)=((fun (u0:Bool) (u1:Int)=>(fun (u3:Int) (u2:Prop)=>u2/\u2/\u0=false/\not (intLe y 10000000000000000)=false/\inR .i64 u1=true/\and (intLe (Neg.neg 20000000000000000) u1) (intLe u1 20000000000000000)=true/\(inR .i64 u3=true->Q (AV.tuple [AV.int .i64 u3,AV.int .i64 0]))/\(inR .i64 u3=false->Q (AV.tuple [AV.int .i64 (IntKind.wrap .i64 u3),AV.int .i64 0]))) (Int.sub (ystR u1) 1) (not u0=true)) (not (intLe (Neg.neg 10000000000000000) y)) (Int.add y 1)):=by kernel_rfl
theorem b276 (y m:Int) {Q:AV->Prop}:askA Q (pT XA4 noL 276 [.int .i64 y,.int .i64 m]) (dtN 114703311471422420)=((fun (u2 u3:AV) (u0:Bool) (u1:Int)=>(fun (u5:Bool) (u4 u6:Prop)=>(fun (u7:Prop)=>and (intLe (Neg.neg 10000000000000000) y) (intLe y 10000000000000000)=true/\(u4->u4/\u4/\(intEq m 2=true->Q (AV.int .i64 29))/\(intEq m 2=false->u7))/\(u6->u6/\u6/\u7)) (inR .i64 u1=true/\intLe 0 u1=true/\natLt (Int.toNat u1) 12=true/\(u5=true->Q (AV.int .i64 (intOf (List.getD [u2,AV.int .i64 28,u2,u3,u2,u3,u2,u2,u3,u2,u3,u2] (HAdd.hAdd 0 (HMul.hMul (Int.toNat u1) 1)) (AV.tuple [])))))/\(u5=false->False))) (isKA .i64 (List.getD [u2,AV.int .i64 28,u2,u3,u2,u3,u2,u2,u3,u2,u3,u2] (HAdd.hAdd 0 (HMul.hMul (Int.toNat u1) 1)) (AV.tuple []))) (u0=true) (u0=false)) (AV.int .i64 31) (AV.int .i64 30) (intEq (lpR y) 1) (Int.sub m 1)):=by kernel_rfl
theorem body322:bodyOf tab 322=some (fnOf 322,codeOf 322):=by kernel_rfl
theorem body273:bodyOf tab 273=some (fnOf 273,codeOf 273):=by kernel_rfl
theorem body274:bodyOf tab 274=some (fnOf 274,codeOf 274):=by kernel_rfl
theorem body276:bodyOf tab 276=some (fnOf 276,codeOf 276):=by kernel_rfl
theorem okYb_iff {y:Int}:okYb y=true↔-10000000000000000≤y/\y≤10000000000000000:=by unfold okYb;rw [Bool.and_eq_true,q_le_t,q_le_t]
theorem okMb_iff {m:Int}:okMb m=true↔1≤m/\m≤12:=by unfold okMb;rw [Bool.and_eq_true,q_le_t,q_le_t]
theorem ystR_bd {y:Int} (h : -10000000000000000≤y) (h2:y≤10000000000000001) : -3652425000000000001≤ystR y/\ystR y≤3652425000000000400:=yst_bd y h h2
theorem XA4_ok:SumsOK Tryz.prog cfg XA4:=by
 refine sums_addP (sums_addP (sums_addP XA3_ok fun args t v he hv=>?_) fun args t v he hv=>?_) fun args t v he hv=>?_
 · unfold s322 at he
   split at he
   · rename_i y
     cases he
     obtain ⟨h1,hv⟩:=asrts_run hv
     rw [okYb_iff] at h1
     cases hv
     refine fpOK XA3_ok (L:=noL) body322 (by simp) lok_none (wp_gen fun Q' hQ=>askA_wp ((b322 y).mpr ?_)) (by simp [idsA,idsL])
     dsimp only
     have e:bfrR (y+1)=bfrR y+lpR y:=before_succ y
     have l:0≤lpR y/\lpR y≤1:=lp_01 y
     have fin:∀b:Bool,b=intEq (lpR y) 1->Q' (.tuple [.bool b,.int .i64 0]):=fun b h=>hQ _ (by rw [h])
     clear hQ
     have hb:Bool.not (intLe (bfrR (Int.add y 1)) (bfrR y))=intEq (lpR y) 1:=by
      rw [Bool.eq_iff_iff,q_not_t,q_le_f,q_eq_t,q_add,e];omega
     rw [hb]
     simp only [q_all,reduceCtorEq,loK,hiK,ne_eq]
     (repeat' first|exact trivial|refine ⟨?_,?_⟩|intro)<;>first|omega|exact fin _ rfl
   · cases he
 · unfold s273 at he
   split at he
   · rename_i y
     cases he
     obtain ⟨h1,hv⟩:=asrts_run hv
     rw [okYb_iff] at h1
     cases hv
     refine fpOK XA3_ok (L:=noL) body273 (by simp) lok_none (wp_gen fun Q' hQ=>askA_wp ((b273 y).mpr ?_)) (by simp [idsA,idsL])
     simp only [q_all,reduceCtorEq,loK,hiK,ne_eq]
     (repeat' first|exact trivial|refine ⟨?_,?_⟩|intro)<;>first|omega|exact hQ _ rfl
   · cases he
 · unfold s274 at he
   split at he
   · rename_i y
     cases he
     obtain ⟨h1,hv⟩:=asrts_run hv
     rw [okYb_iff] at h1
     cases hv
     refine fpOK XA3_ok (L:=noL) body274 (by simp) lok_none (wp_gen fun Q' hQ=>askA_wp ((b274 y).mpr ?_)) (by simp [idsA,idsL])
     dsimp only
     have bd:=@ystR_bd (y+1) (by omega) (by omega)
     simp only [q_all,reduceCtorEq,loK,hiK,ne_eq]
     (repeat' first|exact trivial|refine ⟨?_,?_⟩|intro)<;>first|omega|exact hQ _ rfl
   · cases he
theorem len_at {k:Nat} (hk:k<12):List.getD [AV.int .i64 31,.int .i64 28,.int .i64 31,.int .i64 30,.int .i64 31,.int .i64 30,.int .i64 31,.int .i64 31,.int .i64 30,.int .i64 31,.int .i64 30,.int .i64 31] (0+k*1) (AV.tuple [])=.int .i64 (len0.getD k 0):=by
 have:k=0∨k=1∨k=2∨k=3∨k=4∨k=5∨k=6∨k=7∨k=8∨k=9∨k=10∨k=11:=by omega
 rcases this with rfl|rfl|rfl|rfl|rfl|rfl|rfl|rfl|rfl|rfl|rfl|rfl<;>rfl
theorem XA5_ok:SumsOK Tryz.prog cfg XA5:=by
 refine sums_addP XA4_ok fun args t v he hv=>?_
 unfold s276 at he
 split at he
 · rename_i y m
   cases he
   obtain ⟨h1,hv⟩:=asrts_run hv
   obtain ⟨h2,hv⟩:=asrts_run hv
   rw [okYb_iff] at h1
   rw [okMb_iff] at h2
   cases hv
   refine fpOK XA4_ok (L:=noL) body276 (by simp) lok_none (wp_gen fun Q' hQ=>askA_wp ((b276 y m).mpr ?_)) (by simp [idsA,idsL])
   dsimp only
   have hk:(Int.sub m 1).toNat<12:=by show (m-1).toNat<12;omega
   rw [len_at hk]
   have l:0≤lpR y/\lpR y≤1:=lp_01 y
   have i0:∀n:Int,intOf (.int .i64 n)=n:=fun _=>rfl
   have ka:∀n:Int,isKA .i64 (.int .i64 n)=true:=fun n=>rfl
   simp only [i0,ka]
   have fin:∀n:Int,n=mlnR y m->Q' (.int .i64 n):=fun n h=>hQ _ (by rw [h])
   have e29:m=2->lpR y=1->mlnR y m=29:=fun k1 k2=>by subst k1;unfold mlnR mlen;rw [if_pos rfl];unfold lpR at k2;omega
   have en:(m≠2∨lpR y=0)->mlnR y m=len0.getD (m-1).toNat 0:=fun h=>mlen_len0 y m h2.1 h2.2 h
   have yb:=okYb_iff.2 h1
   clear hQ hk
   simp only [q_all,reduceCtorEq,loK,hiK,ne_eq]
   (repeat' first|exact trivial|refine ⟨?_,?_⟩|intro)<;>first|omega|assumption|(apply fin;rw [e29 (by omega) (by omega)])|(apply fin;rw [en (by omega)])
 · cases he
def v277:LoopV:=fun vs o=>match vs,o with
 | [.int .i64 y,.int .i64 d,.int .i64 k,.int .i64 i],⟨0,[],[]⟩=>some (asrts [okYb y,intLe 0 k,intLe k 11,intEq i 0,intEq d (ystR y)] (.ret (.exit 0,[.int .i64 y,.int .i64 (mstR' y (Int.add k 1)),.int .i64 k,.int .i64 k],own0)))
 | _,_=>none
def L277:Loops:=addL noL 0 (loopE 34 [0,7,22,23] v277)
def s277:Sum:=fun args=>match args with
 | [.int .i64 y,.int .i64 m]=>some (asrts [okYb y,okMb m] (.ret (.tuple [.int .i64 (mstR' y m),.int .i64 0])))
 | _=>none
def s278:Sum:=fun args=>match args with
 | [.int .i64 y,.int .i64 m]=>some (asrts [okYb y,okMb m] (.ret (.tuple [.int .i64 (mstR' y (m+1)-1),.int .i64 0])))
 | _=>none
def XA6:Sums:=addP XA5 277 s277
def XA7:Sums:=addP XA6 278 s278
theorem r277 (y d k i:Int) (J:Nat->Value) {Q:VQ->Prop}:askA Q (rT XA5 noL [] 277 0 34 [0,7,22,23] [.int .i64 y,.int .i64 d,.int .i64 k,.int .i64 i] J own0) (dtN 111212424024)=((fun (u3 u4:AV) (u0 u2:Bool) (u1:Int)=>(fun (u7:AV) (u6:Int) (u5:Prop)=>(u0=true->u5/\(u2=true->and (intLe 1 u1) (intLe u1 12)=true/\(inR .i64 u6=true->u5/\Q (AX.normal,([u3,AV.int .i64 u6,u4,u7],{ n:=0,os:=[],le:=[] })))/\(inR .i64 u6=false->u5/\Q (AX.normal,([u3,AV.int .i64 (IntKind.wrap .i64 u6),u4,u7],{ n:=0,os:=[],le:=[] }))))/\(u2=false->False))/\(u0=false->Q (AX.exit 0,([u3,AV.int .i64 d,u4,AV.int .i64 i],{ n:=0,os:=[],le:=[] })))) (AV.int .i64 u1) (Int.add d (mlnR y u1)) (inR .i64 u1=true)) (AV.int .i64 y) (AV.int .i64 k) (not (intLe k i)) (and (intLe (Neg.neg 10000000000000000) y) (intLe y 10000000000000000)) (Int.add i 1)):=by kernel_rfl
theorem b277 (y m:Int) {Q:AV->Prop}:askA Q (pT XA5 L277 277 [.int .i64 y,.int .i64 m]) (dtN 12022700332203322)=((fun (u0 u1 u2:Bool) (u3:Int)=>(fun (u4 u5 u6:Prop)=>u4/\u4/\not u0=false/\not u1=false/\u5/\u5/\u2=false/\not (intLe m 12)=false/\u6/\inR .i64 u3=true/\u6/\intLe 0 u3=true/\intLe u3 11=true/\intEq (ystR y) (ystR y)=true/\(∀J1:Nat->Value,Q (AV.tuple [AV.int .i64 (mstR' y (Int.add u3 1)),AV.int .i64 0]))) (not (not u0)=true) (not u2=true) (and u0 u1=true)) (intLe (Neg.neg 10000000000000000) y) (intLe y 10000000000000000) (not (intLe 1 m)) (Int.sub m 1)):=by kernel_rfl
theorem b278 (y m:Int) {Q:AV->Prop}:askA Q (pT XA6 noL 278 [.int .i64 y,.int .i64 m]) (dtN 11411442200220)=((fun (u3:AV) (u2:Int) (u0 u1:Prop)=>(fun (u4 u5:Int)=>u0/\u1/\u0/\u1/\(inR .i64 u2=true->(inR .i64 u4=true->Q (AV.tuple [AV.int .i64 u4,u3]))/\(inR .i64 u4=false->Q (AV.tuple [AV.int .i64 (IntKind.wrap .i64 u4),u3])))/\(inR .i64 u2=false->(inR .i64 u5=true->Q (AV.tuple [AV.int .i64 u5,u3]))/\(inR .i64 u5=false->Q (AV.tuple [AV.int .i64 (IntKind.wrap .i64 u5),u3])))) (Int.sub u2 1) (Int.sub (IntKind.wrap .i64 u2) 1)) (AV.int .i64 0) (Int.add (mstR' y m) (mlnR y m)) (and (intLe (Neg.neg 10000000000000000) y) (intLe y 10000000000000000)=true) (and (intLe 1 m) (intLe m 12)=true)):=by kernel_rfl
theorem body277:bodyOf tab 277=some (fnOf 277,codeOf 277):=by kernel_rfl
theorem body278:bodyOf tab 278=some (fnOf 278,codeOf 278):=by kernel_rfl
theorem loops277:(loopsOf (codeOf 277)).map (·.1)=[0]:=by kernel_rfl
theorem mst_1 (y:Int):mstR' y 1=ystR y:=by unfold mstR' mst mcum ystR;rw [if_pos (by decide)];omega
theorem mst_s {y m:Int} (h1:1≤m) (h2:m≤12):mstR' y (m+1)=mstR' y m+mlnR y m:=by
 unfold mstR' mst mlnR;rw [mcum_succ y m h1 h2];omega
theorem mlnR_bd (y m:Int):28≤mlnR y m/\mlnR y m≤31:=mlen_bd y m
theorem mst_bd {y m:Int} (hy : -10000000000000000≤y/\y≤10000000000000000) (h1:1≤m) (h2:m≤13) : -3652425000000000001≤mstR' y m/\mstR' y m≤3652425000000000800:=by
 have:=ystR_bd hy.1 (by omega)
 have:=mcum_bd y m h1 h2
 unfold mstR' mst
 unfold ystR at *
 omega
theorem lv277:LoopVOK Tryz.prog (cfgS cfg XA5) (Cw cfg []) (lb 277 0) 34 [0,7,22,23] v277:=by
 intro vs o t Q hv hq J
 unfold v277 at hv
 split at hv
 · rename_i y d k i
   cases hv
   obtain ⟨h1,hq1⟩:=asrts_wp hq
   obtain ⟨h2,hq2⟩:=asrts_wp hq1
   obtain ⟨h3,hq3⟩:=asrts_wp hq2
   obtain ⟨h4,hq4⟩:=asrts_wp hq3
   obtain ⟨h5,hq5⟩:=asrts_wp hq4
   clear hq hq1 hq2 hq3 hq4
   rw [q_le_t] at h2 h3
   rw [q_eq_t] at h4 h5
   subst h4 h5
   have hy:=okYb_iff.1 h1
   have hq:Q (.exit 0,[.int .i64 y,.int .i64 (mstR' y (k+1)),.int .i64 k,.int .i64 k],own0):=hq5
   refine lvOK XA5_ok rfl rfl lok_none (ι:={i:Nat // (i:Int)≤k}) (fun x=>[.int .i64 y,.int .i64 (mstR' y ((x.1:Int)+1)),.int .i64 k,.int .i64 (x.1:Int)]) (fun _=>own0) (fun x=>k.toNat-x.1) 0 (fun _=>Nat.zero_le _) (fun x J=>?_) (Nat.le_refl _) (fun J=>Wk.refl ⟨⟨0,h2⟩,J,by rw [←mst_1];rfl⟩) J
   obtain ⟨i,hi⟩:=x
   dsimp only
   refine wp_gen fun Q' hQ=>askA_wp ((r277 y (mstR' y ((i:Int)+1)) k i J).mpr ?_)
   dsimp only
   have go:(i:Int)<k->Q' (.normal,[.int .i64 y,.int .i64 (mstR' y ((i:Int)+1)+mlnR y ((i:Int)+1)),.int .i64 k,.int .i64 ((i:Int)+1)],own0):=fun h=>
    hQ (.normal,_,_) ⟨⟨i+1,by omega⟩,by dsimp only;omega,VW.of_eq (by rw [←mst_s (by omega) (by omega)];rfl) rfl⟩
   have fin:¬(i:Int)<k->Q' (.exit 0,[.int .i64 y,.int .i64 (mstR' y ((i:Int)+1)),.int .i64 k,.int .i64 (i:Int)],own0):=fun h=>by
    have e:(i:Int)=k:=by omega
    exact hQ (.exit 0,_,_) ⟨_,_,VW.of_eq (by rw [e]) rfl,hq⟩
   have b1:=mst_bd (m:=(i:Int)+1) hy (by omega) (by omega)
   have b2:=mlnR_bd y ((i:Int)+1)
   have om:okMb ((i:Int)+1)=(decide ((i:Int)<12)):=by
    rw [Bool.eq_iff_iff,okMb_iff,decide_eq_true_eq];omega
   clear hQ hq hq5
   simp only [q_all,reduceCtorEq,loK,hiK,ne_eq]
   generalize mstR' y ((i:Int)+1)=ms at *
   generalize mlnR y ((i:Int)+1)=ml at *
   (repeat' first|exact trivial|refine ⟨?_,?_⟩|intro)<;>first|omega|assumption|exact go (by omega)|exact fin (by omega)
 · cases hv
theorem XA6_ok:SumsOK Tryz.prog cfg XA6:=by
 refine sums_addP XA5_ok fun args t v he hv=>?_
 unfold s277 at he
 split at he
 · rename_i y m
   cases he
   obtain ⟨h1,hv⟩:=asrts_run hv
   obtain ⟨h2,hv⟩:=asrts_run hv
   rw [okMb_iff] at h2
   cases hv
   have hy:=okYb_iff.1 h1
   refine fpOK XA5_ok (L:=L277) body277 (by simp) (lok_at loops277 fun i hi e he st Q hw=>?_) (wp_gen fun Q' hQ=>askA_wp ((b277 y m).mpr ?_)) (by simp [idsA,idsL])
   · have hi:i=0:=by simp at hi;omega
     subst hi
     cases he
     exact loopE_ok (base0.good XA5_ok) (by decide) rfl lv277 hw
   · dsimp only
     have e1:Int.add (Int.sub m 1) 1=m:=by show m-1+1=m;omega
     rw [e1]
     simp only [q_all,reduceCtorEq,loK,hiK,ne_eq]
     (repeat' first|exact trivial|refine ⟨?_,?_⟩|intro)<;>first|omega|assumption|exact hQ _ rfl|rfl
 · cases he
theorem XA7_ok:SumsOK Tryz.prog cfg XA7:=by
 refine sums_addP XA6_ok fun args t v he hv=>?_
 unfold s278 at he
 split at he
 · rename_i y m
   cases he
   obtain ⟨h1,hv⟩:=asrts_run hv
   obtain ⟨h2,hv⟩:=asrts_run hv
   have hm:=okMb_iff.1 h2
   cases hv
   have hy:=okYb_iff.1 h1
   refine fpOK XA6_ok (L:=noL) body278 (by simp) lok_none (wp_gen fun Q' hQ=>askA_wp ((b278 y m).mpr ?_)) (by simp [idsA,idsL])
   dsimp only
   have b1:=mst_bd (m:=m) hy hm.1 (by omega)
   have b2:=mlnR_bd y m
   have e:=mst_s (y:=y) hm.1 hm.2
   rw [e] at hQ
   simp only [q_all,reduceCtorEq,loK,hiK,ne_eq]
   (repeat' first|exact trivial|refine ⟨?_,?_⟩|intro)<;>first|omega|assumption|exact hQ _ rfl
 · cases he
def s236f:Sum:=fun args=>match args with
 | [.int .i64 y,.int .i64 m]=>some (asrts [okYb y,okMb m] (.ret (.tuple [.int .i64 (mlnR y m),.int .i64 0])))
 | _=>none
def XA8:Sums:=addP XA7 236 s236f
def fR (c:Int):Int:=sFrom c
def mR (c:Int):Int:=sMany c
def okCo (c:Int):Bool:=intLe 21 c&&intLe c 41
def seaY (y c:Int):Int:=flo (12*y+(fR c-1)+(mR c-1)) 12
def seaM (y c:Int):Int:=moR (12*y+(fR c-1)+(mR c-1)) 12
def s221:Sum:=fun args=>match args with
 | [.int .i64 y,.int .i64 c]=>some (asrts [okYb y,okCo c] (.test (okYb (seaY y c)) fun b=>bif b then .ret (.tuple [.agg [.int .i8 0,.int .i64 (mstR' y (fR c)),.int .i8 0,.int .i64 (mstR' (seaY y c) (seaM y c+2)-1)],.int .i64 0]) else .ret (.tuple [.agg [.int .i8 0,.int .i64 0,.int .i8 0,.int .i64 0],.int .i64 6])))
 | _=>none
def s295:Sum:=fun args=>match args with
 | [.int .i64 a,.int .i64 b]=>some (asrts [inR .i64 (Int.add a b)] (.ret (.tuple [.int .i64 (Int.add a b),.int .i64 0])))
 | _=>none
def s279:Sum:=fun args=>match args with
 | [.int .i64 c]=>some (asrts [okCo c] (.ret (.tuple [.int .i64 (fR c),.int .i64 (mR c),.int .i64 0])))
 | _=>none
def XA9:Sums:=addP (addS XA8 295 s295) 279 s279
theorem b236 (y m:Int) {Q:AV->Prop}:askA Q (pT XA7 noL 236 [.int .i64 y,.int .i64 m]) (dtN 12200332203322)=((fun (u0 u1 u2:Bool)=>(fun (u3 u4:Prop)=>u3/\u3/\not u0=false/\not u1=false/\u4/\u4/\u2=false/\not (intLe m 12)=false/\and u0 u1=true/\and (intLe 1 m) (intLe m 12)=true/\Q (AV.tuple [AV.int .i64 (mlnR y m),AV.int .i64 0])) (not (not u0)=true) (not u2=true)) (intLe (Neg.neg 10000000000000000) y) (intLe y 10000000000000000) (not (intLe 1 m))):=by kernel_rfl
theorem b279 (c:Int) {Q:AV->Prop}:askA Q (pT XA8 noL 279 [.int .i64 c]) (dtN 11100044703322)=((fun (u2 u3 u4 u5 u6 u7:AV) (u0:Bool) (u1:Int)=>(fun (u9:List AV) (ua:Nat) (u8:Prop)=>(fun (ub uc:Bool)=>u8/\u8/\u0=false/\intLe 42 c=false/\inR .i64 u1=true/\intLe 0 u1=true/\natLt (Int.toNat u1) 21=true/\(ub=true->(uc=true->Q (AV.tuple [AV.int .i64 (intOf (List.getD u9 ua (AV.tuple []))),AV.int .i64 (intOf (List.getD u9 (HAdd.hAdd ua 1) (AV.tuple []))),AV.int .i64 0]))/\(uc=false->False))/\(ub=false->False)) (isKA .i64 (List.getD u9 ua (AV.tuple []))) (isKA .i64 (List.getD u9 (HAdd.hAdd ua 1) (AV.tuple [])))) [u2,u2,u3,u2,u4,u2,u5,u2,u2,u2,u3,u2,u4,u2,u5,u2,u4,u2,u5,u2,u2,u2,u3,u2,u6,u2,u7,u2,AV.int .i64 7,u2,AV.int .i64 10,u2,u6,u7,AV.int .i64 5,u7,u4,u7,u6,u3,AV.int .i64 7,u3] (HAdd.hAdd 0 (HMul.hMul (Int.toNat u1) 2)) (not u0=true)) (AV.int .i64 3) (AV.int .i64 6) (AV.int .i64 9) (AV.int .i64 12) (AV.int .i64 1) (AV.int .i64 4) (not (intLe 21 c)) (Int.sub c 21)):=by kernel_rfl
theorem b221 (y c:Int) {Q:AV->Prop}:askA Q (pT XA9 noL 221 [.int .i64 y,.int .i64 c]) (dtN 15231022002010004324002000200270332203370220020)=((fun (u6 u7:AV) (u0 u1 u2 u3:Bool) (u4 u5:Int)=>(fun (ua:Int) (u8 u9 ub:Prop)=>(fun (uc:Int)=>(fun (ue uf:Int) (ud:Prop)=>(fun (ug uh:Bool)=>(fun (ui:Bool)=>(fun (uj uk:Prop)=>and (intLe 21 c) (intLe c 41)=true/\and u0 u1=true/\and u2 u3=true/\inR .i64 u4=true/\u8/\u8/\not u0=false/\not u1=false/\u9/\u9/\not u2=false/\not u3=false/\inR .i64 (Int.mul 12 y)=true/\inR .i64 u5=true/\inR .i64 ua=true/\ud/\ud/\ud/\(uj->uj/\ui=false/\(not uh=true->ub)/\(not uh=false->inR .i64 uf=true/\and ug uh=true/\and (intLe 1 uf) (intLe uf 12)=true/\Q (AV.tuple [AV.agg [u6,AV.int .i64 (mstR' y (fR c)),u6,AV.int .i64 (HSub.hSub (mstR' ue (HAdd.hAdd uf 1)) 1)],u7])))/\(uk->uk/\ui=true/\ub)) (not ui=true) (not ui=false)) (not ug)) (intLe (Neg.neg 10000000000000000) ue) (intLe ue 10000000000000000)) (flo uc 12) (Int.add (moR uc 12) 1) (inR .i64 uc=true)) (Int.add ua u4)) (Int.add (Int.mul 12 y) u5) (not (not u0)=true) (not (not u2)=true) (Q (AV.tuple [AV.agg [u6,u7,u6,u7],AV.int .i64 6]))) (AV.int .i8 0) (AV.int .i64 0) (intLe (Neg.neg 10000000000000000) y) (intLe y 10000000000000000) (intLe 1 (fR c)) (intLe (fR c) 12) (Int.sub (mR c) 1) (Int.sub (fR c) 1)):=by kernel_rfl
theorem body236f:bodyOf tab 236=some (fnOf 236,codeOf 236):=by kernel_rfl
theorem body221:bodyOf tab 221=some (fnOf 221,codeOf 221):=by kernel_rfl
theorem body279:bodyOf tab 279=some (fnOf 279,codeOf 279):=by kernel_rfl
theorem okCo_iff {c:Int}:okCo c=true↔21≤c/\c≤41:=by unfold okCo;rw [Bool.and_eq_true,q_le_t,q_le_t]
theorem co_cases {c:Int} (h:21≤c/\c≤41):c=21∨c=22∨c=23∨c=24∨c=25∨c=26∨c=27∨c=28∨c=29∨c=30∨c=31∨c=32∨c=33∨c=34∨c=35∨c=36∨c=37∨c=38∨c=39∨c=40∨c=41:=by omega
theorem fR_bd {c:Int} (h:21≤c/\c≤41):(1≤fR c/\fR c≤12)/\(3≤mR c/\mR c≤6):=by
 rcases co_cases h with rfl|rfl|rfl|rfl|rfl|rfl|rfl|rfl|rfl|rfl|rfl|rfl|rfl|rfl|rfl|rfl|rfl|rfl|rfl|rfl|rfl<;>decide
theorem XA8_ok:SumsOK Tryz.prog cfg XA8:=by
 refine sums_addP XA7_ok fun args t v he hv=>?_
 unfold s236f at he
 split at he
 · rename_i y m
   cases he
   obtain ⟨h1,hv⟩:=asrts_run hv
   obtain ⟨h2,hv⟩:=asrts_run hv
   have hm:=okMb_iff.1 h2
   cases hv
   have hy:=okYb_iff.1 h1
   refine fpOK XA7_ok (L:=noL) body236f (by simp) lok_none (wp_gen fun Q' hQ=>askA_wp ((b236 y m).mpr ?_)) (by simp [idsA,idsL])
   simp only [q_all,reduceCtorEq,loK,hiK,ne_eq]
   (repeat' first|exact trivial|refine ⟨?_,?_⟩|intro)<;>first|omega|assumption|exact hQ _ rfl
 · cases he
theorem s295_ok:SumOK Tryz.prog cfg 295 s295:=fun args t v he hv=>by
 unfold s295 at he
 split at he
 · rename_i a b
   cases he
   obtain ⟨h1,hv⟩:=asrts_run hv
   cases hv
   refine sAdd_ok _ _ _ rfl ?_
   simp only [sAdd,Tr.run,h1,cond_true]
 · cases he
theorem XA9_ok:SumsOK Tryz.prog cfg XA9:=by
 refine sums_addP (sums_add XA8_ok s295_ok) fun args t v he hv=>?_
 · unfold s279 at he
   split at he
   · rename_i c
     cases he
     obtain ⟨h1,hv⟩:=asrts_run hv
     rw [okCo_iff] at h1
     cases hv
     refine fpOK XA8_ok (L:=noL) body279 (by simp) lok_none (wp_gen fun Q' hQ=>askA_wp ((b279 c).mpr ?_)) (by simp [idsA,idsL])
     dsimp only
     rcases co_cases h1 with rfl|rfl|rfl|rfl|rfl|rfl|rfl|rfl|rfl|rfl|rfl|rfl|rfl|rfl|rfl|rfl|rfl|rfl|rfl|rfl|rfl<;>(repeat' first|exact trivial|refine ⟨?_,?_⟩|intro)<;>first|rfl|exact hQ _ rfl|(rename_i h;exact absurd h (by decide))
   · cases he
theorem add221 {S:Sums} (hS:SumsOK Tryz.prog cfg S):SumsOK Tryz.prog cfg (addP S 221 s221):=by
 refine sums_addP hS fun args t v he hv=>?_
 unfold s221 at he
 split at he
 · rename_i y c
   cases he
   obtain ⟨h1,hv⟩:=asrts_run hv
   obtain ⟨h2,hv⟩:=asrts_run hv
   rw [okYb_iff] at h1
   rw [okCo_iff] at h2
   obtain ⟨hf,hm⟩:=fR_bd h2
   have hv':Tr.run (bif okYb (seaY y c) then .ret (.tuple [.agg [.int .i8 0,.int .i64 (mstR' y (fR c)),.int .i8 0,.int .i64 (mstR' (seaY y c) (seaM y c+2)-1)],.int .i64 0]) else .ret (.tuple [.agg [.int .i8 0,.int .i64 0,.int .i8 0,.int .i64 0],.int .i64 6]))=some v:=hv
   have ids:idsA v=[]:=by
    cases hb:okYb (seaY y c)<;>rw [hb] at hv'<;>cases hv'<;>simp [idsA,idsL]
   refine fpOK XA9_ok (L:=noL) body221 (by simp) lok_none (wp_gen fun Q' hQ=>askA_wp ((b221 y c).mpr ?_)) ids
   dsimp only
   have yes:okYb (seaY y c)=true->Q' (.tuple [.agg [.int .i8 0,.int .i64 (mstR' y (fR c)),.int .i8 0,.int .i64 (mstR' (seaY y c) (seaM y c+1+1)-1)],.int .i64 0]):=fun h=>by
    rw [h] at hv';cases hv';exact hQ _ (by rw [show seaM y c+1+1=seaM y c+2 by omega])
   have no:okYb (seaY y c)=false->Q' (.tuple [.agg [.int .i8 0,.int .i64 0,.int .i8 0,.int .i64 0],.int .i64 6]):=fun h=>by
    rw [h] at hv';cases hv';exact hQ _ rfl
   have e1:flo (12*y+(fR c-1)+(mR c-1)) 12=seaY y c:=rfl
   have e2:moR (12*y+(fR c-1)+(mR c-1)) 12=seaM y c:=rfl
   have sm:0≤seaM y c/\seaM y c≤11:=by unfold seaM moR;omega
   clear hQ hv hv' ids
   simp only [q_all,reduceCtorEq,loK,hiK,ne_eq,e1,e2]
   have yi:=@okYb_iff (seaY y c)
   have yn:okYb (seaY y c)=false↔¬(-10000000000000000≤seaY y c/\seaY y c≤10000000000000000):=by rw [←yi,Bool.not_eq_true]
   generalize seaY y c=sy at *
   generalize seaM y c=sm' at *
   (repeat' first|exact trivial|refine ⟨?_,?_⟩|intro)<;>first|omega|exact yes (yi.2 (by omega))|exact no (yn.2 (by omega))
 · cases he
def s172:Sum:=fun args=>match args with
 | [.agg [.bool ng,.bool lg,.str s,.int .i64 e,.int .i64 g,.str mo,.str da,.int .u8 a,.int .u8 b,.int .u8 c]]=>some (asrts [Nat.ble s.length 1000,Nat.ble mo.length 1000,Nat.ble da.length 1000,inR .i64 e,inR .i64 g,inR .u8 a,inR .u8 b,inR .u8 c] (.ret (.tuple [.int .i64 (seasR mo),.bool (!(intEq (seasR mo) 0))])))
 | _=>none
def D2s:Sums:=addP (addP (addP D1s 172 s172) 154 s154) 221 s221
def s173:Sum:=fun args=>match args with
 | [.agg [.bool ng,.bool lg,.str s,.int .i64 e,.int .i64 g,.str mo,.str da,.int .u8 a,.int .u8 b,.int .u8 c]]=>some (asrts [Nat.ble s.length 1000,Nat.ble mo.length 1000,Nat.ble da.length 1000,inR .i64 e,inR .i64 g,inR .u8 a,inR .u8 b,inR .u8 c] (.ret (.bool (okDYR ng lg s e g mo))))
 | _=>none
def D3s:Sums:=addP D2s 173 s173
def s113:Sum:=fun args=>match args with
 | [.agg [.bool ng,.bool lg,.str s,.int .i64 e,.int .i64 g,.str mo,.str da,.int .u8 a,.int .u8 b,.int .u8 c]]=>some (asrts [Nat.ble s.length 1000,Nat.ble mo.length 1000,Nat.ble da.length 1000,inR .i64 e,inR .i64 g,inR .u8 a,inR .u8 b,inR .u8 c] (.ret (.int .i64 (errD ng lg s e g mo da a b c))))
 | _=>none
theorem b173 (ng lg:Bool) (s:List UInt8) (e g:Int) (mo da:List UInt8) (a b c:Int) {Q:AV->Prop}:askA Q (pT D2s noL 173 [.agg [.bool ng,.bool lg,.str s,.int .i64 e,.int .i64 g,.str mo,.str da,.int .u8 a,.int .u8 b,.int .u8 c]]) (dtN 10230003810233110104400111010444042005143020524227700063323310233110104400111010444042005143020524227700614370242202242005)=((fun (u1 u2 u3 u6:Bool) (u5 u9:Int) (u0 u4 u7:Prop)=>(fun (ua uc ud ue uf ug uh:Bool) (ub ui:Prop)=>(fun (uj uk ul um un:Prop)=>(fun (uo:Prop)=>u0/\(uj->uj/\uj/\uj/\uj/\(ub->ub/\ub/\uj/\ub/\ua=false/\(u3=true->u4)/\(u3=false->uo))/\(ui->ui/\ui/\uj/\ui/\ua=false/\uo))/\(un->un/\un/\un/\un/\un/\ua=true/\u4)) (u0/\Nat.ble (List.length mo) 1000=true/\Nat.ble (List.length da) 1000=true/\inR .i64 e=true/\inR .i64 g=true/\inR .u8 a=true/\inR .u8 b=true/\inR .u8 c=true/\(uk->uk/\uk/\uc=false/\(not u6=true->u7)/\(not u6=false->u0/\(ud=true->(ue=true->(uf=true->(ug=true->u7)/\(ug=false->u4))/\ul)/\(ue=false->False))/\(ud=false->(uf=true->(uh=true->u7)/\(uh=false->u4))/\ul)))/\(um->um/\um/\uc=true/\u7))) (not ua=true) (not uc=true) (uf=false->False) (not uc=false) (not ua=false)) (not (intEq (cond u1 0 6) 0)) (not (not (intEq u5 0))) (and u1 u6) (and (intLe (Neg.neg 10000000000000000) u9) (intLe u9 10000000000000000)) (and (intLe 21 u5) (intLe u5 41)) (and (intLe (Neg.neg 10000000000000000) (seaY u9 u5)) (intLe (seaY u9 u5) 10000000000000000)) (and (intLe (Neg.neg 10000000000000000) (seaY 0 u5)) (intLe (seaY 0 u5) 10000000000000000)) (u2=true) (u2=false)) (okY14 ng lg s e g) (not (intLe g 0)) (not (bytesEq mo [])) (Nat.beq (hasN s 88 88) 0) (seasR mo) (valR ng s e) (Nat.ble (List.length s) 1000=true) (Q (AV.bool false)) (Q (AV.bool true))):=by kernel_rfl
theorem b113 (ng lg:Bool) (s:List UInt8) (e g:Int) (mo da:List UInt8) (a b c:Int) {Q:AV->Prop}:askA Q (pT D3s noL 113 [.agg [.bool ng,.bool lg,.str s,.int .i64 e,.int .i64 g,.str mo,.str da,.int .u8 a,.int .u8 b,.int .u8 c]]) (dtN 122700056335330810202573220240005331227000563353308107382327024003812270005633533081227005614232200020732702401422000202422401422770062277006)=((fun (u9 ua ub uc ud ue:Bool) (ug:Int) (u0 u1 u2 u3 u4 u5 u6 u7 uf:Prop)=>(fun (uh ui uj uk ul um un:Prop)=>(fun (uo:Prop)=>u0/\u1/\u2/\u3/\u4/\u5/\u6/\u7/\u0/\u1/\u2/\u3/\u4/\u5/\u6/\u7/\(u9=true->Q (AV.int .i64 6))/\(u9=false->(uh->uh/\uh/\(ui->ui/\ui/\ui/\ui/\(uc=true->Q (AV.int .i64 7))/\(uc=false->(uj->uj/\uj/\uj/\uh/\uj/\ua=false/\uj/\ui/\ui/\ui/\ui/\uj/\ub=false/\uj/\(ue=true->uf)/\(ue=false->uk))/\uo))/\(um->um/\um/\um/\um/\(uj->uj/\uj/\uj/\uh/\uj/\ua=false/\uj/\um/\um/\um/\um/\uj/\ub=true/\uj/\uf)/\uo))/\(un->un/\un/\(uj->uj/\uj/\uj/\un/\uj/\ua=true/\uj/\uj/\uj/\uf)/\uo))) (ul->ul/\ul/\ul/\ul/\ul/\ul/\ul/\uk)) (not ua=true) (not ub=true) (ud=true) (u5/\u6/\u7/\intLe 1 ug=true/\intLe ug 3=true/\Q (AV.int .i64 (errMk a b c ug))) (ud=false) (not ub=false) (not ua=false)) (not (okDYR ng lg s e g mo)) (bytesEq mo []) (not (intEq (seasR mo) 0)) (not (someA mo 12)) (not (bytesEq da [])) (not (someA da 31)) (compsR mo da) (Nat.ble (List.length s) 1000=true) (Nat.ble (List.length mo) 1000=true) (Nat.ble (List.length da) 1000=true) (inR .i64 e=true) (inR .i64 g=true) (inR .u8 a=true) (inR .u8 b=true) (inR .u8 c=true) (Q (AV.int .i64 8))):=by kernel_rfl
theorem body173:bodyOf tab 173=some (fnOf 173,codeOf 173):=by kernel_rfl
theorem body113:bodyOf tab 113=some (fnOf 113,codeOf 113):=by kernel_rfl
theorem body172:bodyOf tab 172=some (fnOf 172,codeOf 172):=by kernel_rfl
theorem cndP {P:Int->Prop} {b:Bool} {x y:Int} (hx:P x) (hy:P y):P (bif b then x else y):=by cases b<;>assumption
theorem seasR_code (mo:List UInt8):seasR mo=0∨21≤seasR mo/\seasR mo≤41:=by
 unfold seasR
 (repeat' refine cndP (P:=fun z=>z=0∨21≤z/\z≤41) ?_ ?_)<;>decide
theorem fR_sum {c:Int} (h:21≤c/\c≤41):(fR c+mR c-2<12↔¬(c=24∨c=28∨c=30))/\0≤fR c+mR c-2/\fR c+mR c-2<24:=by
 rcases co_cases h with rfl|rfl|rfl|rfl|rfl|rfl|rfl|rfl|rfl|rfl|rfl|rfl|rfl|rfl|rfl|rfl|rfl|rfl|rfl|rfl|rfl<;>decide
theorem seaY_q (y:Int) {c:Int} (h:21≤c/\c≤41):((c=24∨c=28∨c=30)->seaY y c=y+1)/\(¬(c=24∨c=28∨c=30)->seaY y c=y):=by
 obtain ⟨h1,h2,h3⟩:=fR_sum h
 unfold seaY flo
 constructor
 · intro hc
   have:=fun h'=>h1.1 h' hc
   omega
 · intro hc
   have:=h1.2 hc
   omega
theorem D2s_ok:SumsOK Tryz.prog cfg D2s:=by
 refine add221 (add154 (sums_addP D1s_ok fun args t v he hv=>?_))
 unfold s172 at he
 split at he
 · rename_i ng lg s e g mo da a b c
   cases he
   obtain ⟨h1,hv⟩:=asrts_run hv
   obtain ⟨h2,hv⟩:=asrts_run hv
   obtain ⟨h3,hv⟩:=asrts_run hv
   obtain ⟨h4,hv⟩:=asrts_run hv
   obtain ⟨h5,hv⟩:=asrts_run hv
   obtain ⟨h6,hv⟩:=asrts_run hv
   obtain ⟨h7,hv⟩:=asrts_run hv
   obtain ⟨h8,hv⟩:=asrts_run hv
   rw [q_ble_t] at h1 h2 h3
   rw [q_i64] at h4 h5
   rw [q_inR_t] at h6 h7 h8
   simp only [loK,hiK] at h6 h7 h8
   cases hv
   refine fact_calls body172 (by simp [idsA,idsL]) fun m w hG=>?_
   have:=Go.Proofs.YtafekjglclnegaaGreatDoor.Season (dt ng lg s e g mo da a b c) w hG ⟨⟨by show s.length≤_;omega,by show mo.length≤_;omega,by show da.length≤_;omega⟩,⟨h4,h5⟩,⟨h6.1,h6.2⟩,⟨h7.1,h7.2⟩,⟨h8.1,h8.2⟩⟩
   rw [show Go.Proofs.YtafekjglclnegaaGreatDoor.seas (dt ng lg s e g mo da a b c)=seasR mo from seas_eq mo] at this
   have e:decide (seasR mo≠0)=!(intEq (seasR mo) 0):=by
    rw [Bool.eq_iff_iff,decide_eq_true_eq,Bool.not_eq_true',q_eq_f]
   rw [e] at this
   simpa [concL,conc] using this
 · cases he
theorem D3s_ok:SumsOK Tryz.prog cfg D3s:=by
 refine sums_addP D2s_ok fun args t v he hv=>?_
 unfold s173 at he
 split at he
 · rename_i ng lg s e g mo da a b c
   cases he
   obtain ⟨h1,hv⟩:=asrts_run hv
   obtain ⟨h2,hv⟩:=asrts_run hv
   obtain ⟨h3,hv⟩:=asrts_run hv
   obtain ⟨h4,hv⟩:=asrts_run hv
   obtain ⟨h5,hv⟩:=asrts_run hv
   obtain ⟨h6,hv⟩:=asrts_run hv
   obtain ⟨h7,hv⟩:=asrts_run hv
   obtain ⟨h8,hv⟩:=asrts_run hv
   rw [q_ble_t] at h1 h2 h3
   rw [q_inR_t] at h4 h5 h6 h7 h8
   simp only [loK,hiK] at h4 h5 h6 h7 h8
   cases hv
   refine fpOK D2s_ok (L:=noL) body173 (by simp) lok_none (wp_gen fun Q' hQ=>askA_wp ((b173 ng lg s e g mo da a b c).mpr ?_)) (by simp [idsA])
   dsimp only
   have yes:okDYR ng lg s e g mo=true->Q' (.bool true):=fun h=>hQ _ (by rw [h])
   have no:¬okDYR ng lg s e g mo=true->Q' (.bool false):=fun h=>hQ _ (by rw [Bool.not_eq_true] at h;rw [h])
   unfold okDYR at yes no
   rw [decide_eq_true_eq] at yes no
   have sc:=seasR_code mo
   have sq:=fun h=>@seaY_q (valR ng s e) (seasR mo) h
   have onum:=@okY_num ng lg s e g
   have vt:ng=true->valR ng s e = -(magV s e.toNat:Int):=fun h=>by rw [h];rfl
   have vf:ng=false->valR ng s e=(magV s e.toNat:Int):=fun h=>by rw [h];rfl
   clear hQ
   cases hO:okY14 ng lg s e g with
   | false=>
     have no:=no (by rw [hO];simp)
     clear yes vt vf onum sq sc
     simp only [cond_false,Bool.false_and,q_all,reduceCtorEq,loK,hiK,ne_eq]
     generalize valR ng s e=vr at *
     (repeat' first|exact trivial|refine ⟨?_,?_⟩|intro)<;>first|omega|exact no|(exfalso;assumption)
   | true=>
     rw [hO] at yes no
     have onum:=onum hO
     simp only [cond_true,Bool.true_and,q_all,reduceCtorEq,loK,hiK,ne_eq] at yes no ⊢
     by_cases hx:hasN s 88 88=0
     · obtain ⟨k1,k2,k3,k4,k5⟩:=onum hx
       rw [hx,k4] at yes no
       rw [hx]
       clear onum k3 k4
       generalize seaY (valR ng s e) (seasR mo)=sy at *
       generalize seaY 0 (seasR mo)=s0 at *
       generalize valR ng s e=vr at *
       generalize magV s e.toNat=mv at *
       generalize seasR mo=S at *
       generalize bytesEq mo []=me at *
       have sq1:¬S=0->(S=24∨S=28∨S=30)->sy=vr+1:=fun h=>(sq (by omega)).1
       have sq2:¬S=0->¬(S=24∨S=28∨S=30)->sy=vr:=fun h=>(sq (by omega)).2
       clear sq hx hO
       cases ng with
       | true=>
         have vr':=vt rfl
         clear vt vf
         have sb:¬S=0->-10000000000000000≤sy/\sy≤10000000000000000:=fun h=>by
          by_cases hc:S=24∨S=28∨S=30
          · have:=sq1 h hc;omega
          · have:=sq2 h hc;omega
         simp only [reduceCtorEq,and_false,not_false_eq_true,or_true,and_true,true_and] at yes no
         (repeat' first|exact trivial|refine ⟨?_,?_⟩|intro)<;>first|omega|(exfalso;assumption)|(apply yes;grind)|(apply no;grind)|grind
       | false=>
         have vr':=vf rfl
         clear vt vf
         have sb:¬S=0->-10000000000000000≤sy:=fun h=>by
          by_cases hc:S=24∨S=28∨S=30
          · have:=sq1 h hc;omega
          · have:=sq2 h hc;omega
         have sb2:¬S=0->10000000000000000<sy->(S=24∨S=28∨S=30)/\mv=10000000000000000:=fun h h'=>by
          by_cases hc:S=24∨S=28∨S=30
          · have:=sq1 h hc;exact ⟨hc,by omega⟩
          · have:=sq2 h hc;omega
         have sb3:¬S=0->sy≤10000000000000000->¬(S=24∨S=28∨S=30)∨¬mv=10000000000000000:=fun h h'=>by
          by_cases hc:S=24∨S=28∨S=30
          · have:=sq1 h hc;exact .inr (by omega)
          · exact .inl hc
         simp only [and_true,true_and] at yes no
         (repeat' first|exact trivial|refine ⟨?_,?_⟩|intro)<;>first|omega|(exfalso;assumption)|(apply yes;grind)|(apply no;grind)|grind
     · clear onum
       generalize seaY (valR ng s e) (seasR mo)=sy at *
       generalize seaY 0 (seasR mo)=s0 at *
       generalize valR ng s e=vr at *
       generalize magV s e.toNat=mv at *
       generalize seasR mo=S at *
       generalize hasN s 88 88=X at *
       generalize magOk s e.toNat=mk at *
       generalize bytesEq mo []=me at *
       (repeat' first|exact trivial|refine ⟨?_,?_⟩|intro)<;>first|omega|(exfalso;assumption)|(apply yes;grind)|(apply no;grind)|grind
 · cases he
theorem compsR_bd (mo da:List UInt8):1≤compsR mo da/\compsR mo da≤3:=by
 unfold compsR;cases bytesEq mo []<;>cases bytesEq da []<;>decide
theorem add113 {S:Sums} (hS:SumsOK Tryz.prog cfg S):SumsOK Tryz.prog cfg (addP S 113 s113):=by
 refine sums_addP hS fun args t v he hv=>?_
 unfold s113 at he
 split at he
 · rename_i ng lg s e g mo da a b c
   cases he
   obtain ⟨h1,hv⟩:=asrts_run hv
   obtain ⟨h2,hv⟩:=asrts_run hv
   obtain ⟨h3,hv⟩:=asrts_run hv
   obtain ⟨h4,hv⟩:=asrts_run hv
   obtain ⟨h5,hv⟩:=asrts_run hv
   obtain ⟨h6,hv⟩:=asrts_run hv
   obtain ⟨h7,hv⟩:=asrts_run hv
   obtain ⟨h8,hv⟩:=asrts_run hv
   rw [q_ble_t] at h1 h2 h3
   rw [q_inR_t] at h4 h5 h6 h7 h8
   simp only [loK,hiK] at h4 h5 h6 h7 h8
   cases hv
   refine fpOK D3s_ok (L:=noL) body113 (by simp) lok_none (wp_gen fun Q' hQ=>askA_wp ((b113 ng lg s e g mo da a b c).mpr ?_)) (by simp [idsA])
   dsimp only
   have fin:∀v:Int,v=errD ng lg s e g mo da a b c->Q' (.int .i64 v):=fun v h=>hQ _ (by rw [h])
   have cb:=compsR_bd mo da
   have sc:=seasR_code mo
   unfold errD at fin
   clear hQ
   simp only [q_all,reduceCtorEq,loK,hiK,ne_eq]
   generalize errMk a b c (compsR mo da)=em at *
   generalize compsR mo da=cm at *
   generalize okDYR ng lg s e g mo=ok at *
   generalize seasR mo=S at *
   generalize someA mo 12=m12 at *
   generalize someA da 31=d31 at *
   generalize bytesEq mo []=me at *
   generalize bytesEq da []=de at *
   (repeat' first|exact trivial|refine ⟨?_,?_⟩|intro)<;>first|omega|assumption|(apply fin;grind)|grind
 · cases he
end Go.Ev
