import Derived.Test.YtafekjglclnegaaGreatDoorP38
set_option linter.all false
set_option maxRecDepth 100000
set_option maxHeartbeats 4000000
namespace Go.Ev
open Go Go.Proofs
def mAtR (i:Int):Int:=mstR' (flo i 12) (moR i 12+1)
def v31:LoopV:=fun vs o=>match vs,o with
 | [.int .i64 y,.ptr 14 0,.int .i64 f,.int .i64 n,.int .i64 lo,.int .i64 hi,.int .i64 k],⟨2,[.cells w true none,.cells [.int .i8 0,.int .i64 0,.int .i8 0,.int .i64 0] true none],[]⟩=>some (asrts [okYb y,intEq k 0,intEq hi (mAtR (12*y+f-1)-1),okMb f,intLe 3 n,intLe n 6] (.ret (.exit 0,[.int .i64 y,.ptr 14 0,.int .i64 f,.int .i64 n,.int .i64 lo,.int .i64 (mAtR (12*y+f-1+n)-1),.int .i64 n],o)))
 | _,_=>none
def L31:Loops:=addL noL 0 (loopE 49 [0,4,5,6,7,8,9] v31)
def vR (lo hi:Int):AV:=.agg [.int .i8 0,.int .i64 lo,.int .i8 0,.int .i64 hi]
def s31:Sum:=fun args=>match args with
 | [.int .i64 y,.int .i64 c]=>some (asrts [okYb y,okCo c,okYb (seaY y c)] (.ret (vR (mstR' y (fR c)) (mstR' (seaY y c) (seaM y c+2)-1))))
 | _=>none
def unL (y m d:Int):Int:=bif intEq m 0 then ystR y else bif intLe 13 m then mstR' y (fR m) else bif intEq d 0 then mstR' y m else mstR' y m+d-1
def unH (y m d:Int):Int:=bif intEq m 0 then ystR (y+1)-1 else bif intLe 13 m then mstR' (seaY y m) (seaM y m+2)-1 else bif intEq d 0 then mstR' y (m+1)-1 else mstR' y m+d-1
def okUn (y m d:Int):Bool:=okYb y&&(intLe 0 d&&intLe d 31&&(intEq m 0 || (okMb m || okCo m&&okYb (seaY y m))))
def s9:Sum:=fun args=>match args with
 | [.int .i64 y,.int .i64 m,.int .i64 d]=>some (asrts [okUn y m d] (.ret (vR (unL y m d) (unH y m d))))
 | _=>none
def okVl (s:List UInt8) (e:Int):Bool:=Nat.ble s.length 1000&&(digL s&&(intLe 0 e&&(intLe e 1000&&magOk s e.toNat)))
def s51:Sum:=fun args=>match args with
 | [.agg [.bool ng,.bool lg,.str s,.int .i64 e,.int .i64 g,.str mo,.str da,.int .u8 a,.int .u8 b,.int .u8 c]]=>some (asrts [okVl s e,okNu mo,okNu da,okUn (valR ng s e) (nuR mo) (nuR da)] (.ret (vR (unL (valR ng s e) (nuR mo) (nuR da)) (unH (valR ng s e) (nuR mo) (nuR da)))))
 | _=>none
def GZ2:Sums:=addP R3 31 s31
def GZ4:Sums:=addP (addP (addP nilS 9 s9) 107 s107) 108 s108
theorem r31 (y f n lo hi k:Int) (w:List AV) (J:Nat->Value) {Q:VQ->Prop}:askA Q (rT R3 noL [] 31 0 49 [0,4,5,6,7,8,9] [.int .i64 y,.ptr 14 0,.int .i64 f,.int .i64 n,.int .i64 lo,.int .i64 hi,.int .i64 k] J ⟨2,[.cells w true none,.cells [.int .i8 0,.int .i64 0,.int .i8 0,.int .i64 0] true none],[]⟩) (dtN 117017022424)=((fun (u4 u5 u6 u7 u8 u9:AV) (u0:Bool) (u1:Int) (u2 u3:Prop)=>(fun (ua:Bool) (ub uc:Int)=>(fun (ud:Int)=>(u0=true->inR .i64 u1=true/\(ua=true->inR .i64 ub=true/\u2/\u2/\inR .i64 ud=true/\u3/\Q (AX.normal,([u4,u5,u6,u7,u8,AV.int .i64 ud,u9],{ n:=2,os:=[AObj.cells w true Option.none,AObj.cells [AV.int .i8 0,AV.int .i64 0,AV.int .i8 0,AV.int .i64 0] true Option.none],le:=[] })))/\(ua=false->inR .i64 y=true/\inR .i64 uc=true/\u3/\Q (AX.normal,([u4,u5,u6,u7,u8,AV.int .i64 uc,u9],{ n:=2,os:=[AObj.cells w true Option.none,AObj.cells [AV.int .i8 0,AV.int .i64 0,AV.int .i8 0,AV.int .i64 0] true Option.none],le:=[] }))))/\(u0=false->Q (AX.exit 0,([u4,u5,u6,u7,u8,AV.int .i64 hi,AV.int .i64 k],{ n:=2,os:=[AObj.cells w true Option.none,AObj.cells [AV.int .i8 0,AV.int .i64 0,AV.int .i8 0,AV.int .i64 0] true Option.none],le:=[] })))) (Int.add hi (mlnR (Int.add y 1) ub))) (not (intLe u1 12)) (Int.sub u1 12) (Int.add hi (mlnR y u1))) (AV.int .i64 y) (AV.ptr 14 0) (AV.int .i64 f) (AV.int .i64 n) (AV.int .i64 lo) (AV.int .i64 (Int.add k 1)) (not (intLe n k)) (Int.add f k) (inR .i64 (Int.add y 1)=true) (inR .i64 (Int.add k 1)=true)):=by kernel_rfl
theorem b31 (y c:Int) {Q:AV->Prop}:askA Q (pT R3 L31 31 [.int .i64 y,.int .i64 c]) (dtN 111111544021115440240044203111115440211154402400442011111544021115440240044204447)=((fun (u1 u2 u3 u4 u5 u9:AV) (u6 u7:Bool) (u0:Int) (u8:Prop)=>(fun (ua:Bool) (ub:Int)=>(fun (uf:AV) (uc:Bool) (ue:Int) (ud ug:Prop)=>(fun (uj uk um:Bool) (uh ui ul un:Prop)=>(fun (uo up uq ur us ut:Prop)=>(fun (uu uv uw:Prop)=>inR .i64 u0=true/\intLe 0 u0=true/\natLt (Int.toNat u0) 21=true/\(ua=true->(u6=true->(u7=true->u8/\(uh->(ud->(ui->u8/\(uo->uu)/\ur)/\(ul->u8/\(us->uu)/\ut))/\ug)/\un)/\(u7=false->u8/\(uh->(ud->(ui->u8/\(uo->uv)/\ur)/\(ul->u8/\(us->uv)/\ut))/\ug)/\un))/\(u6=false->u7=false/\u8/\(uh->(ud->(ui->u8/\(uo->uw)/\ur)/\(ul->u8/\(us->uw)/\ut))/\ug)/\un))/\(ua=false->False)) ((up->(∀J1:Nat->Value,Q (AV.agg [u9,uf,u9,AV.int .i64 (HSub.hSub (mAtR (HAdd.hAdd (HSub.hSub (HAdd.hAdd (HMul.hMul 12 y) ub) 1) 6)) 1)])))/\uq) ((up->(∀J1:Nat->Value,Q (AV.agg [u9,uf,u9,AV.int .i64 (HSub.hSub (mAtR (HAdd.hAdd (HSub.hSub (HAdd.hAdd (HMul.hMul 12 y) ub) 1) 4)) 1)])))/\uq) ((up->(∀J1:Nat->Value,Q (AV.agg [u9,uf,u9,AV.int .i64 (HSub.hSub (mAtR (HAdd.hAdd (HSub.hSub (HAdd.hAdd (HMul.hMul 12 y) ub) 1) 3)) 1)])))/\uq)) (uj=true) (uk=true) (uk=false->False) (uj=false->False) (um=true) (um=false->False)) (intEq ue (HSub.hSub (mAtR (HSub.hSub (HAdd.hAdd (HMul.hMul 12 y) ub) 1)) 1)) (and uc (intLe ub 12)) (intEq (IntKind.wrap .i64 ue) (HSub.hSub (mAtR (HSub.hSub (HAdd.hAdd (HMul.hMul 12 y) ub) 1)) 1)) (uc=true) (inR .i64 ue=true) (inR .i64 ue=false) (uc=false->False)) (AV.int .i64 (HSub.hSub (HAdd.hAdd (mstR' y ub) 1) 1)) (intLe 1 ub) (Int.sub (HSub.hSub (HAdd.hAdd (mstR' y ub) 1) 1) 1) (intLe ub 13=true) (intLe ub 13=false->False)) (isKA .i64 (List.getD [u1,u2,u3,u4,u1,u2,u3,u4,u3,u4,u1,u2,u5,AV.int .i64 4,AV.int .i64 7,AV.int .i64 10,u5,AV.int .i64 5,u3,u5,AV.int .i64 7] (HAdd.hAdd 0 (HMul.hMul (Int.toNat u0) 1)) (AV.tuple []))) (intOf (List.getD [u1,u2,u3,u4,u1,u2,u3,u4,u3,u4,u1,u2,u5,AV.int .i64 4,AV.int .i64 7,AV.int .i64 10,u5,AV.int .i64 5,u3,u5,AV.int .i64 7] (HAdd.hAdd 0 (HMul.hMul (Int.toNat u0) 1)) (AV.tuple [])))) (AV.int .i64 3) (AV.int .i64 6) (AV.int .i64 9) (AV.int .i64 12) (AV.int .i64 1) (AV.int .i8 0) (not (intLe c 36)) (not (intLe c 39)) (Int.sub c 21) (and (intLe (Neg.neg 10000000000000000) y) (intLe y 10000000000000000)=true)):=by kernel_rfl
theorem b9 (y m d:Int) {Q:AV->Prop}:askA Q (pT GZ2 noL 9 [.int .i64 y,.int .i64 m,.int .i64 d]) (dtN 110022702740110070007000224041111044404100220220204)=((fun (u3 ud:AV) (u4 u6:Bool) (u1 ua:Int) (u0 u2 u5 u7 u8 u9 ub uc:Prop)=>(fun (ue:Int)=>(intEq m 0=true->u0/\u0/\inR .i64 u1=true/\u2/\inR .i64 ue=true/\Q (AV.agg [u3,AV.int .i64 (ystR y),u3,AV.int .i64 ue]))/\(intEq m 0=false->(u4=true->(u5->(okCo m=true->(u6=true->Q (AV.agg [u3,AV.int .i64 (mstR' y (fR m)),u3,AV.int .i64 (HSub.hSub (mstR' (seaY y m) (HAdd.hAdd (seaM y m) 2)) 1)]))/\(u6=false->False))/\(okCo m=false->False))/\u7)/\(u4=false->(intEq d 0=true->(u5->u8/\u9/\u5/\u8/\u9/\u2/\inR .i64 ua=true/\inR .i64 (Int.sub ua 1)=true/\Q (AV.agg [u3,AV.int .i64 (HSub.hSub (HAdd.hAdd (mstR' y m) 1) 1),u3,AV.int .i64 (Int.sub ua 1)]))/\u7)/\(intEq d 0=false->(u5->u8/\u9/\ub/\uc/\u5/\u8/\u9/\ub/\uc/\Q (AV.agg [u3,ud,u3,ud]))/\u7)))) (Int.add u1 (lpR y))) (AV.int .i8 0) (AV.int .i64 (HSub.hSub (HAdd.hAdd (mstR' y m) d) 1)) (not (intLe m 12)) (okYb (seaY y m)) (Int.add (ystR y) 364) (Int.add (HSub.hSub (HAdd.hAdd (mstR' y m) 1) 1) (mlnR y m)) (and (intLe (Neg.neg 10000000000000000) y) (intLe y 10000000000000001)=true) (inR .i64 y=true) (okYb y=true) (okYb y=false->False) (intLe 1 m=true) (intLe m 13=true) (intLe 1 d=true) (intLe d 31=true)):=by kernel_rfl
theorem b51 (ng lg:Bool) (s:List UInt8) (e g:Int) (mo da:List UInt8) (a b c:Int) {Q:AV->Prop}:askA Q (pT GZ4 noL 51 [.agg [.bool ng,.bool lg,.str s,.int .i64 e,.int .i64 g,.str mo,.str da,.int .u8 a,.int .u8 b,.int .u8 c]]) (dtN 11111111104040040044444005)=((fun (u0 u1:Bool) (u2:Int)=>(u0=true->(digL s=true->(intLe 0 e=true->(intLe e 1000=true->(u1=true->(okNu mo=true->(okNu da=true->(okUn u2 (nuR mo) (nuR da)=true->Q (AV.agg [AV.int .i8 0,AV.int .i64 (unL u2 (nuR mo) (nuR da)),AV.int .i8 0,AV.int .i64 (unH u2 (nuR mo) (nuR da))]))/\(okUn u2 (nuR mo) (nuR da)=false->False))/\(okNu da=false->False))/\(okNu mo=false->False))/\(u1=false->False))/\(intLe e 1000=false->False))/\(intLe 0 e=false->False))/\(digL s=false->False))/\(u0=false->False)) (Nat.ble (List.length s) 1000) (magOk s (Int.toNat e)) (valR ng s e)):=by kernel_rfl
theorem body31:bodyOf tab 31=some (fnOf 31,codeOf 31):=by kernel_rfl
theorem body9:bodyOf tab 9=some (fnOf 9,codeOf 9):=by kernel_rfl
theorem body51:bodyOf tab 51=some (fnOf 51,codeOf 51):=by kernel_rfl
theorem loops31:(loopsOf (codeOf 31)).map (·.1)=[0]:=by kernel_rfl
theorem mst_n (y:Int):mstR' y 13=mstR' (y+1) 1:=Go.Proofs.YtafekjglclnegaaGreatDoor.mst_next y
theorem mAt_s (i:Int):mAtR (i+1)=mAtR i+mlnR (flo i 12) (moR i 12+1)/\mAtR (i+1)=mstR' (flo i 12) (moR i 12+2):=by
 have hm:0≤moR i 12/\moR i 12≤11:=by unfold moR;omega
 have hs:=@mst_s (flo i 12) (moR i 12+1) (by omega) (by omega)
 have e:mAtR (i+1)=mstR' (flo i 12) (moR i 12+2):=by
  unfold mAtR
  by_cases h:moR i 12=11
  · rw [h,show flo (i+1) 12=flo i 12+1 by unfold flo moR at *;omega,show moR (i+1) 12=0 by unfold moR at *;omega]
    exact (mst_n _).symm
  · rw [show flo (i+1) 12=flo i 12 by unfold flo moR at *;omega,show moR (i+1) 12=moR i 12+1 by unfold moR at *;omega,show moR i 12+1+1=moR i 12+2 by omega]
 refine ⟨?_,e⟩
 rw [e,show moR i 12+2=moR i 12+1+1 by omega,hs]
 rfl
theorem mAt_bd (i:Int) (k:Nat):mAtR i+28*k≤mAtR (i+k)/\mAtR (i+k)≤mAtR i+31*k:=by
 induction k with
 | zero=>simp
 | succ k ih=>
   have h:=(mAt_s (i+k)).1
   have b:=mlnR_bd (flo (i+k) 12) (moR (i+k) 12+1)
   rw [show i+((k+1:Nat):Int)=i+k+1 by omega]
   omega
theorem lv31:LoopVOK Tryz.prog (cfgS cfg R3) (Cw cfg []) (lb 31 0) 49 [0,4,5,6,7,8,9] v31:=by
 intro vs o t Q hv hq J
 unfold v31 at hv
 split at hv
 · rename_i y f n lo hi k w
   cases hv
   obtain ⟨h1,hq'⟩:=asrts_wp hq;clear hq;have hq:=hq';clear hq'
   obtain ⟨h2,hq'⟩:=asrts_wp hq;clear hq;have hq:=hq';clear hq'
   obtain ⟨h3,hq'⟩:=asrts_wp hq;clear hq;have hq:=hq';clear hq'
   obtain ⟨h4,hq'⟩:=asrts_wp hq;clear hq;have hq:=hq';clear hq'
   obtain ⟨h5,hq'⟩:=asrts_wp hq;clear hq;have hq:=hq';clear hq'
   obtain ⟨h6,hq'⟩:=asrts_wp hq;clear hq;have hq:=hq';clear hq'
   rw [q_eq_t] at h2 h3
   rw [okYb_iff] at h1
   rw [okMb_iff] at h4
   rw [q_le_t] at h5 h6
   subst h2 h3
   simp only [asrts,Tr.wp] at hq
   have e0:mAtR (12*y+f-1)=mstR' y f:=by
    unfold mAtR
    rw [show flo (12*y+f-1) 12=y by unfold flo;omega,show moR (12*y+f-1) 12+1=f by unfold moR;omega]
   have b0:=@mst_bd y f h1 h4.1 (by omega)
   refine lvOK R3_ok rfl rfl lok_none (ι:={k:Nat // (k:Int)≤n}) (fun x=>[.int .i64 y,.ptr 14 0,.int .i64 f,.int .i64 n,.int .i64 lo,.int .i64 (mAtR (12*y+f-1+x.1)-1),.int .i64 x.1]) (fun _=>⟨2,[.cells w true none,.cells [.int .i8 0,.int .i64 0,.int .i8 0,.int .i64 0] true none],[]⟩) (fun x=>(n-x.1).toNat) 2 (fun _=>Nat.le_refl _) (fun x J=>?_) (Nat.le_refl _) (fun J=>Wk.refl ⟨⟨0,by omega⟩,J,by dsimp only;rw [show 12*y+f-1+((0:Nat):Int)=12*y+f-1 by omega];rfl⟩) J
   obtain ⟨k,hk⟩:=x
   dsimp only
   have hs:=(mAt_s (12*y+f-1+k)).1
   have bk:=mAt_bd (12*y+f-1) k
   have e1:f+k≤12->flo (12*y+f-1+k) 12=y/\moR (12*y+f-1+k) 12+1=f+k:=fun h=>by unfold flo moR;omega
   have e2:12<f+k->flo (12*y+f-1+k) 12=y+1/\moR (12*y+f-1+k) 12+1=f+k-12:=fun h=>by unfold flo moR;omega
   refine wp_gen fun Q' hQ=>askA_wp ((r31 y f n lo (mAtR (12*y+f-1+k)-1) k w J).mpr ?_)
   dsimp only
   have m1:=mlnR_bd y (f+k)
   have m2:=mlnR_bd (y+1) (f+k-12)
   have next:∀x:Int,k<n->x=mAtR (12*y+f-1+k+1)-1->∃z:{k:Nat // (k:Int)≤n},(n-z.1).toNat<(n-k).toNat/\VW cfg (Cw cfg []) 2 49 [0,4,5,6,7,8,9] [.int .i64 y,.ptr 14 0,.int .i64 f,.int .i64 n,.int .i64 lo,.int .i64 x,.int .i64 (k+1)] ⟨2,[.cells w true none,.cells [.int .i8 0,.int .i64 0,.int .i8 0,.int .i64 0] true none],[]⟩ [.int .i64 y,.ptr 14 0,.int .i64 f,.int .i64 n,.int .i64 lo,.int .i64 (mAtR (12*y+f-1+z.1)-1),.int .i64 z.1] ⟨2,[.cells w true none,.cells [.int .i8 0,.int .i64 0,.int .i8 0,.int .i64 0] true none],[]⟩:=fun x hk h=>by
    subst h
    exact ⟨⟨k+1,by omega⟩,by dsimp only;omega,VW.of_eq (by dsimp only;rw [show 12*y+f-1+((k+1:Nat):Int)=12*y+f-1+k+1 by omega];rfl) rfl⟩
   have fin:(k:Int)=n->Q (.exit 0,[.int .i64 y,.ptr 14 0,.int .i64 f,.int .i64 n,.int .i64 lo,.int .i64 (mAtR (12*y+f-1+k)-1),.int .i64 k],⟨2,[.cells w true none,.cells [.int .i8 0,.int .i64 0,.int .i8 0,.int .i64 0] true none],[]⟩):=fun h=>by rw [h];exact hq
   clear hq
   rw [hs] at next
   have next1:=fun x (h:f+k≤12)=>by have:=next x;rw [(e1 h).1,(e1 h).2] at this;exact this
   have next2:=fun x (h:12<f+k)=>by have:=next x;rw [(e2 h).1,(e2 h).2] at this;exact this
   clear next e1 e2 hs
   generalize mAtR (12*y+f-1+k)=H at *
   generalize mlnR y (f+k)=l1 at *
   generalize mlnR (y+1) (f+k-12)=l2 at *
   simp only [q_all,reduceCtorEq,loK,hiK,ne_eq]
   (repeat' first|exact trivial|refine ⟨?_,?_⟩|intro)<;>first|omega|refine hQ _ ?_
   · exact next2 _ (by omega) (by omega) (by omega)
   · exact next1 _ (by omega) (by omega) (by omega)
   · exact ⟨_,_,VW.refl,fin (by omega)⟩
 · cases hv
theorem fR_at {c:Int} (h:21≤c/\c≤41):List.getD [AV.int .i64 3,AV.int .i64 6,AV.int .i64 9,AV.int .i64 12,AV.int .i64 3,AV.int .i64 6,AV.int .i64 9,AV.int .i64 12,AV.int .i64 9,AV.int .i64 12,AV.int .i64 3,AV.int .i64 6,AV.int .i64 1,AV.int .i64 4,AV.int .i64 7,AV.int .i64 10,AV.int .i64 1,AV.int .i64 5,AV.int .i64 9,AV.int .i64 1,AV.int .i64 7] (0+(Int.sub c 21).toNat*1) (AV.tuple [])=.int .i64 (fR c):=by
 rcases co_cases h with rfl|rfl|rfl|rfl|rfl|rfl|rfl|rfl|rfl|rfl|rfl|rfl|rfl|rfl|rfl|rfl|rfl|rfl|rfl|rfl|rfl<;>rfl
theorem mR_at {c:Int} (h:21≤c/\c≤41):(39<c->mR c=6)/\(36<c/\c≤39->mR c=4)/\(c≤36->mR c=3):=by
 rcases co_cases h with rfl|rfl|rfl|rfl|rfl|rfl|rfl|rfl|rfl|rfl|rfl|rfl|rfl|rfl|rfl|rfl|rfl|rfl|rfl|rfl|rfl<;>decide
theorem add31 {S:Sums} (hS:SumsOK Tryz.prog cfg S):SumsOK Tryz.prog cfg (addP S 31 s31):=by
 refine sums_addP hS fun args t v he hv=>?_
 unfold s31 at he
 split at he
 · rename_i y c
   cases he
   obtain ⟨h1,hv'⟩:=asrts_run hv;clear hv;have hv:=hv';clear hv'
   obtain ⟨h2,hv'⟩:=asrts_run hv;clear hv;have hv:=hv';clear hv'
   obtain ⟨h3,hv'⟩:=asrts_run hv;clear hv;have hv:=hv';clear hv'
   cases hv
   have h1':=okYb_iff.1 h1
   rw [okCo_iff] at h2
   obtain ⟨⟨f1,f2⟩,n1,n2⟩:=fR_bd h2
   refine fpOK R3_ok (L:=L31) body31 (by simp) (lok_at loops31 fun i hi e he st Q hw=>?_) (wp_gen fun Q' hQ=>askA_wp ((b31 y c).mpr ?_)) (by simp [idsA,idsL,vR])
   · have hi:i=0:=by simp at hi;omega
     subst hi
     cases he
     exact loopE_ok (base0.good R3_ok) (by decide) rfl lv31 hw
   · have hs:=(mAt_s (12*y+fR c-1+(mR c-1))).2
     rw [show 12*y+fR c-1+(mR c-1)+1=12*y+fR c-1+mR c by omega,show 12*y+fR c-1+(mR c-1)=12*y+(fR c-1)+(mR c-1) by omega] at hs
     have e0:mAtR (12*y+fR c-1)=mstR' y (fR c):=by
      unfold mAtR
      rw [show flo (12*y+fR c-1) 12=y by unfold flo;omega,show moR (12*y+fR c-1) 12+1=fR c by unfold moR;omega]
     have b0:=@mst_bd y (fR c) h1' f1 (by omega)
     have i0:∀n:Int,intOf (.int .i64 n)=n:=fun _=>rfl
     have ka:∀n:Int,isKA .i64 (.int .i64 n)=true:=fun n=>rfl
     obtain ⟨m1,m2,m3⟩:=mR_at h2
     dsimp only
     rw [fR_at h2]
     simp only [i0,ka]
     have fin:∀n:Int,n=mR c->Q' (vR (mstR' y (fR c)) (mAtR (12*y+fR c-1+n)-1)):=fun n h=>by
      rw [h,hs];exact hQ _ rfl
     unfold vR at fin
     clear hQ hs
     rw [e0]
     simp only [q_all,reduceCtorEq,loK,hiK,ne_eq]
     rw [show mstR' y (fR c)+1-1=mstR' y (fR c) by omega]
     (repeat' first|exact trivial|refine ⟨?_,?_⟩|intro)<;>first|omega|exact fin _ (by omega)|(rename_i h;rw [okYb_iff.2 h1'] at h;exact h)|(rename_i h;rw [okMb_iff.2 ⟨f1,f2⟩] at h;cases h)|(rename_i h;rw [okYb_iff.2 h1'] at h;cases h)
 · cases he
theorem okUn_iff {y m d:Int}:okUn y m d=true↔(-10000000000000000≤y/\y≤10000000000000000)/\(0≤d/\d≤31)/\(m=0∨(1≤m/\m≤12)∨(21≤m/\m≤41)/\okYb (seaY y m)=true):=by
 unfold okUn
 rw [Bool.and_eq_true,okYb_iff,Bool.and_eq_true,Bool.and_eq_true,Bool.or_eq_true,q_eq_t,Bool.or_eq_true,Bool.and_eq_true,okMb_iff,q_le_t,q_le_t,okCo_iff]
theorem add9 {S:Sums} (hS:SumsOK Tryz.prog cfg S):SumsOK Tryz.prog cfg (addP S 9 s9):=by
 refine sums_addP hS fun args t v he hv=>?_
 unfold s9 at he
 split at he
 · rename_i y m d
   cases he
   obtain ⟨h1,hv'⟩:=asrts_run hv;clear hv;have hv:=hv';clear hv'
   cases hv
   obtain ⟨hy,hd,hm⟩:=okUn_iff.1 h1
   have hm1:0≤m/\m≤41:=by omega
   have bl:0≤lpR y/\lpR y≤1:=Go.Proofs.YtafekjglclnegaaGreatDoor.lp_01 y
   have b1:=@ystR_bd y hy.1 (by omega)
   have b2:1≤m->m≤12->-3652425000000000001≤mstR' y m/\mstR' y m≤3652425000000000800:=fun k1 k2=>mst_bd hy k1 (by omega)
   have hn:=mlnR_bd y m
   have ys:ystR (y+1)=ystR y+365+lpR y:=Go.Proofs.YtafekjglclnegaaGreatDoor.yst_succ y
   have ms:1≤m->m≤12->mstR' y (m+1)=mstR' y m+mlnR y m:=fun k1 k2=>mst_s k1 k2
   have yb:=okYb_iff.2 hy
   have cb:=@okCo_iff m
   refine fpOK (add31 R3_ok) (L:=noL) body9 (by simp) lok_none (wp_gen fun Q' hQ=>askA_wp ((b9 y m d).mpr ?_)) (by simp [idsA,idsL,vR])
   dsimp only
   have hQ:=hQ _ rfl
   unfold vR unL unH at hQ
   rw [yb]
   generalize seaY y m=sy at *
   generalize seaM y m=sm at *
   generalize mstR' y (fR m)=k1 at *
   generalize mstR' sy (sm+2)=k2 at *
   cases hm0:intEq m 0 with
   | true=>
     rw [hm0,cond_true,cond_true,ys] at hQ
     rw [q_eq_t] at hm0
     simp only [q_all,reduceCtorEq,loK,hiK,ne_eq]
     (repeat' first|exact trivial|refine ⟨?_,?_⟩|intro)<;>first|contradiction|omega|(rw [show ystR y+364+lpR y=ystR y+365+lpR y-1 by omega];exact hQ)
   | false=>
     rw [hm0,cond_false,cond_false] at hQ
     rw [q_eq_f] at hm0
     cases h13:intLe 13 m with
     | true=>
       rw [h13,cond_true,cond_true] at hQ
       rw [q_le_t] at h13
       have hs:okYb sy=true:=by rcases hm with h|h|h<;>first|omega|exact h.2
       have hc:okCo m=true:=cb.2 (by omega)
       rw [hs,hc]
       simp only [q_all,reduceCtorEq,loK,hiK,ne_eq]
       (repeat' first|exact trivial|refine ⟨?_,?_⟩|intro)<;>first|contradiction|omega|exact hQ
     | false=>
       rw [h13,cond_false,cond_false] at hQ
       rw [q_le_f] at h13
       have e:=ms (by omega) (by omega)
       have b2:=b2 (by omega) (by omega)
       cases hd0:intEq d 0 with
       | true=>
         rw [hd0,cond_true,cond_true,e] at hQ
         rw [q_eq_t] at hd0
         simp only [q_all,reduceCtorEq,loK,hiK,ne_eq]
         (repeat' first|exact trivial|refine ⟨?_,?_⟩|intro)<;>first|contradiction|omega|(rw [show mstR' y m+1-1=mstR' y m by omega];exact hQ)
       | false=>
         rw [hd0,cond_false,cond_false] at hQ
         rw [q_eq_f] at hd0
         simp only [q_all,reduceCtorEq,loK,hiK,ne_eq]
         (repeat' first|exact trivial|refine ⟨?_,?_⟩|intro)<;>first|contradiction|omega|exact hQ
 · cases he
theorem add51 {S:Sums} (hS:SumsOK Tryz.prog cfg S):SumsOK Tryz.prog cfg (addP S 51 s51):=by
 refine sums_addP hS fun args t v he hv=>?_
 unfold s51 at he
 split at he
 · rename_i ng lg s e g mo da a b c
   cases he
   obtain ⟨h1,hv'⟩:=asrts_run hv;clear hv;have hv:=hv';clear hv'
   obtain ⟨h2,hv'⟩:=asrts_run hv;clear hv;have hv:=hv';clear hv'
   obtain ⟨h3,hv'⟩:=asrts_run hv;clear hv;have hv:=hv';clear hv'
   obtain ⟨h4,hv'⟩:=asrts_run hv;clear hv;have hv:=hv';clear hv'
   cases hv
   unfold okVl at h1
   simp only [Bool.and_eq_true] at h1
   refine fpOK (addVal (add9 sums_nil)) (L:=noL) body51 (by simp) lok_none (wp_gen fun Q' hQ=>askA_wp ((b51 ng lg s e g mo da a b c).mpr ?_)) (by simp [idsA,idsL,vR])
   dsimp only
   rw [h1.1,h1.2.1,h1.2.2.1,h1.2.2.2.1,h1.2.2.2.2,h2,h3,h4]
   simp only [true_imp_iff,reduceCtorEq,false_imp_iff,and_true]
   exact hQ _ rfl
 · cases he
def s101:Sum:=fun args=>match args with
 | [.str l]=>some (asrts [okNu l] (.ret (.int .i64 (nuR l))))
 | _=>none
def s153:Sum:=fun args=>match args with
 | [.agg [.bool ng,.bool lg,.str s,.int .i64 e,.int .i64 g,.str mo,.str da,.int .u8 a,.int .u8 b,.int .u8 c]]=>some (asrts [Nat.ble s.length 1000,Nat.ble mo.length 1000,Nat.ble da.length 1000] (.ret (.bool (hasXB (s++mo++da) || intLe 1 g))))
 | _=>none
def sameB (a b:Bool):Bool:=bif a then b else !b
def s155:Sum:=fun args=>match args with
 | [.agg [.bool ng,.bool lg,.str s,.int .i64 e,.int .i64 g,.str mo,.str da,.int .u8 a,.int .u8 b,.int .u8 c],.agg [.int .i64 y,.int .i64 m,.int .i64 d]]=>some (asrts [okUn y m d,sameB (bytesEq mo []) (intEq m 0),sameB (bytesEq da []) (intEq d 0)] (.ret (.tuple [vR (unL y m d) (unH y m d),.int .i64 0])))
 | _=>none
def GU1:Sums:=addP R7 221 s221
def GU2:Sums:=addP (addP (addP (addP (addP nilS 59 s59) 154 s154) 101 s101) 153 s153) 155 s155
def s95:Sum:=fun args=>match args with
 | [.agg [.bool ng,.bool lg,.str s,.int .i64 e,.int .i64 g,.str mo,.str da,.int .u8 a,.int .u8 b,.int .u8 c]]=>some (asrts [okVl s e,Nat.ble mo.length 1000,Nat.ble da.length 1000,inR .i64 g,inR .u8 a,inR .u8 b,inR .u8 c,intEq (errF ng lg s e g mo da a b c) 0,!(hasXB (s++mo++da) || intLe 1 g),okY14 ng lg s e g&&Nat.beq (hasN s 88 88) 0,okNu mo,okNu da,okUn (valR ng s e) (nuR mo) (nuR da),sameB (bytesEq mo []) (intEq (nuR mo) 0),sameB (bytesEq da []) (intEq (nuR da) 0)] (.ret (.tuple [vR (unL (valR ng s e) (nuR mo) (nuR da)) (unH (valR ng s e) (nuR mo) (nuR da)),.int .i64 0])))
 | _=>none
def s94:Sum:=fun args=>match args with
 | [.int .i64 y,.int .u8 p]=>some (asrts [okYb y,intEq p 1] (.ret (.tuple [vR (ystR y) (ystR (y+1)-1),.int .i64 0])))
 | _=>none
theorem b101a {Q:AV->Prop}:askA Q (pT nilS noL 101 [.str []]) (.e (.e .z))=(Q (AV.int .i64 0)):=by kernel_rfl
theorem b101b (a b:UInt8) {Q:AV->Prop}:askA Q (pT nilS noL 101 [.str [a,b]]) (dtN 10027057005)=((fun (u0 u1:Int)=>(fun (u2:Int)=>(fun (u3:Int)=>inR .u8 u0=true/\inR .i64 u0=true/\inR .i64 (Int.add 0 u0)=true/\inR .i64 u2=true/\inR .u8 u1=true/\inR .i64 u1=true/\inR .i64 u3=true/\Q (AV.int .i64 u3)) (Int.add u2 u1)) (Int.mul 10 (Int.add 0 u0))) (Int.sub (Int.ofNat (UInt8.toNat a)) 48) (Int.sub (Int.ofNat (UInt8.toNat b)) 48)):=by kernel_rfl
theorem b153 (ng lg:Bool) (s:List UInt8) (e g:Int) (mo da:List UInt8) (a b c:Int) {Q:AV->Prop}:askA Q (pT X1 noL 153 [.agg [.bool ng,.bool lg,.str s,.int .i64 e,.int .i64 g,.str mo,.str da,.int .u8 a,.int .u8 b,.int .u8 c]]) (dtN 11128132022440040200)=((fun (u0 u1 u2:Bool)=>(fun (u3 u4:Prop)=>Nat.ble (HAdd.hAdd (List.length s) (List.length mo)) 1000000=true/\(u0=true->(u1=true->(u3->u3/\u3/\u3/\u2=false/\Q (AV.bool (not (intLe g 0))))/\(u4->u4/\u4/\u4/\u2=true/\Q (AV.bool true)))/\(u1=false->False))/\(u0=false->False)) (not u2=true) (not u2=false)) (Nat.ble (HAdd.hAdd (List.length (HAppend.hAppend s mo)) (List.length da)) 1000000) (Nat.ble (List.length (HAppend.hAppend (HAppend.hAppend s mo) da)) 1000000) (hasXB (HAppend.hAppend (HAppend.hAppend s mo) da))):=by kernel_rfl
theorem b155a (ng lg:Bool) (s:List UInt8) (e g:Int) (mo da:List UInt8) (a b c y m d:Int) {Q:AV->Prop}:askA Q (pT GU1 noL 155 [.agg [.bool ng,.bool lg,.str s,.int .i64 e,.int .i64 g,.str mo,.str da,.int .u8 a,.int .u8 b,.int .u8 c],.agg [.int .i64 y,.int .i64 m,.int .i64 d]]) (dtN 11052040020)=((fun (u0:Prop)=>bytesEq mo []=true/\(u0->u0/\Q (AV.tuple [AV.agg [AV.int .i8 0,AV.int .i64 (ystR y),AV.int .i8 0,AV.int .i64 (HSub.hSub (ystR (HAdd.hAdd y 1)) 1)],AV.int .i64 0]))/\(okYb y=false->False)) (okYb y=true)):=by kernel_rfl
theorem b155b (ng lg:Bool) (s:List UInt8) (e g:Int) (mo da:List UInt8) (a b c y m d:Int) {Q:AV->Prop}:askA Q (pT GU1 noL 155 [.agg [.bool ng,.bool lg,.str s,.int .i64 e,.int .i64 g,.str mo,.str da,.int .u8 a,.int .u8 b,.int .u8 c],.agg [.int .i64 y,.int .i64 m,.int .i64 d]]) (dtN 11000220220420220201100042022020401110104440004030)=((fun (u2 u3:AV) (u0 u1 u4:Bool) (u6:Int) (u5:Prop)=>(fun (u9:Int) (u7:Prop)=>(fun (ub:Int) (ua:Prop)=>(fun (ud:Int) (uc ue:Prop)=>(fun (ug:Int) (uf:Prop)=>(fun (ui:AV) (uh:Prop)=>bytesEq mo []=false/\(u0=true->(okYb y=true->(okCo m=true->(u1=true->Q (AV.tuple [AV.agg [u2,AV.int .i64 (mstR' y (fR m)),u2,AV.int .i64 (HSub.hSub (mstR' (seaY y m) (HAdd.hAdd (seaM y m) 2)) 1)],u3]))/\(u1=false->Q (AV.tuple [AV.agg [u2,u3,u2,u3],AV.int .i64 6])))/\(okCo m=false->False))/\(okYb y=false->False))/\(u0=false->(u4=true->u5/\u7/\ua/\ua/\(uc->Q (AV.tuple [AV.agg [u2,AV.int .i64 ud,u2,AV.int .i64 (HSub.hSub (mstR' ub (HAdd.hAdd (mo12 u9) 2)) 1)],u3]))/\ue)/\(u4=false->u5/\u7/\ua/\ua/\(uc->uf/\uh/\uf/\uh/\Q (AV.tuple [AV.agg [u2,ui,u2,ui],u3]))/\ue))) (AV.int .i64 ug) (inR .i64 ug=true)) (Int.sub (Int.add ud d) 1) (inR .i64 (Int.add ud d)=true)) (mstR' ub (HAdd.hAdd (mo12 u9) 1)) (okYb ub=true) (okYb ub=false->False)) (flo u9 12) (inR .i64 u9=true)) (Int.sub u6 1) (inR .i64 u6=true)) (AV.int .i8 0) (AV.int .i64 0) (not (intLe m 12)) (okYb (seaY y m)) (bytesEq da []) (Int.add (Int.mul 12 y) m) (inR .i64 (Int.mul 12 y)=true)):=by kernel_rfl
theorem b95 (ng lg:Bool) (s:List UInt8) (e g:Int) (mo da:List UInt8) (a b c:Int) {Q:AV->Prop}:askA Q (pT GU2 noL 95 [.agg [.bool ng,.bool lg,.str s,.int .i64 e,.int .i64 g,.str mo,.str da,.int .u8 a,.int .u8 b,.int .u8 c]]) (dtN 111111111001111110444040045642005104700610444444444006)=((fun (u4 u5:AV) (u0 u1 u2 u6 u7 ua ub:Bool) (u3 u9:Int)=>(fun (ue:AV) (ud uf ug:Bool) (uc:Prop)=>(uc->(u1=true->(u2=true->(inR .i64 e=true->(inR .i64 g=true->(inR .u8 a=true->(inR .u8 b=true->(inR .u8 c=true->(ud=true->Q (AV.tuple [ue,AV.int .i64 u3]))/\(ud=false->uc/\u1=true/\u2=true/\(u6=true->Q (AV.tuple [ue,AV.int .i64 1]))/\(u6=false->uc/\(u7=true->(okNu mo=true->(okNu da=true->(okUn u9 (nuR mo) (nuR da)=true->(uf=true->(ug=true->Q (AV.tuple [AV.agg [u4,AV.int .i64 (unL u9 (nuR mo) (nuR da)),u4,AV.int .i64 (unH u9 (nuR mo) (nuR da))],u5]))/\(ug=false->False))/\(uf=false->False))/\(okUn u9 (nuR mo) (nuR da)=false->False))/\(okNu da=false->False))/\(okNu mo=false->False))/\(u7=false->Q (AV.tuple [ue,AV.int .i64 6])))))/\(inR .u8 c=false->False))/\(inR .u8 b=false->False))/\(inR .u8 a=false->False))/\(inR .i64 g=false->False))/\(inR .i64 e=false->False))/\(u2=false->False))/\(u1=false->False))/\(u0=false->False)) (AV.agg [u4,u5,u4,u5]) (not (intEq u3 0)) (cond (bytesEq mo []) ua (not ua)) (cond (bytesEq da []) ub (not ub)) (u0=true)) (AV.int .i8 0) (AV.int .i64 0) (Nat.ble (List.length s) 1000) (Nat.ble (List.length mo) 1000) (Nat.ble (List.length da) 1000) (or (hasXB (HAppend.hAppend (HAppend.hAppend s mo) da)) (intLe 1 g)) (and (okY14 ng lg s e g) (Nat.beq (hasN s 88 88) 0)) (intEq (nuR mo) 0) (intEq (nuR da) 0) (errF ng lg s e g mo da a b c) (valR ng s e)):=by kernel_rfl
theorem b94 (y:Int) {Q:AV->Prop}:askA Q (pT R7 noL 94 [.int .i64 y,.int .u8 1]) (dtN 110520406)=((fun (u0:Prop)=>(u0->u0/\Q (AV.tuple [AV.agg [AV.int .i8 0,AV.int .i64 (ystR y),AV.int .i8 0,AV.int .i64 (HSub.hSub (ystR (HAdd.hAdd y 1)) 1)],AV.int .i64 0]))/\(okYb y=false->False)) (okYb y=true)):=by kernel_rfl
theorem body101:bodyOf tab 101=some (fnOf 101,codeOf 101):=by kernel_rfl
theorem body153:bodyOf tab 153=some (fnOf 153,codeOf 153):=by kernel_rfl
theorem body155:bodyOf tab 155=some (fnOf 155,codeOf 155):=by kernel_rfl
theorem body95:bodyOf tab 95=some (fnOf 95,codeOf 95):=by kernel_rfl
theorem body94:bodyOf tab 94=some (fnOf 94,codeOf 94):=by kernel_rfl
theorem sameB_iff {a b:Bool}:sameB a b=true↔a=b:=by cases a<;>cases b<;>decide
theorem add101 {S:Sums} (hS:SumsOK Tryz.prog cfg S):SumsOK Tryz.prog cfg (addP S 101 s101):=by
 refine sums_addP hS fun args t v he hv=>?_
 unfold s101 at he
 split at he
 · rename_i l
   cases he
   obtain ⟨h1,hv'⟩:=asrts_run hv;clear hv;have hv:=hv';clear hv'
   cases hv
   match l,h1 with
   | [],_=>exact fpOK sums_nil (L:=noL) body101 (by simp) lok_none (wp_gen fun Q' hQ=>askA_wp (b101a.mpr (hQ _ rfl))) (by simp [idsA])
   | [a,b],h1=>
     unfold okNu dB at h1
     simp only [Bool.and_eq_true,decide_eq_true_eq] at h1
     refine fpOK sums_nil (L:=noL) body101 (by simp) lok_none (wp_gen fun Q' hQ=>askA_wp ((b101b a b).mpr ?_)) (by simp [idsA])
     dsimp only
     have fin:∀x:Int,x=dg2 a b->Q' (.int .i64 x):=fun x h=>hQ _ (by rw [h];rfl)
     clear hQ
     unfold dg2 at fin
     simp only [q_all,reduceCtorEq,loK,hiK,ne_eq] at fin ⊢
     (repeat' first|exact trivial|refine ⟨?_,?_⟩|intro)<;>first|omega|exact fin _ (by omega)
   | [_],h1=>exact absurd h1 (by simp [okNu])
   | _::_::_::_,h1=>exact absurd h1 (by simp [okNu])
 · cases he
theorem add153 {S:Sums} (hS:SumsOK Tryz.prog cfg S):SumsOK Tryz.prog cfg (addP S 153 s153):=by
 refine sums_addP hS fun args t v he hv=>?_
 unfold s153 at he
 split at he
 · rename_i ng lg s e g mo da a b c
   cases he
   obtain ⟨h1,hv'⟩:=asrts_run hv;clear hv;have hv:=hv';clear hv'
   obtain ⟨h2,hv'⟩:=asrts_run hv;clear hv;have hv:=hv';clear hv'
   obtain ⟨h3,hv'⟩:=asrts_run hv;clear hv;have hv:=hv';clear hv'
   cases hv
   rw [q_ble_t] at h1 h2 h3
   refine fpOK X1_ok (L:=noL) body153 (by simp) lok_none (wp_gen fun Q' hQ=>askA_wp ((b153 ng lg s e g mo da a b c).mpr ?_)) (by simp [idsA])
   dsimp only
   have hQ:=hQ _ rfl
   have l1:(s++mo).length=s.length+mo.length:=List.length_append
   have l2:(s++mo++da).length=s.length+mo.length+da.length:=by rw [List.length_append,l1]
   have e1:Nat.ble (s.length+mo.length) 1000000=true:=by rw [q_ble_t];omega
   have e2:Nat.ble ((s++mo).length+da.length) 1000000=true:=by rw [q_ble_t];omega
   have e3:Nat.ble (s++mo++da).length 1000000=true:=by rw [q_ble_t];omega
   show Nat.ble (s.length+mo.length) 1000000=true/\_
   have e4:Bool.not (intLe g 0)=intLe 1 g:=by rw [Bool.eq_iff_iff,q_not_t,q_le_f,q_le_t];omega
   rw [e1,e2,e3,e4]
   cases hx:hasXB (s++mo++da) with
   | true=>rw [hx,Bool.true_or] at hQ;simp [hQ]
   | false=>rw [hx,Bool.false_or] at hQ;simp [hQ]
 · cases he
theorem GU1_ok:SumsOK Tryz.prog cfg GU1:=add221 R7_ok
theorem add155 {S:Sums} (hS:SumsOK Tryz.prog cfg S):SumsOK Tryz.prog cfg (addP S 155 s155):=by
 refine sums_addP hS fun args t v he hv=>?_
 unfold s155 at he
 split at he
 · rename_i ng lg s e g mo da a b c y m d
   cases he
   obtain ⟨h1,hv'⟩:=asrts_run hv;clear hv;have hv:=hv';clear hv'
   obtain ⟨h2,hv'⟩:=asrts_run hv;clear hv;have hv:=hv';clear hv'
   obtain ⟨h3,hv'⟩:=asrts_run hv;clear hv;have hv:=hv';clear hv'
   cases hv
   rw [sameB_iff] at h2 h3
   obtain ⟨hy,hd,hm⟩:=okUn_iff.1 h1
   have yb:=okYb_iff.2 hy
   have cb:=@okCo_iff m
   have hi:1≤m->m≤12->flo (12*y+m-1) 12=y/\mo12 (12*y+m-1)=m-1:=fun k1 k2=>by unfold flo mo12;omega
   have hid:idsA (.tuple [vR (unL y m d) (unH y m d),.int .i64 0])=[]:=by simp [idsA,idsL,vR]
   by_cases hm0:m=0
   · have hmo:bytesEq mo []=true:=by rw [h2,q_eq_t];exact hm0
     subst hm0
     refine fpOK GU1_ok (L:=noL) body155 (by simp) lok_none (wp_gen fun Q' hQ=>askA_wp ((b155a ng lg s e g mo da a b c y 0 d).mpr ?_)) hid
     dsimp only
     have hQ:Q' (.tuple [vR (ystR y) (ystR (y+1)-1),.int .i64 0]):=hQ _ rfl
     unfold vR at hQ
     rw [hmo,yb]
     simp [hQ]
   · have hmo:bytesEq mo []=false:=by rw [h2,q_eq_f];exact hm0
     have hm1:1≤m/\m≤41:=by omega
     have b2:m≤12->-3652425000000000001≤mstR' (flo (12*y+m-1) 12) (mo12 (12*y+m-1)+1)/\mstR' (flo (12*y+m-1) 12) (mo12 (12*y+m-1)+1)≤3652425000000000800:=fun h=>by
      obtain ⟨e1,e2⟩:=hi hm1.1 h
      rw [e1,e2]
      exact mst_bd hy (by omega) (by omega)
     refine fpOK GU1_ok (L:=noL) body155 (by simp) lok_none (wp_gen fun Q' hQ=>askA_wp ((b155b ng lg s e g mo da a b c y m d).mpr ?_)) hid
     dsimp only
     have hQ:=hQ _ rfl
     have hm0:intEq m 0=false:=q_eq_f.mpr hm0
     unfold vR unL unH at hQ
     rw [hm0,cond_false,cond_false] at hQ
     rw [yb,h3,hmo]
     generalize seaY y m=sy at *
     generalize seaM y m=sm at *
     generalize mstR' y (fR m)=k1 at *
     generalize mstR' sy (sm+2)=k2 at *
     cases h13:intLe 13 m with
     | true=>
       rw [h13,cond_true,cond_true] at hQ
       rw [q_le_t] at h13
       have hs:okYb sy=true:=by rcases hm with h|h|h<;>first|omega|exact h.2
       have hc:okCo m=true:=cb.2 (by omega)
       have h12:intLe m 12=false:=by rw [q_le_f];omega
       rw [hs,hc,h12]
       simp [hQ]
     | false=>
       rw [h13,cond_false,cond_false] at hQ
       rw [q_le_f] at h13
       have h12:intLe m 12=true:=by rw [q_le_t];omega
       obtain ⟨e1,e2⟩:=hi (by omega) (by omega)
       have b3:=@mst_bd y m hy (by omega) (by omega)
       rw [h12]
       rw [show Int.sub (Int.add (Int.mul 12 y) m) 1=12*y+m-1 from rfl,e1,e2,yb,show m-1+1=m by omega,show m-1+2=m+1 by omega]
       clear b2 hi h2 h3
       generalize mstR' y m=k3 at *
       generalize mstR' y (m+1)=k4 at *
       cases hd0:intEq d 0 with
       | true=>
         rw [hd0,cond_true,cond_true] at hQ
         simp only [q_all,reduceCtorEq,loK,hiK,ne_eq]
         (repeat' first|exact trivial|refine ⟨?_,?_⟩|intro)<;>first|contradiction|omega|exact hQ
       | false=>
         rw [hd0,cond_false,cond_false] at hQ
         simp only [q_all,reduceCtorEq,loK,hiK,ne_eq]
         (repeat' first|exact trivial|refine ⟨?_,?_⟩|intro)<;>first|contradiction|omega|exact hQ
 · cases he
theorem add94 {S:Sums} (hS:SumsOK Tryz.prog cfg S):SumsOK Tryz.prog cfg (addP S 94 s94):=by
 refine sums_addP hS fun args t v he hv=>?_
 unfold s94 at he
 split at he
 · rename_i y p
   cases he
   obtain ⟨h1,hv'⟩:=asrts_run hv;clear hv;have hv:=hv';clear hv'
   obtain ⟨h2,hv'⟩:=asrts_run hv;clear hv;have hv:=hv';clear hv'
   cases hv
   rw [q_eq_t] at h2
   subst h2
   refine fpOK R7_ok (L:=noL) body94 (by simp) lok_none (wp_gen fun Q' hQ=>askA_wp ((b94 y).mpr ?_)) (by simp [idsA,idsL,vR])
   dsimp only
   rw [h1]
   have hQ:=hQ _ rfl
   unfold vR at hQ
   simp [hQ]
 · cases he
theorem GU2_ok:SumsOK Tryz.prog cfg GU2:=add155 (add153 (add101 (add154 (add59 sums_nil))))
theorem add95 {S:Sums} (hS:SumsOK Tryz.prog cfg S):SumsOK Tryz.prog cfg (addP S 95 s95):=by
 refine sums_addP hS fun args t v he hv=>?_
 unfold s95 at he
 split at he
 · rename_i ng lg s e g mo da a b c
   cases he
   obtain ⟨h1,hv'⟩:=asrts_run hv;clear hv;have hv:=hv';clear hv'
   obtain ⟨h2,hv'⟩:=asrts_run hv;clear hv;have hv:=hv';clear hv'
   obtain ⟨h3,hv'⟩:=asrts_run hv;clear hv;have hv:=hv';clear hv'
   obtain ⟨h4,hv'⟩:=asrts_run hv;clear hv;have hv:=hv';clear hv'
   obtain ⟨h5,hv'⟩:=asrts_run hv;clear hv;have hv:=hv';clear hv'
   obtain ⟨h6,hv'⟩:=asrts_run hv;clear hv;have hv:=hv';clear hv'
   obtain ⟨h7,hv'⟩:=asrts_run hv;clear hv;have hv:=hv';clear hv'
   obtain ⟨h8,hv'⟩:=asrts_run hv;clear hv;have hv:=hv';clear hv'
   obtain ⟨h9,hv'⟩:=asrts_run hv;clear hv;have hv:=hv';clear hv'
   obtain ⟨h10,hv'⟩:=asrts_run hv;clear hv;have hv:=hv';clear hv'
   obtain ⟨h11,hv'⟩:=asrts_run hv;clear hv;have hv:=hv';clear hv'
   obtain ⟨h12,hv'⟩:=asrts_run hv;clear hv;have hv:=hv';clear hv'
   obtain ⟨h13,hv'⟩:=asrts_run hv;clear hv;have hv:=hv';clear hv'
   obtain ⟨h14,hv'⟩:=asrts_run hv;clear hv;have hv:=hv';clear hv'
   obtain ⟨h15,hv'⟩:=asrts_run hv;clear hv;have hv:=hv';clear hv'
   cases hv
   unfold okVl at h1
   simp only [Bool.and_eq_true] at h1
   have he:inR .i64 e=true:=by rw [q_inR_t];have h:=h1.2.2.1;have h':=h1.2.2.2.1;rw [q_le_t] at h h';exact ⟨Int.le_trans (by decide) h,Int.le_trans h' (by decide)⟩
   rw [q_not_t] at h9
   unfold sameB at h14 h15
   refine fpOK GU2_ok (L:=noL) body95 (by simp) lok_none (wp_gen fun Q' hQ=>askA_wp ((b95 ng lg s e g mo da a b c).mpr ?_)) (by simp [idsA,idsL,vR])
   dsimp only
   have hQ:=hQ _ rfl
   unfold vR at hQ
   show (Nat.ble s.length 1000=true->_)/\_
   rw [h1.1,h2,h3,he,h4,h5,h6,h7,h8]
   simp only [h9,h10,h11,h12,h13,h14,h15,true_imp_iff,reduceCtorEq,false_imp_iff,and_true,true_and,Bool.not_true]
   exact hQ
 · cases he
end Go.Ev
