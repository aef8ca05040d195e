import Derived.Test.YtafekjglclnegaaGreatDoorP33
set_option linter.all false
set_option maxRecDepth 100000
set_option maxHeartbeats 1000000
namespace Go.Ev
open Go Go.Proofs
def yN (d0 d1:UInt8) (y:Int) (w:List AV):Nat->Nat
 | 0=>0
 | i+1=>yN d0 d1 y w i+(dayN d0 d1 y (mAt w i)).length
def yL (d0 d1:UInt8) (y:Int) (w:List AV):Nat->List AV
 | 0=>[]
 | i+1=>yL d0 d1 y w i++triL y (mAt w i) (dayN d0 d1 y (mAt w i))
def v129a:LoopV:=fun vs o=>match vs,o with
 | [.int .i64 y,.ptr 14 0,.nilslice,.slice 15 0 nM (.rest 0),.int .i64 i],⟨2,[.cells w true (some 1),.cells [.bool ng,.bool lg,.str s,.int .i64 e,.int .i64 g,.str mo,.str [d0,d1],.int .u8 a,.int .u8 b,.int .u8 c] true none],[]⟩=>
   some (asrts [intEq i 0,Nat.ble nM 1000,okYbR y,mBy d0,mBy d1,noIds w,List.all w (isKA .i64),Nat.beq w.length nM] (.ret (.exit 0,[.int .i64 y,.ptr 14 0,outW (yN d0 d1 y w nM),.slice 15 0 nM (.rest 0),.int .i64 (Int.ofNat nM)],ownW (yN d0 d1 y w nM) (yL d0 d1 y w nM) (.cells w true (some 1)) (boxD ng lg s e g mo [d0,d1] a b c))))
 | _,_=>none
def L129:Loops:=addL noL 0 (loopE 55 [1,2,5,6,7] v129a)
def w129:WSum:=fun args ws=>match args,ws with
 | [.agg [.bool ng,.bool lg,.str s,.int .i64 e,.int .i64 g,.str [m0,m1],.str [d0,d1],.int .u8 a,.int .u8 b,.int .u8 c],.int .i64 y],[]=>some (asrts [mBy m0,mBy m1,mBy d0,mBy d1,intEq (seasR [m0,m1]) 0,!(nilB (fitL m0 m1 12)),okYbR y] (.test (Nat.beq (yN d0 d1 y (celL (fitL m0 m1 12)) (lenN (fitL m0 m1 12))) 0) fun b=>bif b then .ret (.nilslice,[]) else .ret (.slice 14 0 (yN d0 d1 y (celL (fitL m0 m1 12)) (lenN (fitL m0 m1 12))) (.rest 0),[.cells (yL d0 d1 y (celL (fitL m0 m1 12)) (lenN (fitL m0 m1 12))) true (some 3)])))
 | _,_=>none
theorem b129 (ng lg:Bool) (s:List UInt8) (e g:Int) (m0 m1 d0 d1:UInt8) (a b c y:Int) {Q:EQ->Prop}:askA Q (bT Z1 L129 [] 129 [.agg [.bool ng,.bool lg,.str s,.int .i64 e,.int .i64 g,.str [m0,m1],.str [d0,d1],.int .u8 a,.int .u8 b,.int .u8 c],.int .i64 y]) (dtN 1111144474027006)=((fun (u0:List Int)=>(fun (u2:List AV) (u1:Nat)=>(fun (u3 u4:Bool) (u5:Nat)=>mBy m0=true/\mBy m1=true/\intEq (seasR [m0,m1]) 0=true/\not (nilB u0)=true/\(u3=true->and (intLe (Neg.neg 10000000000000000) y) (intLe y 10000000000000000)=true/\mBy d0=true/\mBy d1=true/\(noIds u2=true->(List.all u2 (isKA .i64)=true->(u4=true->(∀J1:Nat->Value,Q (Prod.fst (Prod.fst (outW u5,Prod.snd ([AV.int .i64 y,AV.ptr 14 0,outW u5,AV.slice 15 0 u1 (Cap.rest 0),AV.int .i64 (Int.ofNat u1)],ownW u5 (yL d0 d1 y u2 u1) (AObj.cells u2 true (Option.some 1)) (AObj.cells [AV.bool ng,AV.bool lg,AV.str s,AV.int .i64 e,AV.int .i64 g,AV.str [m0,m1],AV.str [d0,d1],AV.int .u8 a,AV.int .u8 b,AV.int .u8 c] true Option.none))),Prod.snd (outW u5,Prod.snd ([AV.int .i64 y,AV.ptr 14 0,outW u5,AV.slice 15 0 u1 (Cap.rest 0),AV.int .i64 (Int.ofNat u1)],ownW u5 (yL d0 d1 y u2 u1) (AObj.cells u2 true (Option.some 1)) (AObj.cells [AV.bool ng,AV.bool lg,AV.str s,AV.int .i64 e,AV.int .i64 g,AV.str [m0,m1],AV.str [d0,d1],AV.int .u8 a,AV.int .u8 b,AV.int .u8 c] true Option.none)))),Prod.snd (Prod.fst (outW u5,Prod.snd ([AV.int .i64 y,AV.ptr 14 0,outW u5,AV.slice 15 0 u1 (Cap.rest 0),AV.int .i64 (Int.ofNat u1)],ownW u5 (yL d0 d1 y u2 u1) (AObj.cells u2 true (Option.some 1)) (AObj.cells [AV.bool ng,AV.bool lg,AV.str s,AV.int .i64 e,AV.int .i64 g,AV.str [m0,m1],AV.str [d0,d1],AV.int .u8 a,AV.int .u8 b,AV.int .u8 c] true Option.none))),Prod.snd (outW u5,Prod.snd ([AV.int .i64 y,AV.ptr 14 0,outW u5,AV.slice 15 0 u1 (Cap.rest 0),AV.int .i64 (Int.ofNat u1)],ownW u5 (yL d0 d1 y u2 u1) (AObj.cells u2 true (Option.some 1)) (AObj.cells [AV.bool ng,AV.bool lg,AV.str s,AV.int .i64 e,AV.int .i64 g,AV.str [m0,m1],AV.str [d0,d1],AV.int .u8 a,AV.int .u8 b,AV.int .u8 c] true Option.none)))))))/\(u4=false->False))/\(List.all u2 (isKA .i64)=false->False))/\(noIds u2=false->False))/\(u3=false->False)) (Nat.ble u1 1000) (Nat.beq (List.length u2) u1) (yN d0 d1 y u2 u1)) (celL u0) (lenN u0)) (fitL m0 m1 12)):=by kernel_rfl
theorem okYbR_iff {y:Int}:okYbR y=true↔-10000000000000000≤y/\y≤10000000000000000:=by unfold okYbR;rw [Bool.and_eq_true,q_le_t,q_le_t]
theorem lv129b:LoopVOK Tryz.prog (cfgS cfg Z1) (Cw cfg []) (lb 129 1) 55 [1,2,5,6,7,8] v129b:=by
 intro vs o t Q hv hq J
 unfold v129b at hv
 split at hv
 · rename_i y nM i d w ng lg s e g mo d0 d1 a b c
   cases hv
   obtain ⟨k1,hq'⟩:=asrts_wp hq;clear hq;have hq:=hq';clear hq'
   obtain ⟨k2,hq'⟩:=asrts_wp hq;clear hq;have hq:=hq';clear hq'
   obtain ⟨k3,hq'⟩:=asrts_wp hq;clear hq;have hq:=hq';clear hq'
   obtain ⟨k4,hq'⟩:=asrts_wp hq;clear hq;have hq:=hq';clear hq'
   obtain ⟨k5,hq'⟩:=asrts_wp hq;clear hq;have hq:=hq';clear hq'
   obtain ⟨k6,hq'⟩:=asrts_wp hq;clear hq;have hq:=hq';clear hq'
   obtain ⟨k7,hq'⟩:=asrts_wp hq;clear hq;have hq:=hq';clear hq'
   obtain ⟨k8,hq'⟩:=asrts_wp hq;clear hq;have hq:=hq';clear hq'
   obtain ⟨k9,hq'⟩:=asrts_wp hq;clear hq;have hq:=hq';clear hq'
   rw [q_eq_t] at k1
   rw [q_le_t] at k2
   rw [natLt_iff] at k3
   rw [q_ble_t] at k4
   rw [okYbR_iff] at k5
   subst k1
   obtain ⟨k,rfl⟩:∃k:Nat,i=Int.ofNat k:=⟨i.toNat,(Int.toNat_of_nonneg k2).symm⟩
   exact core129A k5 k3 k4 k8 k9 hq
 · rename_i y n nM i d cs w ng lg s e g mo d0 d1 a b c
   cases hv
   obtain ⟨k1,hq'⟩:=asrts_wp hq;clear hq;have hq:=hq';clear hq'
   obtain ⟨k2,hq'⟩:=asrts_wp hq;clear hq;have hq:=hq';clear hq'
   obtain ⟨k3,hq'⟩:=asrts_wp hq;clear hq;have hq:=hq';clear hq'
   obtain ⟨k4,hq'⟩:=asrts_wp hq;clear hq;have hq:=hq';clear hq'
   obtain ⟨k5,hq'⟩:=asrts_wp hq;clear hq;have hq:=hq';clear hq'
   obtain ⟨k6,hq'⟩:=asrts_wp hq;clear hq;have hq:=hq';clear hq'
   obtain ⟨k7,hq'⟩:=asrts_wp hq;clear hq;have hq:=hq';clear hq'
   obtain ⟨k8,hq'⟩:=asrts_wp hq;clear hq;have hq:=hq';clear hq'
   obtain ⟨k9,hq'⟩:=asrts_wp hq;clear hq;have hq:=hq';clear hq'
   obtain ⟨k10,hq'⟩:=asrts_wp hq;clear hq;have hq:=hq';clear hq'
   obtain ⟨k11,hq'⟩:=asrts_wp hq;clear hq;have hq:=hq';clear hq'
   obtain ⟨k12,hq'⟩:=asrts_wp hq;clear hq;have hq:=hq';clear hq'
   obtain ⟨k13,hq'⟩:=asrts_wp hq;clear hq;have hq:=hq';clear hq'
   rw [q_eq_t] at k1
   rw [q_le_t] at k2
   rw [natLt_iff] at k3 k11
   rw [q_ble_t] at k4 k12
   rw [q_beq_t] at k10
   rw [okYbR_iff] at k5
   subst k1
   obtain ⟨k,rfl⟩:∃k:Nat,i=Int.ofNat k:=⟨i.toNat,(Int.toNat_of_nonneg k2).symm⟩
   exact core129B k5 k3 k4 k8 k9 k10 k12 k13 hq
 · cases hv
theorem yN_le {d0 d1:UInt8} {y:Int} {w:List AV}:∀{i:Nat},yN d0 d1 y w i≤31*i
 | 0=>Nat.le_refl _
 | i+1=>by
   have:=yN_le (d0:=d0) (d1:=d1) (y:=y) (w:=w) (i:=i)
   have h1:=fitL_len d0 d1 (mlenR y (mAt w i)).toNat
   have h2:=mlenR_bd y (mAt w i)
   rw [yN]
   unfold dayN
   omega
theorem yL_len {d0 d1:UInt8} {y:Int} {w:List AV}:∀{i:Nat},(yL d0 d1 y w i).length=yN d0 d1 y w i*3
 | 0=>rfl
 | i+1=>by rw [yL,yN,List.length_append,yL_len,triL_len];omega
theorem yL_ids {d0 d1:UInt8} {y:Int} {w:List AV}:∀{i:Nat},idsL (yL d0 d1 y w i)=[]
 | 0=>rfl
 | i+1=>by rw [yL,idsL_app,yL_ids,idsL_tri];rfl
theorem lv129a:LoopVOK Tryz.prog (cfgS cfg Z1) (Cw cfg []) (lb 129 0) 55 [1,2,5,6,7] v129a:=by
 intro vs o t Q hv hq J
 unfold v129a at hv
 split at hv
 · rename_i y nM i w ng lg s e g mo d0 d1 a b c
   cases hv
   obtain ⟨k1,hq'⟩:=asrts_wp hq;clear hq;have hq:=hq';clear hq'
   obtain ⟨k2,hq'⟩:=asrts_wp hq;clear hq;have hq:=hq';clear hq'
   obtain ⟨k3,hq'⟩:=asrts_wp hq;clear hq;have hq:=hq';clear hq'
   obtain ⟨k4,hq'⟩:=asrts_wp hq;clear hq;have hq:=hq';clear hq'
   obtain ⟨k5,hq'⟩:=asrts_wp hq;clear hq;have hq:=hq';clear hq'
   obtain ⟨k6,hq'⟩:=asrts_wp hq;clear hq;have hq:=hq';clear hq'
   obtain ⟨k7,hq'⟩:=asrts_wp hq;clear hq;have hq:=hq';clear hq'
   obtain ⟨k8,hq'⟩:=asrts_wp hq;clear hq;have hq:=hq';clear hq'
   rw [q_eq_t] at k1
   rw [q_ble_t] at k2
   rw [okYbR_iff] at k3
   rw [q_beq_t] at k8
   subst k1
   have hq:Q (.exit 0,[.int .i64 y,.ptr 14 0,outW (yN d0 d1 y w nM),.slice 15 0 nM (.rest 0),.int .i64 (Int.ofNat nM)],ownW (yN d0 d1 y w nM) (yL d0 d1 y w nM) (.cells w true (some 1)) (boxD ng lg s e g mo [d0,d1] a b c)):=hq
   have lok:LOK Tryz.prog (cfgS cfg Z1) (Cw cfg []) L129b (lb 129 0):=by
    refine lok_at inner129i fun i hi e he st Q hw=>?_
    have hi:i=0:=by simp at hi;omega
    subst hi
    cases he
    rw [inner129]
    exact loopE_ok (base0.good Z1_ok) (by decide) rfl lv129b hw
   refine lvOK Z1_ok rfl rfl lok (ι:={i:Nat // i≤nM}) (fun x=>[.int .i64 y,.ptr 14 0,outW (yN d0 d1 y w x.1),.slice 15 0 nM (.rest 0),.int .i64 (Int.ofNat x.1)]) (fun x=>ownW (yN d0 d1 y w x.1) (yL d0 d1 y w x.1) (.cells w true (some 1)) (boxD ng lg s e g mo [d0,d1] a b c)) (fun x=>nM-x.1) 2 (fun x=>ownW_n) (fun x J=>?_) (Nat.le_refl _) (fun J=>Wk.refl ⟨⟨0,Nat.zero_le _⟩,J,rfl⟩) J
   obtain ⟨i,hi⟩:=x
   dsimp only
   have wl:LowO (14+2) (.cells w true (some 1)):=low_plain (noIds_iff.1 k6)
   have bl:LowO (14+2) (boxD ng lg s e g mo [d0,d1] a b c):=low_plain (by simp [idsL,idsA])
   have hkA:i<nM->isKA .i64 (w.getD i (.tuple []))=true:=fun h=>by
    rw [List.getD_eq_getElem?_getD,List.getElem?_eq_getElem (by omega)]
    exact List.all_eq_true.1 k7 _ (List.getElem_mem _)
   have fin:i=nM->∃vs2 o2,VW cfg (Cw cfg []) 2 55 [1,2,5,6,7] [.int .i64 y,.ptr 14 0,outW (yN d0 d1 y w i),.slice 15 0 nM (.rest 0),.int .i64 (Int.ofNat i)] (ownW (yN d0 d1 y w i) (yL d0 d1 y w i) (.cells w true (some 1)) (boxD ng lg s e g mo [d0,d1] a b c)) vs2 o2/\Q (.exit 0,vs2,o2):=fun h=>by
    subst h
    exact ⟨_,_,VW.refl,hq⟩
   have go:i<nM->∀vs o,VW cfg (Cw cfg []) 2 55 [1,2,5,6,7] vs o [.int .i64 y,.ptr 14 0,outW (yN d0 d1 y w (i+1)),.slice 15 0 nM (.rest 0),.int .i64 (Int.ofNat (i+1))] (ownW (yN d0 d1 y w (i+1)) (yL d0 d1 y w (i+1)) (.cells w true (some 1)) (boxD ng lg s e g mo [d0,d1] a b c))->∃x:{i:Nat // i≤nM},nM-x.1<nM-i/\VW cfg (Cw cfg []) 2 55 [1,2,5,6,7] vs o [.int .i64 y,.ptr 14 0,outW (yN d0 d1 y w x.1),.slice 15 0 nM (.rest 0),.int .i64 (Int.ofNat x.1)] (ownW (yN d0 d1 y w x.1) (yL d0 d1 y w x.1) (.cells w true (some 1)) (boxD ng lg s e g mo [d0,d1] a b c)):=fun hle vs o hv=>⟨⟨i+1,by omega⟩,by dsimp only;omega,hv⟩
   have hle:=@yN_le d0 d1 y w i
   have hlen:=@yL_len d0 d1 y w i
   have hids:=@yL_ids d0 d1 y w i
   rw [yN,yL] at go
   clear hq
   by_cases hN:yN d0 d1 y w i=0
   · have hC:yL d0 d1 y w i=[]:=List.eq_nil_of_length_eq_zero (by rw [hlen,hN])
     rw [hN,hC] at fin go ⊢
     rw [Nat.zero_add,List.nil_append] at go
     refine wp_gen fun Q' hQ=>askA_wp ((q129n ng lg s e g mo d0 d1 a b c y w nM i J).mpr ?_)
     have fin2:i=nM->Q' (.exit 0,[.int .i64 y,.ptr 14 0,.nilslice,.slice 15 0 nM (.rest 0),.int .i64 (Int.ofNat i)],⟨2,[.cells w true (some 1),boxD ng lg s e g mo [d0,d1] a b c],[]⟩):=fun h=>hQ _ (fin h)
     have go2:i<nM->Q' (.normal,[.int .i64 y,.ptr 14 0,outW (dayN d0 d1 y (mAt w i)).length,.slice 15 0 nM (.rest 0),.int .i64 (Int.ofNat (i+1))],ownW (dayN d0 d1 y (mAt w i)).length (triL y (mAt w i) (dayN d0 d1 y (mAt w i))) (.cells w true (some 1)) (boxD ng lg s e g mo [d0,d1] a b c)):=fun h=>hQ (.normal,_,_) (go h _ _ VW.refl)
     clear hQ go fin
     generalize dayN d0 d1 y (mAt w i)=D at *
     generalize mAt w i=m at *
     simp only [q_all,reduceCtorEq,loK,hiK,ne_eq]
     (repeat' first|exact trivial|refine ⟨?_,?_⟩|intro)<;>first|contradiction|omega|assumption|exact fin2 (by omega)|exact go2 (by omega)|exact hkA (by omega)|(exfalso;have:=hkA (by omega);simp_all;done)
   · have hpos:0<yN d0 d1 y w i:=by omega
     rw [outW_pos hpos,ownW_pos hpos] at fin
     rw [outW_pos hpos,ownW_pos hpos]
     refine wp_gen fun Q' hQ=>askA_wp ((q129s ng lg s e g mo d0 d1 a b c y w (yL d0 d1 y w i) nM i (yN d0 d1 y w i) J).mpr ?_)
     have fin2:i=nM->Q' (.exit 0,[.int .i64 y,.ptr 14 0,.slice 16 0 (yN d0 d1 y w i) (.rest 0),.slice 15 0 nM (.rest 0),.int .i64 (Int.ofNat i)],⟨3,[.cells (yL d0 d1 y w i) true (some 3),.cells w true (some 1),boxD ng lg s e g mo [d0,d1] a b c],[]⟩):=fun h=>hQ _ (fin h)
     have go2:i<nM->Q' (.normal,[.int .i64 y,.ptr 14 0,outX (yN d0 d1 y w i) (dayN d0 d1 y (mAt w i)).length,.slice 15 0 nM (.rest 0),.int .i64 (Int.ofNat (i+1))],ownX (dayN d0 d1 y (mAt w i)).length (yL d0 d1 y w i) (yL d0 d1 y w i++triL y (mAt w i) (dayN d0 d1 y (mAt w i))) (.cells w true (some 1)) (boxD ng lg s e g mo [d0,d1] a b c)):=fun h=>hQ (.normal,_,_) (go h _ _ (by
      have hti:=@idsL_tri y (mAt w i) (dayN d0 d1 y (mAt w i))
      generalize dayN d0 d1 y (mAt w i)=D at *
      generalize yL d0 d1 y w i=C at *
      generalize yN d0 d1 y w i=N at *
      cases D with
      | nil=>
        simp only [List.length_nil,Nat.add_zero,triL,List.append_nil]
        rw [outW_pos hpos,ownW_pos hpos]
        exact VW.refl
      | cons z zs=>
        have hp2:0<N+(z::zs).length:=by omega
        rw [outW_pos hp2,ownW_pos hp2]
        exact vw_lastN (tn:=55) (rel:=[1,2,5,6,7]) (vs:=[.int .i64 y,.ptr 14 0,.slice 17 0 (N+(z::zs).length) (.rest 0),.slice 15 0 nM (.rest 0),.int .i64 (Int.ofNat (i+1))]) (vs':=[.int .i64 y,.ptr 14 0,.slice 16 0 (N+(z::zs).length) (.rest 0),.slice 15 0 nM (.rest 0),.int .i64 (Int.ofNat (i+1))]) (x:=.cells (C++triL y (mAt w i) (z::zs)) true (some 3)) (mid:=[.dead]) (B:=[.cells w true (some 1),boxD ng lg s e g mo [d0,d1] a b c]) (k:=1) (kb:=2) (n:=4) rfl rfl rfl (fun z hz=>by
         simp only [List.mem_cons,List.not_mem_nil,or_false] at hz
         rcases hz with rfl|rfl
         · exact wl
         · exact bl) (low_plain (by rw [idsL_app,hids,hti];rfl)) rfl))
     clear hQ go fin
     have hids2:=noIds_iff.2 hids
     clear hids
     generalize dayN d0 d1 y (mAt w i)=D at *
     generalize mAt w i=m at *
     generalize yL d0 d1 y w i=C at *
     generalize yN d0 d1 y w i=N at *
     simp only [q_all,reduceCtorEq,loK,hiK,ne_eq]
     (repeat' first|exact trivial|refine ⟨?_,?_⟩|intro)<;>first|contradiction|omega|assumption|exact fin2 (by omega)|exact go2 (by omega)|exact hkA (by omega)|(exfalso;have:=hkA (by omega);simp_all;done)
 · cases hv
theorem celL_ids {M:List Int}:noIds (celL M)=true:=by
 rw [noIds_iff]
 unfold celL
 induction M with
 | nil=>rfl
 | cons x xs ih=>simp only [List.map_cons,idsL,idsA,List.nil_append];exact ih
theorem f129 {ng lg:Bool} {s:List UInt8} {e g:Int} {m0 m1 d0 d1:UInt8} {a b c y:Int} {v:AV} {news:List AObj} (hy : -10000000000000000≤y/\y≤10000000000000000) (h0:mBy m0=true) (h1:mBy m1=true) (h2:mBy d0=true) (h3:mBy d1=true) (hse:intEq (seasR [m0,m1]) 0=true) (hn:nilB (fitL m0 m1 12)=false)
 (hv:EndW [] v news (outW (yN d0 d1 y (celL (fitL m0 m1 12)) (lenN (fitL m0 m1 12))),ownW (yN d0 d1 y (celL (fitL m0 m1 12)) (lenN (fitL m0 m1 12))) (yL d0 d1 y (celL (fitL m0 m1 12)) (lenN (fitL m0 m1 12))) (.cells (celL (fitL m0 m1 12)) true (some 1)) (boxD ng lg s e g [m0,m1] [d0,d1] a b c))) :
 FactW Tryz.prog cfg 129 [.agg [.bool ng,.bool lg,.str s,.int .i64 e,.int .i64 g,.str [m0,m1],.str [d0,d1],.int .u8 a,.int .u8 b,.int .u8 c],.int .i64 y] [] v news:=by
 refine fwOK Z1_ok (L:=L129) body129 (by simp) (lok_at loops129 fun i hi e he st Q hw=>?_) (wp_gen fun Q' hQ=>askA_wp ((b129 ng lg s e g m0 m1 d0 d1 a b c y).mpr ?_))
 · have hi:i=0∨i=1:=by simp at hi;omega
   rcases hi with rfl|rfl
   · cases he
     exact loopE_ok (base0.good Z1_ok) (by decide) rfl lv129a hw
   · cases he
 · have hQ:=hQ _ hv
   dsimp only
   have l1:lenN (fitL m0 m1 12)=(fitL m0 m1 12).length:=rfl
   have z1:=fitL_len m0 m1 12
   have c1:=@celL_ids (fitL m0 m1 12)
   have c2:=@all_celL (fitL m0 m1 12)
   have c3:(celL (fitL m0 m1 12)).length=lenN (fitL m0 m1 12):=celL_len
   have z2:lenN (fitL m0 m1 12)≤1000:=by omega
   have n2:(!(nilB (fitL m0 m1 12)))=true:=by rw [hn];rfl
   have yb:=okYbR_iff.2 hy
   clear hv hn l1 z1
   generalize seasR [m0,m1]=sr at *
   generalize fitL m0 m1 12=M at *
   generalize yL d0 d1 y (celL M) (lenN M)=C at *
   generalize yN d0 d1 y (celL M) (lenN M)=N at *
   generalize outW N=oN at *
   generalize celL M=cM at *
   generalize lenN M=lM at *
   refine ⟨h0,h1,hse,n2,fun _=>⟨yb,h2,h3,fun _=>⟨fun _=>⟨fun _=>fun J1=>hQ,fun h=>?_⟩,fun h=>?_⟩,fun h=>?_⟩,fun h=>?_⟩
   · rw [q_beq_f] at h;exact h c3
   · rw [c2] at h;cases h
   · rw [c1] at h;cases h
   · rw [←Bool.not_eq_true,q_ble_t] at h;exact h z2
theorem add129 {S:Sums} (hS:SumsOK Tryz.prog cfg S):SumsOK Tryz.prog cfg (addG S 129 (winS 14 [] w129)):=by
 refine sums_addG hS (win_ok good0.lv ro0 fun args ws t r he hr=>?_)
 unfold w129 at he
 split at he
 · rename_i ng lg s e g m0 m1 d0 d1 a b c y
   cases he
   obtain ⟨k1,hr'⟩:=asrts_run hr;clear hr;have hr:=hr';clear hr'
   obtain ⟨k2,hr'⟩:=asrts_run hr;clear hr;have hr:=hr';clear hr'
   obtain ⟨k3,hr'⟩:=asrts_run hr;clear hr;have hr:=hr';clear hr'
   obtain ⟨k4,hr'⟩:=asrts_run hr;clear hr;have hr:=hr';clear hr'
   obtain ⟨k5,hr'⟩:=asrts_run hr;clear hr;have hr:=hr';clear hr'
   obtain ⟨k6,hr'⟩:=asrts_run hr;clear hr;have hr:=hr';clear hr'
   obtain ⟨k7,hr'⟩:=asrts_run hr;clear hr;have hr:=hr';clear hr'
   rw [okYbR_iff] at k7
   have k6:nilB (fitL m0 m1 12)=false:=by
    cases h:nilB (fitL m0 m1 12) with
    | true=>rw [h] at k6;cases k6
    | false=>rfl
   have key:=fun v news=>@f129 ng lg s e g m0 m1 d0 d1 a b c y v news k7 k1 k2 k3 k4 k5 k6
   have hids:=@yL_ids d0 d1 y (celL (fitL m0 m1 12)) (lenN (fitL m0 m1 12))
   simp only [asrts,Tr.run] at hr
   generalize yL d0 d1 y (celL (fitL m0 m1 12)) (lenN (fitL m0 m1 12))=C at *
   generalize yN d0 d1 y (celL (fitL m0 m1 12)) (lenN (fitL m0 m1 12))=N at *
   cases N with
   | zero=>
     cases hr
     exact ⟨key _ _ (EndW.plain rfl (by simp [outW,idsA]) rfl rfl),fun x hx=>by cases hx⟩
   | succ k=>
     cases hr
     refine ⟨key _ _ (EndW.last (k:=2) rfl rfl (low_plain hids) rfl),fun x hx=>?_⟩
     simp only [List.mem_singleton] at hx
     subst hx
     exact low_plain hids
 · cases he
noncomputable def Z2:Sums:=addG (addP (addP T9 128 s128) 127 s127) 129 (winS 14 [] w129)
theorem Z2_ok:SumsOK Tryz.prog cfg Z2:=add129 (add127 (add128 T9_ok))
def hitY (ng:Bool) (s:List UInt8) (e:Int) (m0 m1 d0 d1:UInt8) (k:Int):Bool:=inYB ng s e k&&!(Nat.beq (yN d0 d1 k (celL (fitL m0 m1 12)) (lenN (fitL m0 m1 12))) 0)
def anyFrom (f:Int->Bool) (a:Int):Nat->Bool
 | 0=>false
 | n+1=>f a || anyFrom f (a+1) n
def someR (ng:Bool) (s:List UInt8) (e:Int) (m0 m1 d0 d1:UInt8):Bool:=anyFrom (hitY ng s e m0 m1 d0 d1) (loY ng s e) (hiY ng s e+1-loY ng s e).toNat
def v72:LoopV:=fun vs o=>match vs,o with
 | [.ptr 14 0,.int .i64 z,.int .i64 hi,.int .i64 y],⟨1,[.cells [.bool ng,.bool lg,.str s,.int .i64 e,.int .i64 g,.str [m0,m1],.str [d0,d1],.int .u8 a,.int .u8 b,.int .u8 c] true none],[]⟩=>
   some (asrts [intEq z 0,intEq hi (hiY ng s e),intEq y (loY ng s e),intEq g 0,okY14 ng lg s e g,Nat.ble s.length 1000,okX s,mBy m0,mBy m1,mBy d0,mBy d1,intEq (seasR [m0,m1]) 0,!(nilB (fitL m0 m1 12))]
    (.test (someR ng s e m0 m1 d0 d1) fun b=>bif b then .all fun J=>.ret (.ret,[.ptr 14 0,.int .i64 1,.int .i64 hi,.any (J 0)],o) else .all fun J=>.ret (.exit 0,[.ptr 14 0,.int .i64 0,.int .i64 hi,.any (J 0)],o)))
 | _,_=>none
def L72:Loops:=addL noL 0 (loopE 30 [1,2,4,5] v72)
def s72:Sum:=fun args=>match args with
 | [.agg [.bool ng,.bool lg,.str s,.int .i64 e,.int .i64 g,.str [m0,m1],.str [d0,d1],.int .u8 a,.int .u8 b,.int .u8 c]]=>some (asrts [intEq g 0,okY14 ng lg s e g,Nat.ble s.length 1000,okX s,mBy m0,mBy m1,mBy d0,mBy d1,intEq (seasR [m0,m1]) 0,!(nilB (fitL m0 m1 12))] (.ret (.int .i64 (bI (someR ng s e m0 m1 d0 d1)))))
 | _=>none
theorem r72 (ng lg:Bool) (s:List UInt8) (e:Int) (m0 m1 d0 d1:UInt8) (a b c hi y:Int) (J:Nat->Value) {Q:VQ->Prop}:askA Q (rT Z2 noL [] 72 0 30 [1,2,4,5] [.ptr 14 0,.int .i64 0,.int .i64 hi,.int .i64 y] J ⟨1,[boxD ng lg s e 0 [m0,m1] [d0,d1] a b c],[]⟩) (dtN 1120338127120742770220642700054)=((fun (u3 u4 u5:AV) (u1:Bool) (u2:List Int) (u0:Prop)=>(fun (u7:Nat) (u6 u8 u9:Prop)=>(intLe y hi=true->okY14 ng lg s e 0=true/\Nat.ble (List.length s) 1000=true/\okX s=true/\u0/\(u6->u6/\u6/\mBy m0=true/\mBy m1=true/\mBy d0=true/\mBy d1=true/\intEq (seasR [m0,m1]) 0=true/\not (nilB u2)=true/\u0/\(Nat.beq u7 0=true->u6/\u6/\u6/\u8)/\(Nat.beq u7 0=false->u6/\u6/\u6/\not (intLe (Int.ofNat u7) 0)=true/\Q (AX.ret,([u3,AV.int .i64 1,u5,AV.int .i64 y],{ n:=2,os:=[AObj.cells (yL d0 d1 y (celL u2) (lenN u2)) true (Option.some 3),AObj.cells [AV.bool ng,AV.bool lg,AV.str s,AV.int .i64 e,u4,AV.str [m0,m1],AV.str [d0,d1],AV.int .u8 a,AV.int .u8 b,AV.int .u8 c] true Option.none],le:=[] }))))/\(u9->u9/\u9/\u9/\u9/\u9/\u8))/\(intLe y hi=false->Q (AX.exit 0,([u3,u4,u5,AV.int .i64 y],{ n:=1,os:=[AObj.cells [AV.bool ng,AV.bool lg,AV.str s,AV.int .i64 e,u4,AV.str [m0,m1],AV.str [d0,d1],AV.int .u8 a,AV.int .u8 b,AV.int .u8 c] true Option.none],le:=[] })))) (yN d0 d1 y (celL u2) (lenN u2)) (u1=true) (inR .i64 (Int.add y 1)=true/\Q (AX.normal,([u3,u4,u5,AV.int .i64 (Int.add y 1)],{ n:=1,os:=[AObj.cells [AV.bool ng,AV.bool lg,AV.str s,AV.int .i64 e,u4,AV.str [m0,m1],AV.str [d0,d1],AV.int .u8 a,AV.int .u8 b,AV.int .u8 c] true Option.none],le:=[] }))) (u1=false)) (AV.ptr 14 0) (AV.int .i64 0) (AV.int .i64 hi) (intEq (cond (inYB ng s e y) 1 0) 1) (fitL m0 m1 12) (and (intLe (Neg.neg 10000000000000000) y) (intLe y 10000000000000000)=true)):=by kernel_rfl
theorem b72 (ng lg:Bool) (s:List UInt8) (e:Int) (m0 m1 d0 d1:UInt8) (a b c:Int) {Q:AV->Prop}:askA Q (pT Z2 L72 72 [.agg [.bool ng,.bool lg,.str s,.int .i64 e,.int .i64 0,.str [m0,m1],.str [d0,d1],.int .u8 a,.int .u8 b,.int .u8 c]]) (dtN 114777022070005)=((fun (u3:Bool) (u0 u1 u2:Prop)=>u0/\u1/\u2/\intEq (hiY ng s e) (hiY ng s e)=true/\intEq (loY ng s e) (loY ng s e)=true/\u0/\u1/\u2/\mBy m0=true/\mBy m1=true/\mBy d0=true/\mBy d1=true/\intEq (seasR [m0,m1]) 0=true/\not (nilB (fitL m0 m1 12))=true/\(u3=true->(∀J1:Nat->Value,∀J2:Nat->Value,Q (AV.int .i64 1)))/\(u3=false->(∀J1:Nat->Value,∀J2:Nat->Value,Q (AV.int .i64 0)))) (someR ng s e m0 m1 d0 d1) (okY14 ng lg s e 0=true) (Nat.ble (List.length s) 1000=true) (okX s=true)):=by kernel_rfl
theorem body72:bodyOf tab 72=some (fnOf 72,codeOf 72):=by kernel_rfl
theorem loops72:(loopsOf (codeOf 72)).map (·.1)=[0]:=by kernel_rfl
theorem anyFrom_iff {f:Int->Bool}:∀{n:Nat} {a:Int},anyFrom f a n=true↔∃k,a≤k/\k<a+n/\f k=true
 | 0,a=>by
   refine ⟨fun h=>(by cases h),fun ⟨k,h1,h2,_⟩=>?_⟩
   exfalso;omega
 | n+1,a=>by
   rw [anyFrom,Bool.or_eq_true,anyFrom_iff]
   constructor
   · rintro (h|⟨k,h1,h2,h3⟩)
     · exact ⟨a,by omega,by omega,h⟩
     · exact ⟨k,by omega,by omega,h3⟩
   · rintro ⟨k,h1,h2,h3⟩
     by_cases e:k=a
     · subst e;exact .inl h3
     · exact .inr ⟨k,by omega,by omega,h3⟩
theorem fil4_bd {c0 c1 c2 c3:UInt8} {x:Int} (hx:48≤x/\x≤57) (h0:mBy c0=true) (h1:mBy c1=true) (h2:mBy c2=true) (h3:mBy c3=true):0≤fil4 c0 c1 c2 c3 x/\fil4 c0 c1 c2 c3 x≤9999:=by
 have d:∀c:UInt8,mBy c=true->0≤dgx c x/\dgx c x≤9:=fun c h=>by
  rw [mBy_iff] at h
  unfold dgx
  by_cases e:c.toNat=88
  · rw [beqT e,cond_true];omega
  · rw [beqF e,cond_false];omega
 have:=d c0 h0
 have:=d c1 h1
 have:=d c2 h2
 have:=d c3 h3
 unfold fil4
 omega
theorem lohi_bd {ng lg:Bool} {s:List UInt8} {e g:Int} (ho:okY14 ng lg s e g=true) (hX:okX s=true) : -10000000000000000≤loY ng s e/\hiY ng s e≤10000000000000000:=by
 unfold loY hiY
 cases hx:Nat.beq (hasN s 88 88) 0 with
 | true=>
   rw [q_beq_t] at hx
   have:=valR_bnd ho hx
   rw [cond_true,cond_true]
   exact ⟨this.1,this.2⟩
 | false=>
   rw [cond_false,cond_false]
   obtain ⟨c0,c1,c2,c3,rfl,h0,h1,h2,h3⟩:=okX_m hX hx
   have a:=fil4_bd (x:=48) (by decide) h0 h1 h2 h3
   have b:=fil4_bd (x:=57) (by decide) h0 h1 h2 h3
   have l:0≤lastX c1 c2 c3/\lastX c1 c2 c3≤1000:=by
    unfold lastX
    cases Nat.beq c3.toNat 88<;>cases Nat.beq c2.toNat 88<;>cases Nat.beq c1.toNat 88<;>decide
   unfold lowM
   cases ng with
   | true=>
     simp only [cond_true,Bool.true_and]
     cases intEq (fil4 c0 c1 c2 c3 48) 0<;>simp only [cond_true,cond_false]<;>omega
   | false=>
     simp only [cond_false,Bool.false_and]
     omega
theorem lv72:LoopVOK Tryz.prog (cfgS cfg Z2) (Cw cfg []) (lb 72 0) 30 [1,2,4,5] v72:=by
 intro vs o t Q hv hq J
 unfold v72 at hv
 split at hv
 · rename_i z hi y ng lg s e g m0 m1 d0 d1 a b c
   cases hv
   obtain ⟨k1,hq'⟩:=asrts_wp hq;clear hq;have hq:=hq';clear hq'
   obtain ⟨k2,hq'⟩:=asrts_wp hq;clear hq;have hq:=hq';clear hq'
   obtain ⟨k3,hq'⟩:=asrts_wp hq;clear hq;have hq:=hq';clear hq'
   obtain ⟨k4,hq'⟩:=asrts_wp hq;clear hq;have hq:=hq';clear hq'
   obtain ⟨k5,hq'⟩:=asrts_wp hq;clear hq;have hq:=hq';clear hq'
   obtain ⟨k6,hq'⟩:=asrts_wp hq;clear hq;have hq:=hq';clear hq'
   obtain ⟨k7,hq'⟩:=asrts_wp hq;clear hq;have hq:=hq';clear hq'
   obtain ⟨h0,hq'⟩:=asrts_wp hq;clear hq;have hq:=hq';clear hq'
   obtain ⟨h1,hq'⟩:=asrts_wp hq;clear hq;have hq:=hq';clear hq'
   obtain ⟨h2,hq'⟩:=asrts_wp hq;clear hq;have hq:=hq';clear hq'
   obtain ⟨h3,hq'⟩:=asrts_wp hq;clear hq;have hq:=hq';clear hq'
   obtain ⟨k8,hq'⟩:=asrts_wp hq;clear hq;have hq:=hq';clear hq'
   obtain ⟨k9,hq'⟩:=asrts_wp hq;clear hq;have hq:=hq';clear hq'
   rw [q_eq_t] at k1 k2 k3 k4
   rw [q_ble_t] at k6
   have hbd:=lohi_bd k5 k7
   subst k1 k2 k3 k4
   have k9:nilB (fitL m0 m1 12)=false:=by
    cases h:nilB (fitL m0 m1 12) with
    | true=>rw [h] at k9;cases k9
    | false=>rfl
   unfold someR at hq
   simp only [asrts,Tr.wp] at hq
   generalize hiY ng s e=hi at *
   generalize loY ng s e=lo at *
   have box:LowO (14+1) (boxD ng lg s e 0 [m0,m1] [d0,d1] a b c):=low_plain (by simp [idsL,idsA])
   refine lvOK Z2_ok rfl rfl lok_none (ι:={y:Int // -10000000000000000≤y/\anyFrom (hitY ng s e m0 m1 d0 d1) lo (hi+1-lo).toNat=anyFrom (hitY ng s e m0 m1 d0 d1) y (hi+1-y).toNat}) (fun x=>[.ptr 14 0,.int .i64 0,.int .i64 hi,.int .i64 x.1]) (fun _=>⟨1,[boxD ng lg s e 0 [m0,m1] [d0,d1] a b c],[]⟩) (fun x=>(hi+1-x.1).toNat) 1 (fun _=>Nat.le_refl _) (fun x J=>?_) (Nat.le_refl _) (fun J=>Wk.refl ⟨⟨lo,hbd.1,rfl⟩,J,rfl⟩) J
   obtain ⟨y,hy,he⟩:=x
   dsimp only
   rw [he] at hq
   have step:y≤hi->anyFrom (hitY ng s e m0 m1 d0 d1) y (hi+1-y).toNat=(hitY ng s e m0 m1 d0 d1 y || anyFrom (hitY ng s e m0 m1 d0 d1) (y+1) (hi+1-(y+1)).toNat):=fun h=>by
    rw [show (hi+1-y).toNat=(hi+1-(y+1)).toNat+1 by omega]
    rfl
   have hit:hitY ng s e m0 m1 d0 d1 y=(inYB ng s e y&&!(Nat.beq (yN d0 d1 y (celL (fitL m0 m1 12)) (lenN (fitL m0 m1 12))) 0)):=rfl
   have yes:y≤hi->hitY ng s e m0 m1 d0 d1 y=true->∀J:Nat->Value,Q (.ret,[.ptr 14 0,.int .i64 1,.int .i64 hi,.any (J 0)],⟨1,[boxD ng lg s e 0 [m0,m1] [d0,d1] a b c],[]⟩):=fun h1 h2 J2=>by
    rw [step h1,h2,Bool.true_or] at hq
    exact hq J2
   have no:hi<y->∀J:Nat->Value,Q (.exit 0,[.ptr 14 0,.int .i64 0,.int .i64 hi,.any (J 0)],⟨1,[boxD ng lg s e 0 [m0,m1] [d0,d1] a b c],[]⟩):=fun h1 J2=>by
    rw [show (hi+1-y).toNat=0 by omega] at hq
    exact hq J2
   have next:y≤hi->hitY ng s e m0 m1 d0 d1 y=false->anyFrom (hitY ng s e m0 m1 d0 d1) lo (hi+1-lo).toNat=anyFrom (hitY ng s e m0 m1 d0 d1) (y+1) (hi+1-(y+1)).toNat:=fun h1 h2=>by
    rw [he,step h1,h2,Bool.false_or]
   clear hq step
   rw [hit] at yes next
   refine wp_gen fun Q' hQ=>askA_wp ((r72 ng lg s e m0 m1 d0 d1 a b c hi y J).mpr ?_)
   dsimp only
   have yids:=@yL_ids d0 d1 y (celL (fitL m0 m1 12)) (lenN (fitL m0 m1 12))
   generalize yL d0 d1 y (celL (fitL m0 m1 12)) (lenN (fitL m0 m1 12))=C at *
   generalize yN d0 d1 y (celL (fitL m0 m1 12)) (lenN (fitL m0 m1 12))=N at *
   have n2:(!(nilB (fitL m0 m1 12)))=true:=by rw [k9];rfl
   have ret:y≤hi->(inYB ng s e y&&!(Nat.beq N 0))=true->Q' (.ret,[.ptr 14 0,.int .i64 1,.int .i64 hi,.int .i64 y],⟨2,[.cells C true (some 3),boxD ng lg s e 0 [m0,m1] [d0,d1] a b c],[]⟩):=fun q1 q2=>hQ _ ⟨_,_,VW.trans (vs':=[.ptr 14 0,.int .i64 1,.int .i64 hi,.int .i64 y]) (o':=⟨1,[boxD ng lg s e 0 [m0,m1] [d0,d1] a b c],[]⟩) (VW.move good0.lv (C:=Cw cfg []) (kb:=1) (sel:=[]) lowC0 (Nat.le_succ 1) (fun s hs=>by cases hs) List.nodup_nil (fun p hp=>by cases hp) rfl rfl rfl (fun i hi=>by
    obtain rfl:i=0:=by omega
    exact ⟨rfl,box⟩) (fun t ht=>absurd ht (Nat.not_lt_zero t)) rfl) (VW.any (.same (.same (.same (.int .nil)))) rfl),yes q1 q2 (jv [_])⟩
   have fin:hi<y->Q' (.exit 0,[.ptr 14 0,.int .i64 0,.int .i64 hi,.int .i64 y],⟨1,[boxD ng lg s e 0 [m0,m1] [d0,d1] a b c],[]⟩):=fun q1=>hQ _ ⟨_,_,VW.any (.same (.same (.same (.int .nil)))) rfl,no q1 (jv [_])⟩
   have go:y≤hi->(inYB ng s e y&&!(Nat.beq N 0))=false->Q' (.normal,[.ptr 14 0,.int .i64 0,.int .i64 hi,.int .i64 (y+1)],⟨1,[boxD ng lg s e 0 [m0,m1] [d0,d1] a b c],[]⟩):=fun q1 q2=>hQ _ ⟨⟨y+1,by omega,next q1 q2⟩,by dsimp only;omega,VW.of_eq rfl rfl⟩
   clear hQ yes no next he hit yids box
   have ey:okYbR y=(intLe (-10000000000000000) y&&intLe y 10000000000000000):=rfl
   generalize seasR [m0,m1]=sr at *
   generalize fitL m0 m1 12=M at *
   rw [q_eq_t] at k8
   cases hY:inYB ng s e y with
   | false=>
     have go:=fun q1=>go q1 (by rw [hY];rfl)
     clear ret
     simp only [cond_false]
     simp only [q_all,reduceCtorEq,loK,hiK,ne_eq]
     (repeat' first|exact trivial|refine ⟨?_,?_⟩|intro)<;>first|contradiction|omega|assumption|(apply fin;omega)|(apply go;omega)|(exfalso;simp_all;done)
   | true=>
     cases hN:Nat.beq N 0 with
     | true=>
       have go:=fun q1=>go q1 (by rw [hY,hN];rfl)
       rw [q_beq_t] at hN
       clear ret
       simp only [cond_true]
       simp only [q_all,reduceCtorEq,loK,hiK,ne_eq]
       (repeat' first|exact trivial|refine ⟨?_,?_⟩|intro)<;>first|contradiction|omega|assumption|(apply fin;omega)|(apply go;omega)|(exfalso;simp_all;done)
     | false=>
       have ret:=fun q1=>ret q1 (by rw [hY,hN];rfl)
       rw [q_beq_f] at hN
       clear go
       simp only [cond_true]
       simp only [q_all,reduceCtorEq,loK,hiK,ne_eq]
       (repeat' first|exact trivial|refine ⟨?_,?_⟩|intro)<;>first|contradiction|omega|assumption|(apply fin;omega)|(apply ret;omega)|(exfalso;simp_all;done)
 · cases hv
theorem f72 {ng lg:Bool} {s:List UInt8} {e:Int} {m0 m1 d0 d1:UInt8} {a b c:Int} (hs:s.length≤1000) (h0:mBy m0=true) (h1:mBy m1=true) (h2:mBy d0=true) (h3:mBy d1=true) (hse:intEq (seasR [m0,m1]) 0=true) (hn:nilB (fitL m0 m1 12)=false) (ho:okY14 ng lg s e 0=true) (hx:okX s=true) :
 FactW Tryz.prog cfg 72 [.agg [.bool ng,.bool lg,.str s,.int .i64 e,.int .i64 0,.str [m0,m1],.str [d0,d1],.int .u8 a,.int .u8 b,.int .u8 c]] [] (.int .i64 (bI (someR ng s e m0 m1 d0 d1))) []:=by
 refine fpOK Z2_ok (L:=L72) body72 (by simp) (lok_at loops72 fun i hi e he st Q hw=>?_) (wp_gen fun Q' hQ=>askA_wp ((b72 ng lg s e m0 m1 d0 d1 a b c).mpr ?_)) (by simp [idsA])
 · have hi:i=0:=by simp at hi;omega
   subst hi
   cases he
   exact loopE_ok (base0.good Z2_ok) (by decide) rfl lv72 hw
 · have hQ:=hQ _ rfl
   rw [q_eq_t] at hse
   generalize someR ng s e m0 m1 d0 d1=r at *
   generalize seasR [m0,m1]=sr at *
   generalize fitL m0 m1 12=M at *
   generalize loY ng s e=lo at *
   generalize hiY ng s e=hi at *
   cases r with
   | true=>
     have hQ:Q' (.int .i64 1):=hQ
     simp only [q_all,reduceCtorEq,loK,hiK,ne_eq]
     (repeat' first|exact trivial|refine ⟨?_,?_⟩|intro)<;>first|contradiction|omega|assumption|(exfalso;simp_all;done)|(simp_all;done)
   | false=>
     have hQ:Q' (.int .i64 0):=hQ
     simp only [q_all,reduceCtorEq,loK,hiK,ne_eq]
     (repeat' first|exact trivial|refine ⟨?_,?_⟩|intro)<;>first|contradiction|omega|assumption|(exfalso;simp_all;done)|(simp_all;done)
theorem add72 {S:Sums} (hS:SumsOK Tryz.prog cfg S):SumsOK Tryz.prog cfg (addP S 72 s72):=sums_addP hS fun args t v he hv=>by
 unfold s72 at he
 split at he
 · cases he
   obtain ⟨k1,hv⟩:=asrts_run hv
   obtain ⟨k2,hv⟩:=asrts_run hv
   obtain ⟨k3,hv⟩:=asrts_run hv
   obtain ⟨k4,hv⟩:=asrts_run hv
   obtain ⟨k5,hv⟩:=asrts_run hv
   obtain ⟨k6,hv⟩:=asrts_run hv
   obtain ⟨k7,hv⟩:=asrts_run hv
   obtain ⟨k8,hv⟩:=asrts_run hv
   obtain ⟨k9,hv⟩:=asrts_run hv
   obtain ⟨k10,hv⟩:=asrts_run hv
   rw [q_eq_t] at k1
   rw [q_ble_t] at k3
   cases hv
   subst k1
   refine f72 k3 k5 k6 k7 k8 k9 ?_ k2 k4
   rename_i m0 m1 _ _ _ _ _
   revert k10
   generalize nilB _=r
   cases r<;>intro h<;>first|rfl|cases h
 · cases he
theorem inYB_iff {ng:Bool} {s:List UInt8} {e k:Int}:inYB ng s e k=true↔inY ng s e k:=by
 unfold inYB inY
 cases Nat.beq (hasN s 88 88) 0 with
 | true=>rw [cond_true,cond_true,q_eq_t]
 | false=>
   rw [cond_false,cond_false]
   split
   · rename_i c0 c1 c2 c3
     cases ng with
     | true=>exact (by rw [Bool.and_eq_true,q_le_t,decide_eq_true_eq]:(intLe 1 (-k)&&decide (inM c0 c1 c2 c3 (-k)))=true↔1≤-k/\inM c0 c1 c2 c3 (-k))
     | false=>exact (by rw [decide_eq_true_eq]:decide (inM c0 c1 c2 c3 k)=true↔inM c0 c1 c2 c3 k)
   · rename_i hne
     refine ⟨fun h=>(by cases h),fun h=>?_⟩
     split at h
     · exact absurd rfl (hne _ _ _ _)
     · cases h
theorem mAt_celL {M:List Int} {i:Nat} (h:i<M.length):mAt (celL M) i=M.getD i 0:=by
 unfold mAt celL
 rw [List.getD_eq_getElem?_getD,List.getElem?_map,List.getElem?_eq_getElem h,List.getD_eq_getElem?_getD,List.getElem?_eq_getElem h]
 rfl
theorem yN_iff {d0 d1:UInt8} {y:Int} {w:List AV}:∀{n:Nat},yN d0 d1 y w n≠0↔∃i,i<n/\dayN d0 d1 y (mAt w i)≠[]
 | 0=>⟨fun h=>absurd rfl h,fun ⟨i,h,_⟩=>absurd h (Nat.not_lt_zero _)⟩
 | n+1=>by
   rw [yN]
   have ih:=yN_iff (d0:=d0) (d1:=d1) (y:=y) (w:=w) (n:=n)
   constructor
   · intro h
     by_cases h1:yN d0 d1 y w n=0
     · refine ⟨n,Nat.lt_succ_self _,fun h2=>h ?_⟩
       rw [h1,h2];rfl
     · obtain ⟨i,hi,hd⟩:=ih.1 h1
       exact ⟨i,by omega,hd⟩
   · rintro ⟨i,hi,hd⟩
     by_cases e:i=n
     · subst e
       have:=List.length_pos_iff.2 hd
       omega
     · have:=ih.2 ⟨i,by omega,hd⟩
       omega
theorem some_iff {ng lg:Bool} {s:List UInt8} {e g:Int} {m0 m1 d0 d1:UInt8} (ho:okY14 ng lg s e g=true) (hX:okX s=true):someR ng s e m0 m1 d0 d1=isF ng s e [m0,m1] [d0,d1]:=by
 have hd:bytesEq [d0,d1] []=false:=rfl
 rw [Bool.eq_iff_iff]
 unfold someR isF
 show _↔isP (seekF ng s e (-9223372036854775808) 0 0 [m0,m1] [d0,d1] (fitL m0 m1 12) (fitL d0 d1 31) _ _)=true
 rw [seek_iff ho hX hd (by decide) _ _ (Nat.le_refl _),anyFrom_iff]
 have hb:=lohi_bd ho hX
 have hit:∀k,hitY ng s e m0 m1 d0 d1 k=true↔inY ng s e k/\goodY (fitL m0 m1 12) (fitL d0 d1 31) k:=fun k=>by
  unfold hitY
  rw [Bool.and_eq_true,inYB_iff,Bool.not_eq_true',q_beq_f,yN_iff,goodY_iff]
  refine and_congr_right fun _=>?_
  constructor
  · rintro ⟨i,hi,h⟩
    have hi:i<(fitL m0 m1 12).length:=hi
    rw [mAt_celL hi] at h
    refine ⟨_,?_,h⟩
    rw [List.getD_eq_getElem?_getD,List.getElem?_eq_getElem hi]
    exact List.getElem_mem hi
  · rintro ⟨m,hm,h⟩
    obtain ⟨i,hi,rfl⟩:=List.getElem_of_mem hm
    refine ⟨i,hi,?_⟩
    rw [mAt_celL hi,List.getD_eq_getElem?_getD,List.getElem?_eq_getElem hi]
    exact h
 constructor
 · rintro ⟨k,h1,h2,h3⟩
   rw [hit] at h3
   exact ⟨k,h3.1,by omega,h3.2⟩
 · rintro ⟨k,h1,h2,h3⟩
   have hk:=inY_bd hX h1
   exact ⟨k,hk.1,by omega,(hit k).2 ⟨h1,h3⟩⟩
end Go.Ev
