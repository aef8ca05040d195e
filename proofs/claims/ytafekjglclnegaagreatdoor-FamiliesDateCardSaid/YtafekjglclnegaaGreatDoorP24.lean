import Derived.Test.YtafekjglclnegaaGreatDoorP23
set_option linter.all false
section
set_option maxRecDepth 100000
namespace Go.Ev
open Go Go.Proofs
def s234:Sum:=fun args=>match args with
 | [.str [c0,c1],.int .i64 n]=>some (asrts [mBy c0,mBy c1,intLe 0 n,intLe n 99] (.ret (.bool (agr [c0,c1] n))))
 | _=>none
def U5:Sums:=addP U4 234 s234
def fitL (c0 c1:UInt8):Nat->List Int
 | 0=>[]
 | g+1=>fitL c0 c1 g++(bif agr [c0,c1] ((g:Int)+1) then [(g:Int)+1] else [])
def outV (b:Nat):List Int->AV
 | []=>.nilslice
 | x::xs=>.slice b 0 (xs.length+1) (.rest 0)
def outO:List Int->Own
 | []=>⟨0,[],[]⟩
 | x::xs=>⟨1,[.cells ((x::xs).map (AV.int .i64)) true (some 1)],[]⟩
theorem vw_last {tn:Nat} {rel:List Nat} {vs vs':List AV} {x:AObj} {k:Nat} {os:List AObj} (hlen:os.length=k) (hx:LowO 14 x) (hvs:mvL (mvA 14 [(14+k,14)] 20) vs=some vs') :
 VW cfg (Cw cfg []) 0 tn rel vs ⟨k+1,x::os,[]⟩ vs' ⟨1,[x],[]⟩:=by
 refine VW.move good0.lv (C:=Cw cfg []) (kb:=0) (sel:=[k]) lowC0 (Nat.zero_le _) (fun s hs=>?_) (by simp) (fun p hp=>by cases hp) rfl rfl rfl (fun i hi=>absurd hi (Nat.not_lt_zero i)) (fun t ht=>?_) hvs
 · simp only [List.mem_singleton] at hs;subst hs;exact ⟨Nat.zero_le _,Nat.lt_succ_self _⟩
 · have:t=0:=by simp at ht;omega
   subst this
   refine .inl ⟨?_,?_⟩
   · show (⟨1,[x],[]⟩:Own).at 0=(⟨k+1,x::os,[]⟩:Own).at k
     unfold Own.at
     simp
   · show LowO 14 ((⟨k+1,x::os,[]⟩:Own).at k)
     unfold Own.at
     simpa using hx
theorem low_ints {L:List Int} {rw:Bool} {g:Option Nat} {b:Nat}:LowO b (.cells (L.map (AV.int .i64)) rw g):=by
 refine ⟨rfl,fun i hi=>?_⟩
 exfalso
 obtain ⟨v,hv,hi⟩:=mem_idsL.1 hi
 obtain ⟨n,_,rfl⟩:=List.mem_map.1 hv
 simp [idsA] at hi
def v177:LoopV:=fun vs o=>match vs,o with
 | [.str [c0,c1],.int .i64 g,.int .i64 i,.nilslice],⟨0,[],[]⟩=>some (asrts [mBy c0,mBy c1,intLe 0 g,intLe g 99,intEq i 0] (.ret (.exit 0,[.str [c0,c1],.int .i64 g,.int .i64 g,outV 14 (fitL c0 c1 g.toNat)],outO (fitL c0 c1 g.toNat))))
 | _,_=>none
def L177:Loops:=addL noL 0 (loopE 22 [0,7,8,5] v177)
def nilB (L:List Int):Bool:=L.isEmpty
def lenN (L:List Int):Nat:=L.length
def celL (L:List Int):List AV:=L.map (AV.int .i64)
def w177:WSum:=fun args ws=>match args,ws with
 | [.str [c0,c1],.int .i64 g],[]=>some (asrts [mBy c0,mBy c1,intLe 0 g,intLe g 99] (.test (nilB (fitL c0 c1 g.toNat)) fun b=>bif b then .ret (.nilslice,[]) else .ret (.slice 14 0 (lenN (fitL c0 c1 g.toNat)) (.rest 0),[.cells (celL (fitL c0 c1 g.toNat)) true (some 1)])))
 | _,_=>none
def U6:Sums:=addG U5 177 (winS 14 [] w177)
theorem b234 (c0 c1:UInt8) (n:Int) {Q:AV->Prop}:askA Q (pT U4 noL 234 [.str [c0,c1],.int .i64 n]) (dtN 102088103020770024005288133000581788123220770024220024322077002400)=((fun (u0 u1:Int) (u2:Prop)=>(fun (u3 u5:Bool) (u4 u6:Int)=>(fun (u8:Bool) (u7 u9 ua ub uc ud ue:Prop)=>(fun (uf ug:Prop)=>(u7->u7/\u7/\inR .u8 u4=true/\u7/\inR .i64 u4=true/\u7/\u7/\inR .i64 (Int.tdiv n 10)=true/\u7/\u3=false/\(uf->uf/\uf/\uf/\(u9->u9/\u9/\ua/\u9/\ub/\u9/\u9/\u9/\uf/\u5=false/\uf/\uc)/\(ud->ud/\ud/\ud/\ud/\ud/\ud/\uf/\u5=true/\uf/\u2))/\(ug->ug/\ug/\ug/\ug/\ug/\Q (AV.bool false)))/\(ue->ue/\ue/\ue/\ue/\ue/\ue/\u3=true/\(u9->u9/\u9/\ua/\u9/\ub/\u9/\u9/\u9/\u5=false/\uc)/\(ud->ud/\ud/\ud/\ud/\ud/\ud/\u5=true/\u2))) (u8=true) (u8=false)) (intEq u4 (Int.tdiv n 10)) (not u3=true) (not u5=true) (inR .u8 u6=true) (inR .i64 u6=true) (Q (AV.bool (intEq u6 (Int.tmod n 10)))) (not u5=false) (not u3=false)) (intEq u0 88) (intEq u1 88) (Int.sub u0 48) (Int.sub u1 48)) (Int.ofNat (UInt8.toNat c0)) (Int.ofNat (UInt8.toNat c1)) (Q (AV.bool true))):=by kernel_rfl
theorem r177a (c0 c1:UInt8) (g i:Int) (J:Nat->Value) {Q:VQ->Prop}:askA Q (rT U5 noL [] 177 0 22 [0,7,8,5] [.str [c0,c1],.int .i64 g,.int .i64 i,.nilslice] J own0) (dtN 11212052427024)=((fun (u2 u3:AV) (u0:Bool) (u1:Int)=>(fun (u6:AV) (u5:Bool) (u4:Prop)=>(u0=true->u4/\mBy c0=true/\mBy c1=true/\intLe 0 u1=true/\intLe u1 99=true/\(u5=true->u4/\u4/\Q (AX.normal,([u2,u3,u6,AV.slice 15 0 1 (Cap.rest 0)],{ n:=2,os:=[AObj.cells [u6] true (Option.some 1),AObj.cells [u6] true Option.none],le:=[] })))/\(u5=false->u4/\Q (AX.normal,([u2,u3,u6,AV.nilslice],{ n:=0,os:=[],le:=[] }))))/\(u0=false->Q (AX.exit 0,([u2,u3,AV.int .i64 i,AV.nilslice],{ n:=0,os:=[],le:=[] })))) (AV.int .i64 u1) (agr [c0,c1] u1) (inR .i64 u1=true)) (AV.str [c0,c1]) (AV.int .i64 g) (not (intLe g i)) (Int.add i 1)):=by kernel_rfl
theorem r177b (c0 c1:UInt8) (g i:Int) (J:Nat->Value) (cs:List AV) (n:Nat) {Q:VQ->Prop}:askA Q (rT U5 noL [] 177 0 22 [0,7,8,5] [.str [c0,c1],.int .i64 g,.int .i64 i,.slice 14 0 n (.rest 0)] J ⟨1,[.cells cs true (some 1)],[]⟩) (dtN 11211245202427024)=((fun (u3 u4 u5:AV) (u0 u2:Bool) (u1:Int)=>(fun (u8:AV) (u7:Bool) (u6:Prop)=>(u0=true->u6/\mBy c0=true/\mBy c1=true/\intLe 0 u1=true/\intLe u1 99=true/\(u7=true->u6/\and (and (Nat.ble (HAdd.hAdd n 1) 1000000) true) true=true/\(u2=true->u6/\Q (AX.normal,([u3,u4,u8,AV.slice 16 0 (HAdd.hAdd n 1) (Cap.rest 0)],{ n:=3,os:=[AObj.cells (HAppend.hAppend cs [u8]) true (Option.some 1),AObj.cells [u8] true Option.none,AObj.dead],le:=[] })))/\(u2=false->False))/\(u7=false->u6/\Q (AX.normal,([u3,u4,u8,u5],{ n:=1,os:=[AObj.cells cs true (Option.some 1)],le:=[] }))))/\(u0=false->Q (AX.exit 0,([u3,u4,AV.int .i64 i,u5],{ n:=1,os:=[AObj.cells cs true (Option.some 1)],le:=[] })))) (AV.int .i64 u1) (agr [c0,c1] u1) (inR .i64 u1=true)) (AV.str [c0,c1]) (AV.int .i64 g) (AV.slice 14 0 n (Cap.rest 0)) (not (intLe g i)) (and true (Nat.beq (List.length cs) (HMul.hMul n 1))) (Int.add i 1)):=by kernel_rfl
theorem b177 (c0 c1:UInt8) (g:Int) {Q:EQ->Prop}:askA Q (bT U5 L177 [] 177 [.str [c0,c1],.int .i64 g]) (dtN 1027)=((fun (u0:List Int)=>mBy c0=true/\mBy c1=true/\intLe 0 g=true/\intLe g 99=true/\(∀J1:Nat->Value,Q (Prod.fst (Prod.fst (outV 14 u0,Prod.snd ([AV.str [c0,c1],AV.int .i64 g,AV.int .i64 g,outV 14 u0],outO u0)),Prod.snd (outV 14 u0,Prod.snd ([AV.str [c0,c1],AV.int .i64 g,AV.int .i64 g,outV 14 u0],outO u0))),Prod.snd (Prod.fst (outV 14 u0,Prod.snd ([AV.str [c0,c1],AV.int .i64 g,AV.int .i64 g,outV 14 u0],outO u0)),Prod.snd (outV 14 u0,Prod.snd ([AV.str [c0,c1],AV.int .i64 g,AV.int .i64 g,outV 14 u0],outO u0)))))) (fitL c0 c1 (Int.toNat g))):=by kernel_rfl
theorem body234:bodyOf tab 234=some (fnOf 234,codeOf 234):=by kernel_rfl
theorem body177:bodyOf tab 177=some (fnOf 177,codeOf 177):=by kernel_rfl
theorem loops177:(loopsOf (codeOf 177)).map (·.1)=[0]:=by kernel_rfl
theorem agr_iff {c0 c1:UInt8} {n:Int}:agr [c0,c1] n=true↔(c0.toNat=88∨(c0.toNat:Int)=48+n/10)/\(c1.toNat=88∨(c1.toNat:Int)=48+n%10):=by
 unfold agr
 rw [Bool.and_eq_true,Bool.and_eq_true,decide_eq_true_eq,agB_iff,agB_iff]
 exact ⟨fun h=>h.2,fun h=>⟨rfl,h⟩⟩
theorem U5_ok:SumsOK Tryz.prog cfg U5:=by
 refine sums_addP U4_ok fun args t v he hv=>?_
 unfold s234 at he
 split at he
 · rename_i c0 c1 n
   cases he
   obtain ⟨h0,hv⟩:=asrts_run hv
   obtain ⟨h1,hv⟩:=asrts_run hv
   obtain ⟨h2,hv⟩:=asrts_run hv
   obtain ⟨h3,hv⟩:=asrts_run hv
   rw [q_le_t] at h2 h3
   rw [mBy_iff] at h0 h1
   cases hv
   refine fpOK U4_ok (L:=noL) body234 (by simp) lok_none (wp_gen fun Q' hQ=>askA_wp ((b234 c0 c1 n).mpr ?_)) (by simp [idsA])
   dsimp only
   have e1:n.tdiv 10=n/10:=Int.tdiv_eq_ediv_of_nonneg h2
   have m1:n.tmod 10=n%10:=Int.tmod_eq_emod_of_nonneg h2
   rw [e1,m1]
   have iff:=@agr_iff c0 c1 n
   have yes:agr [c0,c1] n=true->Q' (.bool true):=fun h=>hQ _ (by rw [h])
   have no:¬agr [c0,c1] n=true->Q' (.bool false):=fun h=>hQ _ (by rw [Bool.not_eq_true] at h;rw [h])
   have eq:∀b:Bool,(b=true↔agr [c0,c1] n=true)->Q' (.bool b):=fun b h=>hQ _ (by rw [Bool.eq_iff_iff.2 h])
   simp only [q_all,reduceCtorEq,loK,hiK,ne_eq]
   (repeat' first|exact trivial|refine ⟨?_,?_⟩|intro)<;>first|omega|(refine yes (iff.2 ?_);omega)|(refine no fun h=>?_;have:=iff.1 h;omega)|(refine eq _ ?_;rw [iff,q_eq_t];omega)
 · cases he
theorem fitL_succ (c0 c1:UInt8) (g:Nat):fitL c0 c1 (g+1)=fitL c0 c1 g++(bif agr [c0,c1] ((g:Int)+1) then [(g:Int)+1] else []):=rfl
theorem fitL_len (c0 c1:UInt8):∀g,(fitL c0 c1 g).length≤g
 | 0=>Nat.le_refl _
 | g+1=>by
   have:=fitL_len c0 c1 g
   rw [fitL_succ,List.length_append]
   cases agr [c0,c1] ((g:Int)+1)<;>simp<;>omega
theorem outV_len {b:Nat} {L:List Int} (h:L≠[]):outV b L=.slice b 0 L.length (.rest 0):=by cases L with|nil=>exact absurd rfl h|cons x xs=>rfl
theorem outO_len {L:List Int} (h:L≠[]):outO L=⟨1,[.cells (L.map (AV.int .i64)) true (some 1)],[]⟩:=by cases L with|nil=>exact absurd rfl h|cons x xs=>rfl
theorem lv177:LoopVOK Tryz.prog (cfgS cfg U5) (Cw cfg []) (lb 177 0) 22 [0,7,8,5] v177:=by
 intro vs o t Q hv hq J
 unfold v177 at hv
 split at hv
 · rename_i c0 c1 g i
   cases hv
   obtain ⟨h1,hq⟩:=asrts_wp hq
   obtain ⟨h2,hq⟩:=asrts_wp hq
   obtain ⟨h3,hq⟩:=asrts_wp hq
   obtain ⟨h4,hq⟩:=asrts_wp hq
   obtain ⟨h5,hq⟩:=asrts_wp hq
   rw [q_le_t] at h3 h4
   rw [q_eq_t] at h5
   subst h5
   have hq:Q (.exit 0,[.str [c0,c1],.int .i64 g,.int .i64 g,outV 14 (fitL c0 c1 g.toNat)],outO (fitL c0 c1 g.toNat)):=hq
   refine lvOK U5_ok rfl rfl lok_none (ι:={i:Nat // i≤g.toNat}) (fun x=>[.str [c0,c1],.int .i64 g,.int .i64 (x.1:Int),outV 14 (fitL c0 c1 x.1)]) (fun x=>outO (fitL c0 c1 x.1)) (fun x=>g.toNat-x.1) 0 (fun _=>Nat.zero_le _) (fun x J=>?_) (Nat.le_refl _) (fun J=>Wk.refl ⟨⟨0,Nat.zero_le _⟩,J,rfl⟩) J
   obtain ⟨i,hi⟩:=x
   dsimp only
   have hlen:=fitL_len c0 c1 i
   have hs:=fitL_succ c0 c1 i
   have fin:i=g.toNat->∃vs2 o2,VW cfg (Cw cfg []) 0 22 [0,7,8,5] [.str [c0,c1],.int .i64 g,.int .i64 (i:Int),outV 14 (fitL c0 c1 i)] (outO (fitL c0 c1 i)) vs2 o2/\Q (.exit 0,vs2,o2):=fun h=>by
    subst h
    exact ⟨_,_,VW.of_eq (by rw [Int.toNat_of_nonneg h3]) rfl,hq⟩
   by_cases hL:fitL c0 c1 i=[]
   · rw [hL] at hs fin ⊢
     refine wp_gen fun Q' hQ=>askA_wp ((r177a c0 c1 g i J).mpr ?_)
     simp only [q_all,reduceCtorEq,loK,hiK,ne_eq]
     (repeat' first|exact trivial|refine ⟨?_,?_⟩|intro)<;>first|omega|assumption|refine hQ _ ?_
     · rename_i ha
       refine ⟨⟨i+1,by omega⟩,by dsimp only;omega,?_⟩
       dsimp only
       rw [hs,ha]
       exact vw_last (x:=.cells [.int .i64 ((i:Int)+1)] true (some 1)) rfl (low_ints (L:=[(i:Int)+1])) rfl
     · rename_i ha
       refine ⟨⟨i+1,by omega⟩,by dsimp only;omega,?_⟩
       dsimp only
       rw [hs,ha]
       exact VW.refl
     · exact fin (by omega)
   · rw [outV_len hL,outO_len hL] at fin ⊢
     refine wp_gen fun Q' hQ=>askA_wp ((r177b c0 c1 g i J ((fitL c0 c1 i).map (AV.int .i64)) (fitL c0 c1 i).length).mpr ?_)
     simp only [q_all,reduceCtorEq,loK,hiK,ne_eq]
     simp only [Bool.and_true,Bool.true_and,q_beq_t,q_beq_f,q_ble_t,List.length_map,Nat.mul_one]
     (repeat' first|exact trivial|refine ⟨?_,?_⟩|intro)<;>first|omega|assumption|(exfalso;simp_all;done)|(exfalso;simp_all;omega)|refine hQ _ ?_
     · rename_i ha _
       refine ⟨⟨i+1,by omega⟩,by dsimp only;omega,?_⟩
       dsimp only
       have hne:fitL c0 c1 (i+1)≠[]:=by rw [hs];simp [hL]
       have he:fitL c0 c1 (i+1)=fitL c0 c1 i++[(i:Int)+1]:=by rw [hs,ha];rfl
       rw [outV_len hne,outO_len hne,he,List.map_append,List.length_append]
       refine vw_last (k:=2) (x:=.cells ((fitL c0 c1 i).map (AV.int .i64)++[.int .i64 ((i:Int)+1)]) true (some 1)) (os:=[.cells [.int .i64 ((i:Int)+1)] true none,.dead]) rfl ?_ ?_
       · have:=@low_ints (fitL c0 c1 i++[(i:Int)+1]) true (some 1) 14
         rwa [List.map_append] at this
       · rfl
     · rename_i ha
       refine ⟨⟨i+1,by omega⟩,by dsimp only;omega,?_⟩
       dsimp only
       have he:fitL c0 c1 (i+1)=fitL c0 c1 i:=by rw [hs,ha];simp
       rw [he,outV_len hL,outO_len hL]
       exact VW.refl
     · exact fin (by omega)
 · cases hv
theorem U6_ok:SumsOK Tryz.prog cfg U6:=by
 refine sums_addG U5_ok (win_ok good0.lv ro0 fun args ws t r he hr=>?_)
 unfold w177 at he
 split at he
 · rename_i c0 c1 g
   cases he
   obtain ⟨h1,hr⟩:=asrts_run hr
   obtain ⟨h2,hr⟩:=asrts_run hr
   obtain ⟨h3,hr⟩:=asrts_run hr
   obtain ⟨h4,hr⟩:=asrts_run hr
   rw [q_le_t] at h3 h4
   have key:∀(v:AV) (news:List AObj),outV 14 (fitL c0 c1 g.toNat)=v->outO (fitL c0 c1 g.toNat)=⟨news.length,news,[]⟩->FactW Tryz.prog cfg 177 [.str [c0,c1],.int .i64 g] [] v news:=fun v news e1 e2=>by
    refine fwOK U5_ok (L:=L177) body177 (by simp) (lok_at loops177 fun i hi e he st Q hw=>?_) (wp_gen fun Q' hQ=>askA_wp ((b177 c0 c1 g).mpr ?_))
    · have hi:i=0:=by simp at hi;omega
      subst hi
      cases he
      exact loopE_ok (base0.good U5_ok) (by decide) rfl lv177 hw
    · simp only [q_all,reduceCtorEq,loK,hiK,ne_eq]
      (repeat' first|exact trivial|refine ⟨?_,?_⟩|intro)<;>first|omega|assumption|exact hQ _ (EndW.of e1 e2)
   have hr:Tr.run (bif nilB (fitL c0 c1 g.toNat) then .ret (.nilslice,[]) else .ret (.slice 14 0 (lenN (fitL c0 c1 g.toNat)) (.rest 0),[.cells (celL (fitL c0 c1 g.toNat)) true (some 1)]))=some r:=hr
   by_cases hL:fitL c0 c1 g.toNat=[]
   · rw [hL] at hr key
     cases hr
     exact ⟨key _ _ rfl rfl,fun x hx=>by cases hx⟩
   · have:nilB (fitL c0 c1 g.toNat)=false:=by unfold nilB;cases h:fitL c0 c1 g.toNat with|nil=>exact absurd h hL|cons x xs=>rfl
     rw [this] at hr
     cases hr
     refine ⟨key _ _ (outV_len hL) (outO_len hL),fun x hx=>?_⟩
     simp only [List.mem_singleton] at hx
     subst hx
     exact low_ints
 · cases he
end Go.Ev
end
section
set_option maxRecDepth 100000
set_option maxHeartbeats 4000000
namespace Go.Ev
open Go Go.Proofs
def s211':Sum:=fun args=>match args with
 | [.str [c0,c1,c2,c3],.int .i64 n,.bool b]=>some (asrts [mBy c0,mBy c1,mBy c2,mBy c3,intLe 0 n,intLe n 9999] (.test b fun b=>bif b then ansM (nextM c0 c1 c2 c3 n) else ansM (prevM c0 c1 c2 c3 n)))
 | _=>none
def U7:Sums:=addP U6 211 s211'
def s298:Sum:=fun args=>match args with
 | [.str [c0,c1,c2,c3],.int .i64 n]=>some (asrts [mBy c0,mBy c1,mBy c2,mBy c3] (ansM (prevM c0 c1 c2 c3 n)))
 | _=>none
def U8:Sums:=addP U7 298 s298
theorem b298 (c0 c1 c2 c3:UInt8) (n:Int) {Q:AV->Prop}:askA Q (pT U7 noL 298 [.str [c0,c1,c2,c3],.int .i64 n]) (dtN 1140770102700270422005627140270)=((fun (u5:AV) (u4 u7:Bool) (u8:Option Int) (u0 u1 u2 u3 u6:Prop)=>(fun (u9:Prop)=>u0/\u1/\u2/\u3/\(u4=true->u9)/\(u4=false->u6/\u6/\u6/\u6/\u6/\u6/\(u7=true->u0/\u1/\u2/\u3/\u0/\u1/\u2/\u3/\Q (AV.tuple [AV.int .i64 (fil4 c0 c1 c2 c3 57),u5]))/\(u7=false->u0/\u1/\u2/\u3/\u6/\intLe n 9999=true/\(isM u8=true->Q (AV.tuple [AV.int .i64 (getM u8),u5]))/\(isM u8=false->u9)))) (Q (AV.tuple [u5,AV.int .i64 16]))) (AV.int .i64 0) (not (intLe 0 n)) (not (not (intLe 10000 n))) (prevM c0 c1 c2 c3 n) (mBy c0=true) (mBy c1=true) (mBy c2=true) (mBy c3=true) (intLe 0 n=true)):=by kernel_rfl
theorem body298:bodyOf tab 298=some (fnOf 298,codeOf 298):=by kernel_rfl
theorem U7_ok:SumsOK Tryz.prog cfg U7:=by
 refine sums_addP U6_ok fun args t v he hv=>?_
 unfold s211' at he
 split at he
 · rename_i c0 c1 c2 c3 n b
   cases he
   obtain ⟨h0,hv⟩:=asrts_run hv
   obtain ⟨h1,hv⟩:=asrts_run hv
   obtain ⟨h2,hv⟩:=asrts_run hv
   obtain ⟨h3,hv⟩:=asrts_run hv
   obtain ⟨h4,hv⟩:=asrts_run hv
   obtain ⟨h5,hv⟩:=asrts_run hv
   rw [q_le_t] at h4 h5
   cases b with
   | true=>exact f211u ⟨h4,h5⟩ (mBy_iff.1 h0) (mBy_iff.1 h1) (mBy_iff.1 h2) (mBy_iff.1 h3) hv
   | false=>exact f211d ⟨h4,h5⟩ (mBy_iff.1 h0) (mBy_iff.1 h1) (mBy_iff.1 h2) (mBy_iff.1 h3) hv
 · cases he
theorem fil4_prev {c0 c1 c2 c3:UInt8} (h0:mBy c0=true) (h1:mBy c1=true) (h2:mBy c2=true) (h3:mBy c3=true) {n:Int} (hn:9999≤n):prevM c0 c1 c2 c3 n=some (fil4 c0 c1 c2 c3 57):=by
 rw [mBy_iff] at h0 h1 h2 h3
 have ed:∀c:UInt8,(c.toNat=88∨48≤c.toNat/\c.toNat≤57)->0≤dgx c 57/\dgx c 57≤9/\mt c (dgx c 57)/\∀k,mt c k->k≤9->k≤dgx c 57:=fun c h=>by
  unfold dgx mt
  by_cases hx:c.toNat=88
  · rw [beqT hx,cond_true]
    exact ⟨by decide,by decide,.inl hx,fun k _ h=>by simpa using h⟩
  · rw [beqF hx,cond_false]
    exact ⟨by omega,by omega,.inr (by omega),fun k hk _=>by omega⟩
 obtain ⟨a0,b0,m0,l0⟩:=ed c0 h0
 obtain ⟨a1,b1,m1,l1⟩:=ed c1 h1
 obtain ⟨a2,b2,m2,l2⟩:=ed c2 h2
 obtain ⟨a3,b3,m3,l3⟩:=ed c3 h3
 rw [prevM_some]
 unfold fil4
 refine ⟨(inM_dig ⟨a0,b0⟩ ⟨a1,b1⟩ ⟨a2,b2⟩ ⟨a3,b3⟩).2 ⟨m0,m1,m2,m3⟩,by omega,fun k hk _=>?_⟩
 obtain ⟨k0,k1,k2,k3,x0,x1,x2,x3,rfl,y0,y1,y2,y3⟩:=inM_ex hk
 have:=l0 k0 y0 x0.2
 have:=l1 k1 y1 x1.2
 have:=l2 k2 y2 x2.2
 have:=l3 k3 y3 x3.2
 omega
theorem U8_ok:SumsOK Tryz.prog cfg U8:=by
 refine sums_addP U7_ok fun args t v he hv=>?_
 unfold s298 at he
 split at he
 · rename_i c0 c1 c2 c3 n
   cases he
   obtain ⟨h0,hv⟩:=asrts_run hv
   obtain ⟨h1,hv⟩:=asrts_run hv
   obtain ⟨h2,hv⟩:=asrts_run hv
   obtain ⟨h3,hv⟩:=asrts_run hv
   have hv':Tr.run (bif isM (prevM c0 c1 c2 c3 n) then .ret (.tuple [.int .i64 (getM (prevM c0 c1 c2 c3 n)),.int .i64 0]) else .ret (.tuple [.int .i64 0,.int .i64 16]))=some v:=hv
   have ids:idsA v=[]:=by
    cases hb:isM (prevM c0 c1 c2 c3 n)<;>rw [hb] at hv'<;>cases hv'<;>simp [idsA,idsL]
   have yes:∀u,prevM c0 c1 c2 c3 n=some u->v=(.tuple [.int .i64 u,.int .i64 0]):=fun u hu=>by
    rw [hu] at hv'
    cases hv'
    rfl
   have no:prevM c0 c1 c2 c3 n=none->v=(.tuple [.int .i64 0,.int .i64 16]):=fun hu=>by
    rw [hu] at hv'
    cases hv'
    rfl
   refine fpOK U7_ok (L:=noL) body298 (by simp) lok_none (wp_gen fun Q' hQ=>askA_wp ((b298 c0 c1 c2 c3 n).mpr ?_)) ids
   simp only [q_all,reduceCtorEq,loK,hiK,ne_eq]
   have hle:∀k,inM c0 c1 c2 c3 k->0≤k:=fun k hk=>hk.1
   (repeat' first|exact trivial|refine ⟨?_,?_⟩|intro)<;>first|omega|assumption|refine hQ _ ?_
   · exact (no (prevM_none.2 fun k hk=>by have:=hle k hk;omega)).symm
   · exact (yes _ (fil4_prev h0 h1 h2 h3 (by omega))).symm
   · rename_i hs
     obtain ⟨u,hu⟩:=Option.isSome_iff_exists.1 hs
     rw [yes u hu,hu];rfl
   · rename_i hs
     exact (no (by cases hx:prevM c0 c1 c2 c3 n with
      | none=>rfl
      | some u=>rw [hx] at hs;cases hs)).symm
 · cases he
end Go.Ev
end
section
set_option maxRecDepth 100000
namespace Go.Ev
open Go Go.Proofs Go.Proofs.YtafekjglclnegaaGreatDoor
def mskL (s:List UInt8):Bool:=Nat.beq (hasN s 48 57+hasN s 88 88) s.length
def trimR (s:List UInt8):List UInt8:=Lib.trimB s 48
def s100f:Sum:=fun args=>match args with
 | [.str s,.str t]=>some (asrts [bytesEq t [88]] (.ret (.bool (!(Nat.beq (hasN s 88 88) 0)))))
 | _=>none
def s205:Sum:=fun args=>match args with
 | [.str s,.str t]=>some (bif bytesEq t [48,49,50,51,52,53,54,55,56,57] then .ret (.bool (digL s)) else asrts [bytesEq t [88,48,49,50,51,52,53,54,55,56,57]] (.ret (.bool (mskL s))))
 | _=>none
def s206:Sum:=fun args=>match args with
 | [.str s,.str t]=>some (asrts [bytesEq t [48],Nat.ble s.length 1000000] (.ret (.str (trimR s))))
 | _=>none
def s212:Sum:=fun args=>match args with
 | [.str s,.int .i64 a,.int .i64 b]=>some (asrts [intEq a 10,intEq b 64,digL s,natLt 0 s.length,Nat.ble s.length 18] (.ret (.tuple [.int .i64 (Int.ofNat (numL s)),.niliface])))
 | _=>none
def s213:Sum:=fun args=>match args with
 | [.int .i64 a,.int .i64 b]=>some (asrts [intLe 0 a,intLe 0 b,inR .i64 a,inR .i64 b] (.test (intLe (Int.mul a b) 9223372036854775807) fun c=>bif c then .ret (.tuple [.int .i64 (Int.mul a b),.int .i64 0]) else .ret (.tuple [.int .i64 0,.int .i64 15])))
 | _=>none
def Y1s:Sums:=addP (addP (addP (addP (addP nilS 100 s100f) 205 s205) 206 s206) 212 s212) 213 s213
theorem body100f:bodyOf tab 100=some (fnOf 100,codeOf 100):=by kernel_rfl
theorem body205:bodyOf tab 205=some (fnOf 205,codeOf 205):=by kernel_rfl
theorem body206:bodyOf tab 206=some (fnOf 206,codeOf 206):=by kernel_rfl
theorem body212:bodyOf tab 212=some (fnOf 212,codeOf 212):=by kernel_rfl
theorem body213:bodyOf tab 213=some (fnOf 213,codeOf 213):=by kernel_rfl
theorem hasX_eq (s:List UInt8):hasX s=!(Nat.beq (hasN s 88 88) 0):=by
 rw [Bool.eq_iff_iff,hasX_iff,Bool.not_eq_true',q_beq_f]
theorem mskL_eq (s:List UInt8):mskB s=mskL s:=by
 rw [Bool.eq_iff_iff,mskN];unfold mskL;rw [q_beq_t]
theorem Y1s_ok:SumsOK Tryz.prog cfg Y1s:=by
 refine sums_addP (sums_addP (sums_addP (sums_addP (sums_addP sums_nil fun args t v he hv=>?_) fun args t v he hv=>?_) fun args t v he hv=>?_) fun args t v he hv=>?_) fun args t v he hv=>?_
 · unfold s100f at he
   split at he
   · rename_i s u
     cases he
     obtain ⟨h1,hv⟩:=asrts_run hv
     rw [bytesEq_beq,beq_iff_eq] at h1
     cases hv
     subst h1
     refine fact_calls body100f (by simp [idsA]) fun m w hG=>?_
     refine ((Contains_X ⟨⟨s⟩⟩ w).mono fun e w' h=>?_)
     obtain ⟨rfl,rfl⟩:=h
     exact ⟨by rw [show hasX (ByteArray.mk ⟨s⟩).data.toList=hasX s from rfl,hasX_eq];simp [conc],RowKit.Below.refl _ _⟩
   · cases he
 · unfold s205 at he
   split at he
   · rename_i s u
     cases he
     cases hb:bytesEq u [48,49,50,51,52,53,54,55,56,57] with
     | true=>
       rw [hb] at hv
       rw [bytesEq_beq,beq_iff_eq] at hb
       subst hb
       cases hv
       refine fact_calls body205 (by simp [idsA]) fun m w hG=>?_
       have:=only_d ⟨⟨s⟩⟩ w
       rw [show digB (ByteArray.mk ⟨s⟩).data.toList=digL s from digB_eq s] at this
       simpa [concL,conc] using this
     | false=>
       rw [hb] at hv
       obtain ⟨h1,hv⟩:=asrts_run hv
       rw [bytesEq_beq,beq_iff_eq] at h1
       cases hv
       subst h1
       refine fact_calls body205 (by simp [idsA]) fun m w hG=>?_
       have:=only_m ⟨⟨s⟩⟩ w
       rw [show mskB (ByteArray.mk ⟨s⟩).data.toList=mskL s from mskL_eq s] at this
       simpa [concL,conc] using this
   · cases he
 · unfold s206 at he
   split at he
   · rename_i s u
     cases he
     obtain ⟨h1,hv⟩:=asrts_run hv
     obtain ⟨h2,hv⟩:=asrts_run hv
     rw [bytesEq_beq,beq_iff_eq] at h1
     rw [q_ble_t] at h2
     cases hv
     subst h1
     refine fact_calls body206 (by simp [idsA]) fun m w hG=>?_
     refine ((Tryz.strings_Trim_one ⟨⟨s⟩⟩ 48 (by decide) w (by show s.length≤_;omega)).mono fun e w' h=>?_)
     rcases h with ⟨rfl,rfl|rfl⟩
     · exact ⟨by simp [conc,trimR],RowKit.Below.refl _ _⟩
     · exact ⟨by simp [conc,trimR],(RowKit.Below.refl _ _).drew⟩
   · cases he
 · unfold s212 at he
   split at he
   · rename_i s a b
     cases he
     obtain ⟨h1,hv⟩:=asrts_run hv
     obtain ⟨h2,hv⟩:=asrts_run hv
     obtain ⟨h3,hv⟩:=asrts_run hv
     obtain ⟨h4,hv⟩:=asrts_run hv
     obtain ⟨h5,hv⟩:=asrts_run hv
     rw [q_eq_t] at h1 h2
     rw [q_lt_t] at h4
     rw [q_ble_t] at h5
     cases hv
     subst h1 h2
     refine fact_calls body212 (by simp [idsA,idsL]) fun m w hG=>?_
     have:=ParseInt_dig ⟨⟨s⟩⟩ w (by rw [show digB (ByteArray.mk ⟨s⟩).data.toList=digL s from digB_eq s];exact h3) (by show 1≤s.length;omega) (by show s.length≤18;omega)
     rw [show Go.Proofs.YtafekjglclnegaaGreatDoor.numL (ByteArray.mk ⟨s⟩).data.toList=Go.Ev.numL s from numL_eq s] at this
     simpa [concL,conc] using this
   · cases he
 · unfold s213 at he
   split at he
   · rename_i a b
     cases he
     obtain ⟨h1,hv⟩:=asrts_run hv
     obtain ⟨h2,hv⟩:=asrts_run hv
     obtain ⟨h3,hv⟩:=asrts_run hv
     obtain ⟨h4,hv⟩:=asrts_run hv
     rw [q_le_t] at h1 h2
     rw [q_inR_t] at h3 h4
     simp only [loK,hiK] at h3 h4
     obtain ⟨x,rfl⟩:=Int.eq_ofNat_of_zero_le h1
     obtain ⟨y,rfl⟩:=Int.eq_ofNat_of_zero_le h2
     have e:Int.mul (x:Int) (y:Int)=((x*y:Nat):Int):=(Int.natCast_mul x y).symm
     rw [e] at hv
     have hv:Tr.run (bif intLe ((x*y:Nat):Int) 9223372036854775807 then .ret (.tuple [.int .i64 ((x*y:Nat):Int),.int .i64 0]) else .ret (.tuple [.int .i64 0,.int .i64 15]))=some v:=hv
     cases hb:intLe ((x*y:Nat):Int) 9223372036854775807 with
     | true=>
       rw [hb] at hv
       cases hv
       rw [q_le_t] at hb
       refine fact_calls body213 (by simp [idsA,idsL]) fun m w hG=>?_
       simpa [concL,conc] using Mul_ok x y w (by omega) (by omega) (by omega)
     | false=>
       rw [hb] at hv
       cases hv
       rw [q_le_f] at hb
       refine fact_calls body213 (by simp [idsA,idsL]) fun m w hG=>?_
       simpa [concL,conc] using Mul_no x y w (by omega) (by omega) (by omega)
   · cases he
end Go.Ev
end
section
set_option maxRecDepth 100000
set_option maxHeartbeats 4000000
namespace Go.Ev
open Go Go.Proofs Go.Proofs.YtafekjglclnegaaGreatDoor
def p10R (n:Int):Int:=((10^n.toNat:Nat):Int)
def v149:LoopV:=fun vs o=>match vs,o with
 | [.int .i64 p,.int .i64 n,.int .i64 i],⟨0,[],[]⟩=>some (asrts [intEq p 1,intEq i 0,intLe 0 n,intLe n 18] (.ret (.exit 0,[.int .i64 (p10R n),.int .i64 n,.int .i64 n],own0)))
 | _,_=>none
def L149:Loops:=addL noL 0 (loopE 16 [4,9,10] v149)
def s149:Sum:=fun args=>match args with
 | [.int .i64 n]=>some (asrts [intLe 0 n,intLe n 18] (.ret (.tuple [.int .i64 (p10R n),.int .i64 0])))
 | _=>none
def Y2s:Sums:=addP Y1s 149 s149
def s148:Sum:=fun args=>match args with
 | [.agg [.bool ng,.bool lg,.str s,.int .i64 e,.int .i64 g]]=>some (asrts [digL s,natLt 0 s.length,Nat.ble s.length 18,intLe 0 e,intLe e 16] (.test (magOk s e.toNat) fun b=>bif b then .ret (.tuple [.int .i64 (Int.ofNat (magV s e.toNat)),.int .i64 0]) else .ret (.tuple [.int .i64 0,.int .i64 6])))
 | _=>none
def Y3s:Sums:=addP Y2s 148 s148
def longR (s:List UInt8) (e:Int):Bool:=decide (1≤s.length/\s.length≤17/\digL s=true/\(s.getD 0 0).toNat≠48/\0≤e/\e≤16/\¬(e=0/\s.length<5)/\magOk s e.toNat=true)
def s207:Sum:=fun args=>match args with
 | [.agg [.bool ng,.bool lg,.str s,.int .i64 e,.int .i64 g]]=>some (.ret (.bool (longR s e)))
 | _=>none
def s144:Sum:=fun args=>match args with
 | [.agg [.bool ng,.bool lg,.str s,.int .i64 e,.int .i64 g]]=>some (.ret (.bool (!(Nat.beq (hasN s 88 88) 0))))
 | _=>none
def Y4s:Sums:=addP (addP Y3s 207 s207) 144 s144
def s143:Sum:=fun args=>match args with
 | [.agg [.bool ng,.bool lg,.str s,.int .i64 e,.int .i64 g]]=>some (asrts [Nat.ble s.length 1000] (.ret (.int .i64 (bif okY14 ng lg s e g then 0 else 6))))
 | _=>none
def Y5s:Sums:=addP Y4s 143 s143
theorem r149 (n p i:Int) (J:Nat->Value) {Q:VQ->Prop}:askA Q (rT Y1s noL [] 149 0 16 [4,9,10] [.int .i64 p,.int .i64 n,.int .i64 i] J own0) (dtN 1121244)=((fun (u3 u4:AV) (u0:Bool) (u1:Int) (u2:Prop)=>(u0=true->(inR .i64 u1=true->u2/\Q (AX.normal,([AV.int .i64 u1,u3,u4],{ n:=0,os:=[],le:=[] })))/\(inR .i64 u1=false->u2/\Q (AX.normal,([AV.int .i64 (IntKind.wrap .i64 u1),u3,u4],{ n:=0,os:=[],le:=[] }))))/\(u0=false->Q (AX.exit 0,([AV.int .i64 p,u3,AV.int .i64 i],{ n:=0,os:=[],le:=[] })))) (AV.int .i64 n) (AV.int .i64 (Int.add i 1)) (not (intLe n i)) (Int.mul p 10) (inR .i64 (Int.add i 1)=true)):=by kernel_rfl
theorem b149 (n:Int) {Q:AV->Prop}:askA Q (pT Y1s L149 149 [.int .i64 n]) (dtN 1220033)=(not (intLe 0 n)=false/\not (intLe n 18)=false/\intLe 0 n=true/\intLe n 18=true/\(∀J1:Nat->Value,Q (AV.tuple [AV.int .i64 (p10R n),AV.int .i64 0]))):=by kernel_rfl
theorem b148 (ng lg:Bool) (s:List UInt8) (e g:Int) {Q:AV->Prop}:askA Q (pT Y2s noL 148 [.agg [.bool ng,.bool lg,.str s,.int .i64 e,.int .i64 g]]) (dtN 11151140004440005220075)=((fun (u1:Bool) (u0:Int) (u2:Prop)=>(fun (u3:Int)=>(fun (u4 u5:Bool)=>digL s=true/\natLt 0 (List.length s)=true/\Nat.ble (List.length s) 18=true/\intLe 0 e=true/\intLe e 18=true/\(inR .i64 u0=true->(u1=true->(u4=true->(u5=true->u2)/\(u5=false->Q (AV.tuple [AV.int .i64 u3,AV.int .i64 0])))/\(u4=false->u2))/\(u1=false->False))/\(inR .i64 u0=false->False)) (intLe u3 9223372036854775807) (not (intLe u3 10000000000000000))) (Int.mul u0 (p10R e))) (inR .i64 (p10R e)) (Int.ofNat (numL s)) (Q (AV.tuple [AV.int .i64 0,AV.int .i64 6]))):=by kernel_rfl
theorem b207 (ng lg:Bool) (s:List UInt8) (e g:Int) {Q:AV->Prop}:askA Q (pT Y3s noL 207 [.agg [.bool ng,.bool lg,.str s,.int .i64 e,.int .i64 g]]) (dtN 16662315662815562815623316233102300811422700053323114227005143742202432024320243220202432020243240)=((fun (u1 u2 u3 u4 u7:Bool) (u0:Nat) (u5 u6 u8:Prop)=>(fun (u9:Int) (ua ub uc ud ue uf ug uh ui:Prop)=>(fun (uj uk ul:Bool) (um:Prop)=>(fun (un uo up uq:Prop)=>(un->un/\uj=false/\(uo->uo/\uo/\uo/\uk=false/\(ua->ua/\ua/\ub/\ua/\u1=false/\(uc->uc/\uc/\u2=false/\(ud->ud/\ud/\u3=false/\(ue->ue/\ue/\ue/\(u5->u5/\ue/\u5/\u4=false/\(ul=true->u6)/\(ul=false->um))/\(u8->u8/\ue/\u8/\u4=false/\um))/\(uf->uf/\uf/\uf/\uf/\u4=true/\u6))/\(ug->ug/\ug/\u3=true/\u6))/\(uh->uh/\uh/\u2=true/\u6))/\(ui->ui/\ui/\ui/\u1=true/\u6))/\(up->up/\up/\up/\uk=true/\u6))/\(uq->uq/\uj=true/\u6)) (not uj=true) (not uk=true) (not uk=false) (not uj=false)) (not (intLe 1 u9)) (not (intLe u9 17)) (not (intLe 5 u9)) (digL s=true/\ub/\Nat.ble u0 18=true/\intLe 0 e=true/\intLe e 16=true/\(u7=true->Q (AV.bool true))/\(u7=false->u6))) (Int.ofNat u0) (not u1=true) (natLt 0 u0=true) (not u2=true) (not u3=true) (not u4=true) (not u4=false) (not u3=false) (not u2=false) (not u1=false)) (not (digL s)) (intEq (Int.ofNat (UInt8.toNat (List.getD s 0 (UInt8.ofNat 0)))) 48) (not (intLe 0 e)) (not (intLe e 16)) (magOk s (Int.toNat e)) (List.length s) (intEq e 0=true) (Q (AV.bool false)) (intEq e 0=false)):=by kernel_rfl
theorem b144 (ng lg:Bool) (s:List UInt8) (e g:Int) {Q:AV->Prop}:askA Q (pT Y3s noL 144 [.agg [.bool ng,.bool lg,.str s,.int .i64 e,.int .i64 g]]) (dtN 1000)=(Q (AV.bool (not (Nat.beq (hasN s 88 88) 0)))):=by kernel_rfl
theorem b143 (ng lg:Bool) (s:List UInt8) (e g:Int) {Q:AV->Prop}:askA Q (pT Y4s noL 143 [.agg [.bool ng,.bool lg,.str s,.int .i64 e,.int .i64 g]]) (dtN 10056100623310233881143211432420702202432024005400566810056100623310233881143211432420702202432024005400668100561006233102338811432114324207022024320240054068533133707022022051006233133707022022320240054000303100623310233881143707022024320241006233102338811437070220243202400540002002054052232810056100623310233881143707022024320240054080081337070220220510062331337070220223202400540223231006233102338811437070220243202410062331023388114370702202432024005402702054220247700202420242202420020240)=((fun (u4 u5 u7 u8 uc:Bool) (u0:Int) (u1 u2 u3 u6 u9 ua ub ud ue uf:Prop)=>(fun (um:Int) (ug uh ui uj uk ul un uo up uq ur us ut uu:Prop)=>(fun (uw uz:Bool) (uv ux uy:Prop)=>(fun (uA uB:Prop)=>(fun (uC uD uE:Prop)=>(fun (uF:Prop)=>(fun (uG:Prop)=>(ug->ug/\ug/\ug/\(u1->u1/\u1/\u1/\(u2->u2/\u2/\(u3->u3/\u3/\Nat.ble (List.length s) 1000000=true/\u3/\u2/\u3/\u2/\u2/\(uh->uh/\uh/\uh/\(ui->ui/\uh/\ui/\uh/\uh/\uG)/\(us->us/\uh/\us/\uh/\uh/\uD))/\(ut->ut/\ut/\ut/\ut/\ut/\ut/\uF/\(ub->u9)))/\(ud->ud/\ud/\ud/\u2/\ud/\u2/\u2/\(ui->ui/\ui/\uG)/\(us->us/\us/\uD)))/\(ue->ue/\ue/\ue/\ue/\ue/\uE))/\(uf->uf/\uf/\uf/\uE))/\(uu->uu/\uu/\uu/\uE)) (uF/\(ub->(uq->uq/\uq/\uc=false/\uC)/\(ur->ur/\ur/\uc=true/\u9)))) (u6->(uj->uj/\uj/\uk/\uC)/\uy)) ((ul->ul/\ul/\ul/\ul/\ul/\ul/\ul/\uv/\uA)/\ux) ((u6->(uj->uj/\uj/\uk/\uB)/\uy)/\(ub->uB)) ((u6->(uj->uj/\uj/\uk/\(ul->ul/\ul/\ul/\ul/\ul/\ul/\ul/\(uv->uA)/\(inR .i64 um=false->ul/\un/\(uz=true->u9)/\(uz=false->ua)))/\ux)/\uy)/\(ub->u9))) (ul/\un/\(uw=true->u9)/\(uw=false->ua)) (ul/\ul/\ul/\ul/\ul/\ul/\ul/\ul/\uv/\ul/\un/\uw=false/\ua)) (not (intLe g um)) (not (intLe g (IntKind.wrap .i64 um))) (inR .i64 um=true) (uo->uo/\uo/\uo/\uo/\uo/\uo/\uo/\uo/\u8=true/\u9) (up->up/\up/\u7=true/\u9)) (Int.add u0 e) (intEq u0 4=true) (u4=true) (u5=true) (not u7=true) (u7=false) (not u8=true) (u8=false) (not u8=false) (not u7=false) (not uc=true) (not uc=false) (u5=false) (u4=false) (intEq u0 4=false)) (not (bytesEq (trimR s) [])) (not (intEq g 0)) (not (longR s e)) (not (intLe 0 g)) (not (not (not (Nat.beq (hasN s 88 88) 0)))) (Int.ofNat (List.length s)) (mskL s=true) (intEq e 0=true) (ng=true) (lg=true) (Q (AV.int .i64 6)) (Q (AV.int .i64 0)) (lg=false) (ng=false) (intEq e 0=false) (mskL s=false)):=by kernel_rfl
theorem body149:bodyOf tab 149=some (fnOf 149,codeOf 149):=by kernel_rfl
theorem body148:bodyOf tab 148=some (fnOf 148,codeOf 148):=by kernel_rfl
theorem body207:bodyOf tab 207=some (fnOf 207,codeOf 207):=by kernel_rfl
theorem body144:bodyOf tab 144=some (fnOf 144,codeOf 144):=by kernel_rfl
theorem body143:bodyOf tab 143=some (fnOf 143,codeOf 143):=by kernel_rfl
theorem loops149:(loopsOf (codeOf 149)).map (·.1)=[0]:=by kernel_rfl
theorem p10R_s (i:Nat):p10R ((i:Int)+1)=p10R (i:Int)*10:=by
 unfold p10R
 rw [show ((i:Int)+1).toNat=i+1 by omega,show ((i:Int)).toNat=i by omega,Nat.pow_succ];omega
theorem p10R_bd {n:Int} (h:n≤18):1≤p10R n/\p10R n≤1000000000000000000:=by
 unfold p10R
 have h1:10^n.toNat≤10^18:=Nat.pow_le_pow_right (by decide) (by omega)
 have h2:0<10^n.toNat:=Nat.pow_pos (by decide)
 have h3:(10:Nat)^18=1000000000000000000:=by decide
 omega
theorem lv149:LoopVOK Tryz.prog (cfgS cfg Y1s) (Cw cfg []) (lb 149 0) 16 [4,9,10] v149:=by
 intro vs o t Q hv hq J
 unfold v149 at hv
 split at hv
 · rename_i p n i
   cases hv
   obtain ⟨h1,hq1⟩:=asrts_wp hq
   obtain ⟨h2,hq2⟩:=asrts_wp hq1
   obtain ⟨h3,hq3⟩:=asrts_wp hq2
   obtain ⟨h4,hq4⟩:=asrts_wp hq3
   clear hq hq1 hq2 hq3
   rw [q_eq_t] at h1 h2
   rw [q_le_t] at h3 h4
   subst h1 h2
   have hq:Q (.exit 0,[.int .i64 (p10R n),.int .i64 n,.int .i64 n],own0):=hq4
   refine lvOK Y1s_ok rfl rfl lok_none (ι:={i:Nat // (i:Int)≤n}) (fun x=>[.int .i64 (p10R (x.1:Int)),.int .i64 n,.int .i64 (x.1:Int)]) (fun _=>own0) (fun x=>n.toNat-x.1) 0 (fun _=>Nat.zero_le _) (fun x J=>?_) (Nat.le_refl _) (fun J=>Wk.refl ⟨⟨0,h3⟩,J,rfl⟩) J
   obtain ⟨i,hi⟩:=x
   dsimp only
   refine wp_gen fun Q' hQ=>askA_wp ((r149 n (p10R (i:Int)) i J).mpr ?_)
   dsimp only
   have e:=p10R_s i
   have go:(i:Int)<n->Q' (.normal,[.int .i64 (p10R (i:Int)*10),.int .i64 n,.int .i64 ((i:Int)+1)],own0):=fun h=>
    hQ (.normal,_,_) ⟨⟨i+1,by omega⟩,by dsimp only;omega,VW.of_eq (by rw [←e];rfl) rfl⟩
   have fin:¬(i:Int)<n->Q' (.exit 0,[.int .i64 (p10R (i:Int)),.int .i64 n,.int .i64 (i:Int)],own0):=fun h=>by
    have e:(i:Int)=n:=by omega
    exact hQ (.exit 0,_,_) ⟨_,_,VW.of_eq (by rw [e]) rfl,hq⟩
   have b:(i:Int)<n->p10R (i:Int)*10≤1000000000000000000:=fun h=>by
    have:=p10R_bd (n:=(i:Int)+1) (by omega);omega
   have b0:=p10R_bd (n:=(i:Int)) (by omega)
   clear hQ hq hq4 e
   generalize p10R (i:Int)=p at *
   simp only [q_all,reduceCtorEq,loK,hiK,ne_eq]
   (repeat' first|exact trivial|refine ⟨?_,?_⟩|intro)<;>first|omega|exact go (by omega)|exact fin (by omega)
 · cases hv
theorem Y2s_ok:SumsOK Tryz.prog cfg Y2s:=by
 refine sums_addP Y1s_ok fun args t v he hv=>?_
 unfold s149 at he
 split at he
 · rename_i n
   cases he
   obtain ⟨h1,hv⟩:=asrts_run hv
   obtain ⟨h2,hv⟩:=asrts_run hv
   rw [q_le_t] at h1 h2
   cases hv
   refine fpOK Y1s_ok (L:=L149) body149 (by simp) (lok_at loops149 fun i hi e he st Q hw=>?_) (wp_gen fun Q' hQ=>askA_wp ((b149 n).mpr ?_)) (by simp [idsA,idsL])
   · have hi:i=0:=by simp at hi;omega
     subst hi
     cases he
     exact loopE_ok (base0.good Y1s_ok) (by decide) rfl lv149 hw
   · simp only [q_all,reduceCtorEq,loK,hiK,ne_eq]
     (repeat' first|exact trivial|refine ⟨?_,?_⟩|intro)<;>first|omega|exact hQ _ rfl
 · cases he
theorem Y3s_ok:SumsOK Tryz.prog cfg Y3s:=by
 refine sums_addP Y2s_ok fun args t v he hv=>?_
 unfold s148 at he
 split at he
 · rename_i ng lg s e g
   cases he
   obtain ⟨h1,hv⟩:=asrts_run hv
   obtain ⟨h2,hv⟩:=asrts_run hv
   obtain ⟨h3,hv⟩:=asrts_run hv
   obtain ⟨h4,hv⟩:=asrts_run hv
   obtain ⟨h5,hv⟩:=asrts_run hv
   rw [q_lt_t] at h2
   rw [q_ble_t] at h3
   rw [q_le_t] at h4 h5
   have hv':Tr.run (bif magOk s e.toNat then .ret (.tuple [.int .i64 (Int.ofNat (magV s e.toNat)),.int .i64 0]) else .ret (.tuple [.int .i64 0,.int .i64 6]))=some v:=hv
   have ids:idsA v=[]:=by
    cases hb:magOk s e.toNat<;>rw [hb] at hv'<;>cases hv'<;>simp [idsA,idsL]
   refine fpOK Y2s_ok (L:=noL) body148 (by simp) lok_none (wp_gen fun Q' hQ=>askA_wp ((b148 ng lg s e g).mpr ?_)) ids
   dsimp only
   have nb:Go.Ev.numL s<10^s.length:=by
    have:=Go.Proofs.YtafekjglclnegaaGreatDoor.numL_lt s (by rw [digB_eq];exact h1)
    rwa [numL_eq] at this
   have nb2:10^s.length≤10^18:=Nat.pow_le_pow_right (by decide) h3
   have nb3:(10:Nat)^18=1000000000000000000:=by decide
   have pb:=p10R_bd (n:=e) (by omega)
   have em:Int.mul (Int.ofNat (Go.Ev.numL s)) (p10R e)=Int.ofNat (magV s e.toNat):=by
    show ((Go.Ev.numL s:Nat):Int)*((10^e.toNat:Nat):Int)=((Go.Ev.numL s*10^e.toNat:Nat):Int)
    exact (Int.natCast_mul _ _).symm
   have yes:magV s e.toNat≤10000000000000000->Q' (.tuple [.int .i64 (Int.ofNat (magV s e.toNat)),.int .i64 0]):=fun h=>by
    have hb:magOk s e.toNat=true:=by unfold magOk;rw [q_ble_t];exact h
    rw [hb] at hv';cases hv';exact hQ _ rfl
   have no:¬magV s e.toNat≤10000000000000000->Q' (.tuple [.int .i64 0,.int .i64 6]):=fun h=>by
    have hb:magOk s e.toNat=false:=by unfold magOk;rw [q_ble_f];omega
    rw [hb] at hv';cases hv';exact hQ _ rfl
   rw [em]
   clear hQ hv hv' ids em
   have yes:magV s e.toNat≤10000000000000000->Q' (.tuple [.int .i64 ((magV s e.toNat:Nat):Int),.int .i64 0]):=yes
   generalize magV s e.toNat=mv at *
   generalize p10R e=pe at *
   generalize Go.Ev.numL s=nl at *
   simp only [q_all,reduceCtorEq,loK,hiK,ne_eq]
   (repeat' first|exact trivial|refine ⟨?_,?_⟩|intro)<;>first|omega|assumption|exact yes (by omega)|exact no (by omega)
 · cases he
theorem longR_iff {s:List UInt8} {e:Int}:longR s e=true↔1≤s.length/\s.length≤17/\digL s=true/\(s.getD 0 0).toNat≠48/\0≤e/\e≤16/\¬(e=0/\s.length<5)/\magOk s e.toNat=true:=by unfold longR;rw [decide_eq_true_eq]
theorem Y4s_ok:SumsOK Tryz.prog cfg Y4s:=by
 refine sums_addP (sums_addP Y3s_ok fun args t v he hv=>?_) fun args t v he hv=>?_
 · unfold s207 at he
   split at he
   · rename_i ng lg s e g
     cases he
     cases hv
     refine fpOK Y3s_ok (L:=noL) body207 (by simp) lok_none (wp_gen fun Q' hQ=>askA_wp ((b207 ng lg s e g).mpr ?_)) (by simp [idsA])
     dsimp only
     have li:=@longR_iff s e
     have yes:longR s e=true->Q' (.bool true):=fun h=>hQ _ (by rw [h])
     have no:¬longR s e=true->Q' (.bool false):=fun h=>hQ _ (by rw [Bool.not_eq_true] at h;rw [h])
     rw [li] at yes no
     clear hQ li
     simp only [q_all,reduceCtorEq,loK,hiK,ne_eq] at yes no ⊢
     generalize digL s=dg at *
     generalize magOk s e.toNat=mk at *
     generalize (s.getD 0 0).toNat=c0 at *
     generalize s.length=n at *
     (repeat' first|exact trivial|refine ⟨?_,?_⟩|intro)<;>first|omega|assumption|(apply yes;grind)|(apply no;grind)|grind
   · cases he
 · unfold s144 at he
   split at he
   · rename_i ng lg s e g
     cases he
     cases hv
     exact fpOK Y3s_ok (L:=noL) body144 (by simp) lok_none (wp_gen fun Q' hQ=>askA_wp ((b144 ng lg s e g).mpr (hQ _ rfl))) (by simp [idsA])
   · cases he
end Go.Ev
end
