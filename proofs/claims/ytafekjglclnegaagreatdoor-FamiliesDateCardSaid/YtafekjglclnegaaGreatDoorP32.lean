import Derived.Test.YtafekjglclnegaaGreatDoorP31
set_option linter.all false
set_option maxRecDepth 100000
set_option maxHeartbeats 4000000
namespace Go.Ev
open Go Go.Proofs
theorem drop_take1 {s:List UInt8} {i:Nat} (h:i<s.length):List.drop i (List.take (i+1) s)=[s.getD i 0]:=by
 rw [take_snoc h]
 exact List.drop_left' (by rw [List.length_take];omega)
theorem bytes88 {c:UInt8}:bytesEq [c] [UInt8.ofNat 88]=Nat.beq c.toNat 88:=by
 rw [bytesEq_beq,Bool.eq_iff_iff,beq_iff_eq,beq_iff]
 constructor
 · intro h;simp only [List.cons.injEq,and_true] at h;rw [h];rfl
 · intro h;rw [show c=UInt8.ofNat 88 from UInt8.toNat_inj.1 h]
theorem map_take_snoc {f:UInt8->UInt8} {s:List UInt8} {i:Nat} (h:i<s.length):(s.take (i+1)).map f=(s.take i).map f++[f (s.getD i 0)]:=by
 rw [take_snoc h,List.map_append];rfl
theorem lv127a:LoopVOK Tryz.prog (cfgS cfg T9) (Cw cfg []) (lb 127 0) 117 [1,4,5,6] v127a:=by
 intro vs o t Q hv hq J
 unfold v127a at hv
 split at hv
 · rename_i i ng lg s e g
   cases hv
   obtain ⟨h1,hq'⟩:=asrts_wp hq;clear hq;have hq:=hq';clear hq'
   obtain ⟨h2,hq'⟩:=asrts_wp hq;clear hq;have hq:=hq';clear hq'
   rw [q_eq_t] at h1
   rw [q_beq_t] at h2
   subst h1
   simp only [asrts,Tr.wp] at hq
   refine lvOK T9_ok rfl rfl lok_none (ι:={j:Nat // j≤4}) (fun x=>[.ptr 14 0,.str ((s.take x.1).map (xd 48)),.str ((s.take x.1).map (xd 57)),.int .i64 (Int.ofNat x.1)]) (fun _=>⟨1,[.cells [.bool ng,.bool lg,.str s,.int .i64 e,.int .i64 g] true none],[]⟩) (fun x=>4-x.1) 1 (fun _=>Nat.le_refl _) (fun x J=>?_) (Nat.le_refl _) (fun J=>Wk.refl ⟨⟨0,by omega⟩,J,rfl⟩) J
   obtain ⟨j,hj⟩:=x
   dsimp only
   refine wp_gen fun Q' hQ=>askA_wp ((r127a ng lg s _ _ e g j J).mpr ?_)
   have l1:((s.take j).map (xd 48)).length=j:=by rw [List.length_map,List.length_take];omega
   have l2:((s.take j).map (xd 57)).length=j:=by rw [List.length_map,List.length_take];omega
   by_cases h4:j=4
   · subst h4
     have e1:(s.take 4).map (xd 48)=lowX s:=by unfold lowX;rw [List.take_of_length_le (by omega)]
     have e2:(s.take 4).map (xd 57)=hiX s:=by unfold hiX;rw [List.take_of_length_le (by omega)]
     rw [e1] at l1 ⊢
     rw [e2] at l2 ⊢
     simp only [q_all,reduceCtorEq,loK,hiK,ne_eq]
     (repeat' first|exact trivial|refine ⟨?_,?_⟩|intro)<;>first|contradiction|omega|assumption|exact hQ _ ⟨_,_,VW.refl,hq⟩
   · have hlt:j<s.length:=by omega
     have m1:=@map_take_snoc (xd 48) s j hlt
     have m2:=@map_take_snoc (xd 57) s j hlt
     have dt:=drop_take1 hlt
     have next:∀a b:List UInt8,a=(s.take (j+1)).map (xd 48)->b=(s.take (j+1)).map (xd 57)->∃y:{j:Nat // j≤4},4-y.1<4-j/\VW cfg (Cw cfg []) 1 117 [1,4,5,6] [.ptr 14 0,.str a,.str b,.int .i64 (Int.ofNat (j+1))] ⟨1,[.cells [.bool ng,.bool lg,.str s,.int .i64 e,.int .i64 g] true none],[]⟩ [.ptr 14 0,.str ((s.take y.1).map (xd 48)),.str ((s.take y.1).map (xd 57)),.int .i64 (Int.ofNat y.1)] ⟨1,[.cells [.bool ng,.bool lg,.str s,.int .i64 e,.int .i64 g] true none],[]⟩:=fun a b ha hb=>⟨⟨j+1,by omega⟩,by dsimp only;omega,VW.of_eq (by rw [ha,hb]) rfl⟩
     rw [m1,m2] at next
     clear m1 m2 hq
     generalize (s.take j).map (xd 48)=l at *
     generalize (s.take j).map (xd 57)=h at *
     have e1:Int.toNat (Int.add (Int.ofNat j) 1)=j+1:=rfl
     simp only [e1,dt,bytes88,List.length_cons,List.length_nil]
     generalize s.getD j 0=c at *
     have x1:Nat.beq c.toNat 88=true->xd 48 c=48/\xd 57 c=57:=fun h=>by unfold xd;rw [h];exact ⟨rfl,rfl⟩
     have x2:Nat.beq c.toNat 88=false->xd 48 c=c/\xd 57 c=c:=fun h=>by unfold xd;rw [h];exact ⟨rfl,rfl⟩
     cases hb:Nat.beq c.toNat 88 with
     | true=>
       rw [(x1 hb).1,(x1 hb).2] at next
       have next:=next _ _ rfl rfl
       clear x1 x2 hb dt
       simp only [q_all,reduceCtorEq,loK,hiK,ne_eq]
       (repeat' first|exact trivial|refine ⟨?_,?_⟩|intro)<;>first|contradiction|omega|assumption|exact hQ _ next
     | false=>
       rw [(x2 hb).1,(x2 hb).2] at next
       have next:=next _ _ rfl rfl
       clear x1 x2 hb dt
       simp only [q_all,reduceCtorEq,loK,hiK,ne_eq]
       (repeat' first|exact trivial|refine ⟨?_,?_⟩|intro)<;>first|contradiction|omega|assumption|exact hQ _ next
 · cases hv
theorem lowS_len {s:List UInt8}:∀{i:Nat},i≤4->(lowS s i).length=4
 | 0,_=>rfl
 | i+1,h=>by
   rw [lowS]
   cases Nat.beq (s.getD i 0).toNat 88 with
   | true=>
     rw [cond_true,List.length_append,List.length_append,List.length_take,List.length_drop]
     show min i 4+1+(4-(i+1))=4
     omega
   | false=>rw [cond_false];exact lowS_len (by omega)
theorem lv127b:LoopVOK Tryz.prog (cfgS cfg T9) (Cw cfg []) (lb 127 1) 117 [1,4,5,9] v127b:=by
 intro vs o t Q hv hq J
 unfold v127b at hv
 split at hv
 · rename_i l h i ng lg s e g
   cases hv
   obtain ⟨h1,hq'⟩:=asrts_wp hq;clear hq;have hq:=hq';clear hq'
   obtain ⟨h2,hq'⟩:=asrts_wp hq;clear hq;have hq:=hq';clear hq'
   obtain ⟨h3,hq'⟩:=asrts_wp hq;clear hq;have hq:=hq';clear hq'
   rw [q_eq_t] at h1
   rw [q_beq_t] at h2
   rw [bytesEq_beq,beq_iff_eq] at h3
   subst h1 h3
   simp only [asrts,Tr.wp] at hq
   refine lvOK T9_ok rfl rfl lok_none (ι:={j:Nat // j≤4}) (fun x=>[.ptr 14 0,.str (lowS s x.1),.str h,.int .i64 (Int.ofNat x.1)]) (fun _=>⟨1,[.cells [.bool ng,.bool lg,.str s,.int .i64 e,.int .i64 g] true none],[]⟩) (fun x=>4-x.1) 1 (fun _=>Nat.le_refl _) (fun x J=>?_) (Nat.le_refl _) (fun J=>Wk.refl ⟨⟨0,by omega⟩,J,rfl⟩) J
   obtain ⟨j,hj⟩:=x
   dsimp only
   refine wp_gen fun Q' hQ=>askA_wp ((r127b ng lg s _ h e g j J).mpr ?_)
   by_cases h4:j=4
   · have fin:Q (.exit 2,[.ptr 14 0,.str (lowS s j),.str h,.int .i64 (Int.ofNat j)],⟨1,[.cells [.bool ng,.bool lg,.str s,.int .i64 e,.int .i64 g] true none],[]⟩):=by rw [h4];exact hq
     generalize lowS s j=l at *
     simp only [q_all,reduceCtorEq,loK,hiK,ne_eq]
     (repeat' first|exact trivial|refine ⟨?_,?_⟩|intro)<;>first|contradiction|omega|assumption|exact hQ _ ⟨_,_,VW.refl,fin⟩
   · have hlt:j<s.length:=by omega
     have next:∀a:List UInt8,a=lowS s (j+1)->∃y:{j:Nat // j≤4},4-y.1<4-j/\VW cfg (Cw cfg []) 1 117 [1,4,5,9] [.ptr 14 0,.str a,.str h,.int .i64 (Int.ofNat (j+1))] ⟨1,[.cells [.bool ng,.bool lg,.str s,.int .i64 e,.int .i64 g] true none],[]⟩ [.ptr 14 0,.str (lowS s y.1),.str h,.int .i64 (Int.ofNat y.1)] ⟨1,[.cells [.bool ng,.bool lg,.str s,.int .i64 e,.int .i64 g] true none],[]⟩:=fun a ha=>⟨⟨j+1,by omega⟩,by dsimp only;omega,VW.of_eq (by rw [ha]) rfl⟩
     rw [lowS] at next
     clear hq
     have e1:Int.toNat (Int.add (Int.ofNat j) 1)=j+1:=rfl
     have k1:(List.take j z4).length≤4:=by rw [List.length_take];exact Nat.min_le_right _ _
     have k2:(List.drop (j+1) z4).length≤4:=by rw [List.length_drop];exact Nat.sub_le _ _
     have ez:([UInt8.ofNat 48,UInt8.ofNat 48,UInt8.ofNat 48,UInt8.ofNat 48]:List UInt8)=z4:=rfl
     simp only [e1,ez,List.drop_zero,List.length_append,List.length_cons,List.length_nil]
     rw [show (UInt8.ofNat 0)=(0:UInt8) from rfl]
     generalize s.getD j 0=c at *
     generalize lowS s j=l at *
     cases hb:Nat.beq c.toNat 88 with
     | true=>
       rw [hb] at next
       have next2:=next _ rfl
       clear next
       rw [cond_true] at next2
       rw [q_beq_t] at hb
       have hb':Int.ofNat c.toNat=88:=by rw [hb];rfl
       clear e1 ez
       generalize z4=zz at *
       simp only [q_all,reduceCtorEq,loK,hiK,ne_eq]
       (repeat' first|exact trivial|refine ⟨?_,?_⟩|intro)<;>first|contradiction|omega|assumption|exact hQ _ next2
     | false=>
       rw [hb] at next
       have next2:=next _ rfl
       clear next
       rw [cond_false] at next2
       rw [q_beq_f] at hb
       clear e1 ez
       generalize z4=zz at *
       simp only [q_all,reduceCtorEq,loK,hiK,ne_eq]
       (repeat' first|exact trivial|refine ⟨?_,?_⟩|intro)<;>first|contradiction|omega|assumption|exact hQ _ next2
 · cases hv
theorem xd_nat {v c:UInt8}:(xd v c).toNat=if c.toNat=88 then v.toNat else c.toNat:=by
 unfold xd
 by_cases h:c.toNat=88
 · rw [beqT h,if_pos h];rfl
 · rw [beqF h,if_neg h];rfl
theorem numL4 {a b c d:UInt8} (h0:48≤a.toNat/\a.toNat≤57) (h1:48≤b.toNat/\b.toNat≤57) (h2:48≤c.toNat/\c.toNat≤57) (h3:48≤d.toNat/\d.toNat≤57):digL [a,b,c,d]=true/\magV [a,b,c,d] 0=1000*(a.toNat-48)+100*(b.toNat-48)+10*(c.toNat-48)+(d.toNat-48)/\magOk [a,b,c,d] 0=true:=by
 have e:magV [a,b,c,d] 0=1000*(a.toNat-48)+100*(b.toNat-48)+10*(c.toNat-48)+(d.toNat-48):=by
  unfold magV numL
  simp only [List.foldl_cons,List.foldl_nil,Nat.pow_zero,Nat.mul_one]
  omega
 refine ⟨?_,e,?_⟩
 · simp only [digL,List.all_cons,List.all_nil,Bool.and_true,Bool.and_eq_true,dB,decide_eq_true_eq]
   exact ⟨h0,h1,h2,h3⟩
 · unfold magOk;rw [q_ble_t,e];omega
theorem fil4_nat {c0 c1 c2 c3 v:UInt8} (hv:48≤v.toNat/\v.toNat≤57) (h0:mBy c0=true) (h1:mBy c1=true) (h2:mBy c2=true) (h3:mBy c3=true):digL ([c0,c1,c2,c3].map (xd v))=true/\((magV ([c0,c1,c2,c3].map (xd v)) 0:Nat):Int)=fil4 c0 c1 c2 c3 v.toNat/\magOk ([c0,c1,c2,c3].map (xd v)) 0=true:=by
 rw [mBy_iff] at h0 h1 h2 h3
 have xb:∀c:UInt8,(c.toNat=88∨48≤c.toNat/\c.toNat≤57)->48≤(xd v c).toNat/\(xd v c).toNat≤57:=fun c h=>by rw [xd_nat];split<;>omega
 have dx:∀c:UInt8,dgx c (v.toNat:Int)=((xd v c).toNat:Int)-48:=fun c=>by
  rw [xd_nat]
  unfold dgx
  by_cases h:c.toNat=88
  · rw [beqT h,if_pos h];rfl
  · rw [beqF h,if_neg h];rfl
 have b0:=xb c0 h0
 have b1:=xb c1 h1
 have b2:=xb c2 h2
 have b3:=xb c3 h3
 obtain ⟨k1,k2,k3⟩:=numL4 b0 b1 b2 b3
 refine ⟨k1,?_,k3⟩
 show ((magV [xd v c0,xd v c1,xd v c2,xd v c3] 0:Nat):Int)=_
 rw [k2]
 unfold fil4
 rw [dx,dx,dx,dx]
 omega
theorem low_zero {c0 c1 c2 c3:UInt8} (h0:mBy c0=true) (h1:mBy c1=true) (h2:mBy c2=true) (h3:mBy c3=true) (hx:¬hasN [c0,c1,c2,c3] 88 88=0) (hz:lowX [c0,c1,c2,c3]=[48,48,48,48]):digL (lowS [c0,c1,c2,c3] 4)=true/\((magV (lowS [c0,c1,c2,c3] 4) 0:Nat):Int)=lastX c1 c2 c3/\magOk (lowS [c0,c1,c2,c3] 4) 0=true:=by
 have key:∀l:List UInt8,lowS [c0,c1,c2,c3] 4=l->digL l=true->magOk l 0=true->((magV l 0:Nat):Int)=lastX c1 c2 c3->digL (lowS [c0,c1,c2,c3] 4)=true/\((magV (lowS [c0,c1,c2,c3] 4) 0:Nat):Int)=lastX c1 c2 c3/\magOk (lowS [c0,c1,c2,c3] 4) 0=true:=fun l e a b c=>by rw [e];exact ⟨a,c,b⟩
 have ls:lowS [c0,c1,c2,c3] 4=bif Nat.beq c3.toNat 88 then [48,48,48,49] else bif Nat.beq c2.toNat 88 then [48,48,49,48] else bif Nat.beq c1.toNat 88 then [48,49,48,48] else bif Nat.beq c0.toNat 88 then [49,48,48,48] else z4:=rfl
 unfold lastX at key ⊢
 cases e3:Nat.beq c3.toNat 88 with
 | true=>rw [e3,cond_true] at ls key;exact key _ ls (by decide) (by decide) (by decide)
 | false=>
   rw [e3,cond_false] at ls key
   cases e2:Nat.beq c2.toNat 88 with
   | true=>rw [e2,cond_true] at ls key;exact key _ ls (by decide) (by decide) (by decide)
   | false=>
     rw [e2,cond_false] at ls key
     cases e1:Nat.beq c1.toNat 88 with
     | true=>rw [e1,cond_true] at ls key;exact key _ ls (by decide) (by decide) (by decide)
     | false=>
       rw [e1,cond_false] at ls key
       cases e0:Nat.beq c0.toNat 88 with
       | true=>rw [e0,cond_true] at ls;exact key _ ls (by decide) (by decide) (by decide)
       | false=>
         exfalso
         apply hx
         rw [q_beq_f] at e0 e1 e2 e3
         rw [hasN_cons,hasN_cons,hasN_cons,hasN_cons,if_neg (by omega),if_neg (by omega),if_neg (by omega),if_neg (by omega)]
         rfl
theorem f127 {ng lg:Bool} {s:List UInt8} {e:Int} (ho:okY14 ng lg s e 0=true) (hs:s.length≤1000) (hX:okX s=true) :
 FactW Tryz.prog cfg 127 [.agg [.bool ng,.bool lg,.str s,.int .i64 e,.int .i64 0]] [] (.tuple [.int .i64 (loY ng s e),.int .i64 (hiY ng s e)]) []:=by
 cases hx:Nat.beq (hasN s 88 88) 0 with
 | true=>
   have hx0:intEq (minI 1 (Int.ofNat (hasN s 88 88))) 1=false:=by rw [minI1,hx];rfl
   have l1:loY ng s e=valR ng s e:=by unfold loY;rw [hx];rfl
   have l2:hiY ng s e=valR ng s e:=by unfold hiY;rw [hx];rfl
   rw [q_beq_t] at hx
   obtain ⟨he,hd,hm,hv⟩:=okY_plain ho hx
   refine fpOK T9_ok (L:=noL) body127 (by simp) lok_none (wp_gen fun Q' hQ=>askA_wp ((b127a ng lg s e).mpr ?_)) (by simp [idsA,idsL])
   rw [l1,l2] at hQ
   have z0:∀k:Int,Int.sub 0 k = -k:=fun k=>Int.zero_sub k
   unfold valR at hQ
   rw [hx0]
   simp only [z0]
   cases ng with
   | true=>
     have hQ:=hQ _ rfl
     rw [cond_true] at hQ
     have e1:(-(Int.ofNat (magV s e.toNat))) = -((magV s e.toNat:Nat):Int):=rfl
     simp only [e1]
     clear e1
     generalize magV s e.toNat=mv at *
     simp only [q_all,reduceCtorEq,loK,hiK,ne_eq]
     (repeat' first|exact trivial|refine ⟨?_,?_⟩|intro)<;>first|contradiction|omega|assumption
   | false=>
     have hQ:=hQ _ rfl
     rw [cond_false] at hQ
     generalize magV s e.toNat=mv at *
     simp only [q_all,reduceCtorEq,loK,hiK,ne_eq]
     (repeat' first|exact trivial|refine ⟨?_,?_⟩|intro)<;>first|contradiction|omega|assumption
 | false=>
   have hx1:intEq (minI 1 (Int.ofNat (hasN s 88 88))) 1=true:=by rw [minI1,hx];rfl
   obtain rfl:=okY_mask ho (q_beq_f.mp hx)
   obtain ⟨c0,c1,c2,c3,rfl,h0,h1,h2,h3⟩:=okX_m hX hx
   refine fpOK T9_ok (L:=L127) body127 (by simp) (lok_at loops127 fun i hi e he st Q hw=>?_) (wp_gen fun Q' hQ=>askA_wp ((b127b ng lg [c0,c1,c2,c3]).mpr ?_)) (by simp [idsA,idsL])
   · have hi:i=0∨i=1:=by simp at hi;omega
     rcases hi with rfl|rfl
     · cases he
       exact loopE_ok (base0.good T9_ok) (by decide) rfl lv127a hw
     · cases he
       exact loopE_ok (base0.good T9_ok) (by decide) rfl lv127b hw
   · have l1:loY ng [c0,c1,c2,c3] 0=(bif ng then -(fil4 c0 c1 c2 c3 57) else lowM ng c0 c1 c2 c3):=by unfold loY;rw [hx];rfl
     have l2:hiY ng [c0,c1,c2,c3] 0=(bif ng then -(lowM ng c0 c1 c2 c3) else fil4 c0 c1 c2 c3 57):=by unfold hiY;rw [hx];rfl
     rw [l1,l2] at hQ
     obtain ⟨a1,a2,a3⟩:=fil4_nat (v:=57) (by decide) h0 h1 h2 h3
     obtain ⟨b1,b2,b3⟩:=fil4_nat (v:=48) (by decide) h0 h1 h2 h3
     have z0:∀k:Int,Int.sub 0 k = -k:=fun k=>Int.zero_sub k
     have a2:((magV (hiX [c0,c1,c2,c3]) 0:Nat):Int)=fil4 c0 c1 c2 c3 57:=a2
     have b2:((magV (lowX [c0,c1,c2,c3]) 0:Nat):Int)=fil4 c0 c1 c2 c3 48:=b2
     have a1:digL (hiX [c0,c1,c2,c3])=true:=a1
     have b1:digL (lowX [c0,c1,c2,c3])=true:=b1
     have a3:magOk (hiX [c0,c1,c2,c3]) 0=true:=a3
     have b3:magOk (lowX [c0,c1,c2,c3]) 0=true:=b3
     have n1:(hiX [c0,c1,c2,c3]).length=4:=rfl
     have n2:(lowX [c0,c1,c2,c3]).length=4:=rfl
     have hz:bytesEq (lowX [c0,c1,c2,c3]) [UInt8.ofNat 48,UInt8.ofNat 48,UInt8.ofNat 48,UInt8.ofNat 48]=intEq (fil4 c0 c1 c2 c3 48) 0:=by
      rw [bytesEq_beq,Bool.eq_iff_iff,beq_iff_eq,q_eq_t,←b2]
      constructor
      · intro h;rw [h];rfl
      · intro h
        have hb:=b1
        have hv:magV (lowX [c0,c1,c2,c3]) 0=0:=by omega
        have d0:∀c:UInt8,(mBy c=true)->48≤(xd 48 c).toNat/\(xd 48 c).toNat≤57:=fun c hc=>by
         rw [mBy_iff] at hc
         rw [xd_nat]
         have:(48:UInt8).toNat=48:=rfl
         split<;>omega
        have e:=(numL4 (d0 c0 h0) (d0 c1 h1) (d0 c2 h2) (d0 c3 h3)).2.1
        have e:magV (lowX [c0,c1,c2,c3]) 0=_:=e
        have:=d0 c0 h0
        have:=d0 c1 h1
        have:=d0 c2 h2
        have:=d0 c3 h3
        have q:∀c:UInt8,(xd 48 c).toNat=48->xd 48 c=UInt8.ofNat 48:=fun c h=>UInt8.toNat_inj.1 h
        show [xd 48 c0,xd 48 c1,xd 48 c2,xd 48 c3]=_
        rw [q c0 (by omega),q c1 (by omega),q c2 (by omega),q c3 (by omega)]
     have lz:=fun h=>low_zero h0 h1 h2 h3 (q_beq_f.mp hx) h
     have n3:(lowS [c0,c1,c2,c3] 4).length=4:=lowS_len (by decide)
     have hz2:bytesEq (lowX [c0,c1,c2,c3]) [UInt8.ofNat 48,UInt8.ofNat 48,UInt8.ofNat 48,UInt8.ofNat 48]=true->digL (lowS [c0,c1,c2,c3] 4)=true/\((magV (lowS [c0,c1,c2,c3] 4) 0:Nat):Int)=lastX c1 c2 c3/\magOk (lowS [c0,c1,c2,c3] 4) 0=true:=fun h=>by
      rw [bytesEq_beq,beq_iff_eq] at h
      exact lz h
     have bH:=a3
     have bL:=b3
     unfold magOk at bH bL
     rw [q_ble_t] at bH bL
     have bS:magOk (lowS [c0,c1,c2,c3] 4) 0=true->magV (lowS [c0,c1,c2,c3] 4) 0≤10000000000000000:=fun h=>by unfold magOk at h;rwa [q_ble_t] at h
     unfold lowM at hQ
     rw [hx1]
     simp only [z0]
     clear lz l1 l2 ho hX hx hx1 z0 h0 h1 h2 h3
     have h4:[c0,c1,c2,c3].length=4:=rfl
     generalize hiX [c0,c1,c2,c3]=H at *
     generalize lowX [c0,c1,c2,c3]=L at *
     generalize lowS [c0,c1,c2,c3] 4=S at *
     generalize [c0,c1,c2,c3]=s at *
     generalize fil4 c0 c1 c2 c3 57=F at *
     generalize fil4 c0 c1 c2 c3 48=G at *
     generalize lastX c1 c2 c3=X at *
     subst a2 b2
     cases ng with
     | true=>
       simp only [cond_true,Bool.true_and] at hQ
       cases hbz:bytesEq L [UInt8.ofNat 48,UInt8.ofNat 48,UInt8.ofNat 48,UInt8.ofNat 48] with
       | true=>
         obtain ⟨s1,s2,s3⟩:=hz2 hbz
         have bS:=bS s3
         rw [hbz] at hz
         rw [←hz,cond_true,←s2] at hQ
         have hQ:=hQ _ rfl
         clear hz hz2
         generalize magV S 0=mS at *
         generalize magV H 0=mH at *
         generalize magV L 0=mL at *
         simp only [q_all,reduceCtorEq,loK,hiK,ne_eq]
         (repeat' first|exact trivial|refine ⟨?_,?_⟩|intro)<;>first|contradiction|omega|assumption|(exfalso;simp_all;done)
       | false=>
         rw [hbz] at hz
         rw [←hz,cond_false] at hQ
         have hQ:=hQ _ rfl
         clear hz hz2 bS
         generalize magV S 0=mS at *
         generalize magV H 0=mH at *
         generalize magV L 0=mL at *
         simp only [q_all,reduceCtorEq,loK,hiK,ne_eq]
         (repeat' first|exact trivial|refine ⟨?_,?_⟩|intro)<;>first|contradiction|omega|assumption|(exfalso;simp_all;done)
     | false=>
       simp only [cond_false,Bool.false_and] at hQ
       have hQ:=hQ _ rfl
       clear hz hz2 bS
       generalize magV S 0=mS at *
       generalize magV H 0=mH at *
       generalize magV L 0=mL at *
       simp only [q_all,reduceCtorEq,loK,hiK,ne_eq]
       (repeat' first|exact trivial|refine ⟨?_,?_⟩|intro)<;>first|contradiction|omega|assumption|(exfalso;simp_all;done)
theorem add127 {S:Sums} (hS:SumsOK Tryz.prog cfg S):SumsOK Tryz.prog cfg (addP S 127 s127):=sums_addP hS fun args t v he hv=>by
 unfold s127 at he
 split at he
 · rename_i ng lg s e g
   cases he
   obtain ⟨h1,hv⟩:=asrts_run hv
   obtain ⟨h2,hv⟩:=asrts_run hv
   obtain ⟨h3,hv⟩:=asrts_run hv
   obtain ⟨h4,hv⟩:=asrts_run hv
   rw [q_eq_t] at h1
   rw [q_ble_t] at h3
   cases hv
   subst h1
   exact f127 h2 h3 h4
 · cases he
abbrev boxD (ng lg:Bool) (s:List UInt8) (e g:Int) (mo da:List UInt8) (a b c:Int):AObj:=.cells [.bool ng,.bool lg,.str s,.int .i64 e,.int .i64 g,.str mo,.str da,.int .u8 a,.int .u8 b,.int .u8 c] true none
def outB (b0:AObj):List Int->Own
 | []=>⟨1,[b0],[]⟩
 | x::xs=>⟨2,[.cells ((x::xs).map (AV.int .i64)) true (some 1),b0],[]⟩
def v187:LoopV:=fun vs o=>match vs,o with
 | [.ptr 14 0,.nilslice,.int .i64 m],⟨1,[.cells [.bool ng,.bool lg,.str s,.int .i64 e,.int .i64 g,.str [m0,m1],.str da,.int .u8 a,.int .u8 b,.int .u8 c] true none],[]⟩=>some (asrts [mBy m0,mBy m1,intEq m 1] (.ret (.exit 0,[.ptr 14 0,outV 15 (fitL m0 m1 12),.int .i64 13],outB (boxD ng lg s e g [m0,m1] da a b c) (fitL m0 m1 12))))
 | _,_=>none
def L187:Loops:=addL noL 0 (loopE 29 [1,3,4] v187)
def w187:WSum:=fun args ws=>match args,ws with
 | [.agg [.bool ng,.bool lg,.str s,.int .i64 e,.int .i64 g,.str [m0,m1],.str da,.int .u8 a,.int .u8 b,.int .u8 c]],[]=>some (asrts [mBy m0,mBy m1,intEq (seasR [m0,m1]) 0,!(nilB (fitL m0 m1 12))] (.ret (.slice 14 0 (lenN (fitL m0 m1 12)) (.rest 0),[.cells (celL (fitL m0 m1 12)) true (some 1)])))
 | _,_=>none
def s188:Sum:=fun args=>match args with
 | [.int .i64 y,.int .i64 m]=>some (asrts [inR .i64 y] (.ret (.int .i64 (mlenR y m))))
 | _=>none
theorem b188 (y m:Int) {Q:AV->Prop}:askA Q (pT T9 noL 188 [.int .i64 y,.int .i64 m]) (dtN 110330008107331142322024220240414124124124)=((fun (u4 u5 u6:Bool) (u0 u1 u2 u3 u7 u8:Prop)=>(fun (u9 ua ub uc:Prop)=>(u0->u0/\u1)/\(intEq m 4=false->(u2->u2/\u1)/\(intEq m 6=false->(u3->u3/\u1)/\(intEq m 9=false->(intEq m 11=true->u1)/\(intEq m 11=false->(intEq m 2=true->(u9->u9/\u9/\u9/\(ua->ua/\ua/\u9/\u5=false/\u9/\(u6=true->u7)/\(u6=false->u8))/\(ub->ub/\ub/\u9/\u5=true/\u9/\u7))/\(uc->uc/\uc/\uc/\uc/\uc/\u8))/\(intEq m 2=false->Q (AV.int .i64 31))))))) (u4=true) (not u5=true) (not u5=false) (u4=false)) (intEq (Int.tmod y 4) 0) (not (intEq (Int.tmod y 100) 0)) (intEq (Int.tmod y 400) 0) (intEq m 4=true) (Q (AV.int .i64 30)) (intEq m 6=true) (intEq m 9=true) (Q (AV.int .i64 29)) (Q (AV.int .i64 28))):=by kernel_rfl
theorem r187a (ng lg:Bool) (s:List UInt8) (e g:Int) (m0 m1:UInt8) (da:List UInt8) (a b c m:Int) (J:Nat->Value) {Q:VQ->Prop}:askA Q (rT T9 noL [] 187 0 29 [1,3,4] [.ptr 14 0,.nilslice,.int .i64 m] J ⟨1,[boxD ng lg s e g [m0,m1] da a b c],[]⟩) (dtN 1121205422004)=((fun (u2 u3:AV) (u0:Bool) (u4:List AV) (u1:Prop)=>(intLe m 12=true->intLe 0 m=true/\intLe m 99=true/\(u0=true->u1/\Q (AX.normal,([u2,AV.slice 16 0 1 (Cap.rest 0),u3],{ n:=3,os:=[AObj.cells u4 true (Option.some 1),AObj.cells u4 true Option.none,AObj.cells [AV.bool ng,AV.bool lg,AV.str s,AV.int .i64 e,AV.int .i64 g,AV.str [m0,m1],AV.str da,AV.int .u8 a,AV.int .u8 b,AV.int .u8 c] true Option.none],le:=[] })))/\(u0=false->u1/\Q (AX.normal,([u2,AV.nilslice,u3],{ n:=1,os:=[AObj.cells [AV.bool ng,AV.bool lg,AV.str s,AV.int .i64 e,AV.int .i64 g,AV.str [m0,m1],AV.str da,AV.int .u8 a,AV.int .u8 b,AV.int .u8 c] true Option.none],le:=[] }))))/\(intLe m 12=false->Q (AX.exit 0,([u2,AV.nilslice,AV.int .i64 m],{ n:=1,os:=[AObj.cells [AV.bool ng,AV.bool lg,AV.str s,AV.int .i64 e,AV.int .i64 g,AV.str [m0,m1],AV.str da,AV.int .u8 a,AV.int .u8 b,AV.int .u8 c] true Option.none],le:=[] })))) (AV.ptr 14 0) (AV.int .i64 (Int.add m 1)) (intEq (cond (agr [m0,m1] m) 1 0) 1) [AV.int .i64 m] (inR .i64 (Int.add m 1)=true)):=by kernel_rfl
theorem r187b (ng lg:Bool) (s:List UInt8) (e g:Int) (m0 m1:UInt8) (da:List UInt8) (a b c m:Int) (J:Nat->Value) (cs:List AV) (n:Nat) {Q:VQ->Prop}:askA Q (rT T9 noL [] 187 0 29 [1,3,4] [.ptr 14 0,.slice 15 0 n (.rest 0),.int .i64 m] J ⟨2,[.cells cs true (some 1),boxD ng lg s e g [m0,m1] da a b c],[]⟩) (dtN 1121124520422004)=((fun (u3 u4 u6:AV) (u0 u1:Bool) (u5:List AV) (u2:Prop)=>(intLe m 12=true->intLe 0 m=true/\intLe m 99=true/\(u0=true->and (and (Nat.ble (HAdd.hAdd n 1) 1000000) true) true=true/\(u1=true->u2/\Q (AX.normal,([u3,AV.slice 17 0 (HAdd.hAdd n 1) (Cap.rest 0),u4],{ n:=4,os:=[AObj.cells (HAppend.hAppend cs u5) true (Option.some 1),AObj.cells u5 true Option.none,AObj.dead,AObj.cells [AV.bool ng,AV.bool lg,AV.str s,AV.int .i64 e,AV.int .i64 g,AV.str [m0,m1],AV.str da,AV.int .u8 a,AV.int .u8 b,AV.int .u8 c] true Option.none],le:=[] })))/\(u1=false->False))/\(u0=false->u2/\Q (AX.normal,([u3,u6,u4],{ n:=2,os:=[AObj.cells cs true (Option.some 1),AObj.cells [AV.bool ng,AV.bool lg,AV.str s,AV.int .i64 e,AV.int .i64 g,AV.str [m0,m1],AV.str da,AV.int .u8 a,AV.int .u8 b,AV.int .u8 c] true Option.none],le:=[] }))))/\(intLe m 12=false->Q (AX.exit 0,([u3,u6,AV.int .i64 m],{ n:=2,os:=[AObj.cells cs true (Option.some 1),AObj.cells [AV.bool ng,AV.bool lg,AV.str s,AV.int .i64 e,AV.int .i64 g,AV.str [m0,m1],AV.str da,AV.int .u8 a,AV.int .u8 b,AV.int .u8 c] true Option.none],le:=[] })))) (AV.ptr 14 0) (AV.int .i64 (Int.add m 1)) (AV.slice 15 0 n (Cap.rest 0)) (intEq (cond (agr [m0,m1] m) 1 0) 1) (and true (Nat.beq (List.length cs) (HMul.hMul n 1))) [AV.int .i64 m] (inR .i64 (Int.add m 1)=true)):=by kernel_rfl
theorem b187 (ng lg:Bool) (s:List UInt8) (e g:Int) (m0 m1:UInt8) (da:List UInt8) (a b c:Int) {Q:EQ->Prop}:askA Q (bT T9 L187 [] 187 [.agg [.bool ng,.bool lg,.str s,.int .i64 e,.int .i64 g,.str [m0,m1],.str da,.int .u8 a,.int .u8 b,.int .u8 c]]) (dtN 1022356)=((fun (u0:AV)=>not (intLe (seasR [m0,m1]) 0)=false/\mBy m0=true/\mBy m1=true/\(∀J1:Nat->Value,Q (Prod.fst (Prod.fst (u0,Prod.snd ([AV.ptr 14 0,u0,AV.int .i64 13],outB (AObj.cells [AV.bool ng,AV.bool lg,AV.str s,AV.int .i64 e,AV.int .i64 g,AV.str [m0,m1],AV.str da,AV.int .u8 a,AV.int .u8 b,AV.int .u8 c] true Option.none) (fitL m0 m1 12))),Prod.snd (u0,Prod.snd ([AV.ptr 14 0,u0,AV.int .i64 13],outB (AObj.cells [AV.bool ng,AV.bool lg,AV.str s,AV.int .i64 e,AV.int .i64 g,AV.str [m0,m1],AV.str da,AV.int .u8 a,AV.int .u8 b,AV.int .u8 c] true Option.none) (fitL m0 m1 12)))),Prod.snd (Prod.fst (u0,Prod.snd ([AV.ptr 14 0,u0,AV.int .i64 13],outB (AObj.cells [AV.bool ng,AV.bool lg,AV.str s,AV.int .i64 e,AV.int .i64 g,AV.str [m0,m1],AV.str da,AV.int .u8 a,AV.int .u8 b,AV.int .u8 c] true Option.none) (fitL m0 m1 12))),Prod.snd (u0,Prod.snd ([AV.ptr 14 0,u0,AV.int .i64 13],outB (AObj.cells [AV.bool ng,AV.bool lg,AV.str s,AV.int .i64 e,AV.int .i64 g,AV.str [m0,m1],AV.str da,AV.int .u8 a,AV.int .u8 b,AV.int .u8 c] true Option.none) (fitL m0 m1 12))))))) (outV 15 (fitL m0 m1 12))):=by kernel_rfl
theorem body188:bodyOf tab 188=some (fnOf 188,codeOf 188):=by kernel_rfl
theorem body187:bodyOf tab 187=some (fnOf 187,codeOf 187):=by kernel_rfl
theorem loops187:(loopsOf (codeOf 187)).map (·.1)=[0]:=by kernel_rfl
theorem low_plain {cs:List AV} {rw:Bool} {g:Option Nat} {b:Nat} (h:idsL cs=[]):LowO b (.cells cs rw g):=⟨rfl,fun i hi=>by
 exfalso
 have hi:i∈idsL cs:=hi
 rw [h] at hi
 cases hi⟩
theorem vw_lastN {tn:Nat} {rel:List Nat} {vs vs':List AV} {x:AObj} {mid B:List AObj} {k kb n:Nat} (hk:mid.length=k) (hB:B.length=kb) (hn:n=kb+k+1) (hlow:∀b∈B,LowO (14+kb) b) (hx:LowO (14+kb) x) (hvs:mvL (mvA (14+kb) [(14+(kb+k),14+(kb+0))] 20) vs=some vs') :
 VW cfg (Cw cfg []) kb tn rel vs ⟨n,x::(mid++B),[]⟩ vs' ⟨kb+1,x::B,[]⟩:=by
 subst hn
 have at0:∀(os:List AObj) (n i:Nat),(⟨n,os,[]⟩:Own).at i=os.getD (n-1-i) .dead:=fun os n i=>rfl
 refine VW.move good0.lv (C:=Cw cfg []) (kb:=kb) (sel:=[kb+k]) lowC0 (by show kb≤kb+k+1;omega) (fun s hs=>?_) (by simp) (fun p hp=>by cases hp) rfl rfl (by simp [hB]) (fun i hi=>?_) (fun t ht=>?_) hvs
 · simp only [List.mem_singleton] at hs;subst hs;exact ⟨by omega,by show kb+k<kb+k+1;omega⟩
 · have e1:(⟨kb+1,x::B,[]⟩:Own).at i=B.getD (kb-1-i) .dead:=by
    rw [at0]
    rw [show kb+1-1-i=(kb-1-i)+1 by omega,List.getD_cons_succ]
   have e2:(⟨kb+k+1,x::(mid++B),[]⟩:Own).at i=B.getD (kb-1-i) .dead:=by
    rw [at0]
    rw [show kb+k+1-1-i=(k+(kb-1-i))+1 by omega,List.getD_cons_succ,List.getD_eq_getElem?_getD,List.getElem?_append_right (by omega),List.getD_eq_getElem?_getD]
    rw [hk,show k+(kb-1-i)-k=kb-1-i by omega]
   rw [e1,e2]
   refine ⟨rfl,?_⟩
   have hlt:kb-1-i<B.length:=by omega
   rw [List.getD_eq_getElem?_getD,List.getElem?_eq_getElem hlt]
   exact hlow _ (List.getElem_mem hlt)
 · have:t=0:=by simp at ht;omega
   subst this
   refine .inl ⟨?_,?_⟩
   · show (⟨kb+1,x::B,[]⟩:Own).at (kb+0)=(⟨kb+k+1,x::(mid++B),[]⟩:Own).at (kb+k)
     rw [at0,at0,show kb+1-1-(kb+0)=0 by omega,show kb+k+1-1-(kb+k)=0 by omega]
     rfl
   · show LowO (14+kb) ((⟨kb+k+1,x::(mid++B),[]⟩:Own).at (kb+k))
     rw [at0,show kb+k+1-1-(kb+k)=0 by omega]
     exact hx
theorem EndW.last {v v':AV} {x:AObj} {rest:List AObj} {k n:Nat} (hk:rest.length=k) (hn:n=k+1) (hx:LowO 14 x) (hv:mvA 14 [(14+k,14)] 20 v'=some v):EndW [] v [x] (v',⟨n,x::rest,[]⟩):=by
 subst hn
 have hv':mvA ((Cw cfg []).lo+0) (pairs (Cw cfg []).lo 0 [k]) 20 v'=some v:=hv
 refine (wk_move good0.lv (C:=Cw cfg []) (st:=⟨.node v' .nil .nil,1,⟨k+1,x::rest,[]⟩,[],none⟩) (kb:=0) (sel:=[k]) (ts':=.node v .nil .nil) (o':=⟨1,[x],[]⟩) lowC0 (Nat.zero_le _) (fun s hs=>?_) (by simp) (fun p hp=>by cases hp) rfl rfl rfl (fun i hi=>absurd hi (Nat.not_lt_zero i)) (fun t ht=>?_) ?_ (fun d hd=>by cases hd) (fun i hi=>by cases hi)).mono fun s hs=>?_
 · simp only [List.mem_singleton] at hs;subst hs;exact ⟨Nat.zero_le _,Nat.lt_succ_self _⟩
 · have:t=0:=by simp at ht;omega
   subst this
   refine .inl ⟨?_,?_⟩
   · show (⟨1,[x],[]⟩:Own).at 0=(⟨k+1,x::rest,[]⟩:Own).at k
     unfold Own.at
     simp
   · show LowO 14 ((⟨k+1,x::rest,[]⟩:Own).at k)
     unfold Own.at
     simpa using hx
 · simp only [mvT,hv',ob]
 · rw [hs];exact ⟨rfl,rfl⟩
theorem f188 {y m:Int} (hy : -9223372036854775808≤y/\y≤9223372036854775807):FactW Tryz.prog cfg 188 [.int .i64 y,.int .i64 m] [] (.int .i64 (mlenR y m)) []:=by
 refine fpOK T9_ok (L:=noL) body188 (by simp) lok_none (wp_gen fun Q' hQ=>askA_wp ((b188 y m).mpr ?_)) (by simp [idsA])
 dsimp only
 have z:∀k:Int,y.tmod k=0↔y%k=0:=fun k=>by rw [←Int.dvd_iff_tmod_eq_zero,←Int.dvd_iff_emod_eq_zero]
 have fin:∀n:Int,n=mlenR y m->Q' (.int .i64 n):=fun n h=>hQ _ (by rw [h])
 clear hQ
 simp only [q_all,reduceCtorEq,loK,hiK,ne_eq]
 simp only [z]
 (repeat' first|exact trivial|refine ⟨?_,?_⟩|intro)<;>first|omega|(refine fin _ ?_;unfold mlenR Go.Proofs.YtafekjglclnegaaGreatDoor.mlen Go.Proofs.YtafekjglclnegaaGreatDoor.lp;(repeat' split)<;>omega)
theorem outB_len {b0:AObj} {L:List Int} (h:L≠[]):outB b0 L=⟨2,[.cells (L.map (AV.int .i64)) true (some 1),b0],[]⟩:=by cases L with|nil=>exact absurd rfl h|cons x xs=>rfl
theorem lv187:LoopVOK Tryz.prog (cfgS cfg T9) (Cw cfg []) (lb 187 0) 29 [1,3,4] v187:=by
 intro vs o t Q hv hq J
 unfold v187 at hv
 split at hv
 · rename_i m ng lg s e g m0 m1 da a b c
   cases hv
   obtain ⟨h1,hq'⟩:=asrts_wp hq;clear hq;have hq:=hq';clear hq'
   obtain ⟨h2,hq'⟩:=asrts_wp hq;clear hq;have hq:=hq';clear hq'
   obtain ⟨h3,hq'⟩:=asrts_wp hq;clear hq;have hq:=hq';clear hq'
   rw [q_eq_t] at h3
   subst h3
   have hq:Q (.exit 0,[.ptr 14 0,outV 15 (fitL m0 m1 12),.int .i64 13],outB (boxD ng lg s e g [m0,m1] da a b c) (fitL m0 m1 12)):=hq
   refine lvOK T9_ok rfl rfl lok_none (ι:={i:Nat // i≤12}) (fun x=>[.ptr 14 0,outV 15 (fitL m0 m1 x.1),.int .i64 ((x.1:Int)+1)]) (fun x=>outB (boxD ng lg s e g [m0,m1] da a b c) (fitL m0 m1 x.1)) (fun x=>12-x.1) 1 (fun x=>by cases h:fitL m0 m1 x.1<;>exact Nat.succ_le_succ (Nat.zero_le _)) (fun x J=>?_) (Nat.le_refl _) (fun J=>Wk.refl ⟨⟨0,Nat.zero_le _⟩,J,rfl⟩) J
   obtain ⟨i,hi⟩:=x
   dsimp only
   have hlen:=fitL_len m0 m1 i
   have hs:=fitL_succ m0 m1 i
   have blow:LowO (14+1) (boxD ng lg s e g [m0,m1] da a b c):=low_plain (by simp [idsL,idsA])
   have blow2:∀z∈[boxD ng lg s e g [m0,m1] da a b c],LowO (14+1) z:=fun z hz=>by
    simp only [List.mem_singleton] at hz;subst hz;exact blow
   have fin:i=12->∃vs2 o2,VW cfg (Cw cfg []) 1 29 [1,3,4] [.ptr 14 0,outV 15 (fitL m0 m1 i),.int .i64 ((i:Int)+1)] (outB (boxD ng lg s e g [m0,m1] da a b c) (fitL m0 m1 i)) vs2 o2/\Q (.exit 0,vs2,o2):=fun h=>by
    subst h
    exact ⟨_,_,VW.of_eq rfl rfl,hq⟩
   have bi:∀b:Bool,bI b=1↔b=true:=fun b=>by cases b<;>decide
   by_cases hL:fitL m0 m1 i=[]
   · rw [hL] at hs fin ⊢
     refine wp_gen fun Q' hQ=>askA_wp ((r187a ng lg s e g m0 m1 da a b c ((i:Int)+1) J).mpr ?_)
     dsimp only
     cases ha:agr [m0,m1] ((i:Int)+1) with
     | true=>
       rw [ha] at hs
       have next:i<12->∃y:{i:Nat // i≤12},12-y.1<12-i/\VW cfg (Cw cfg []) 1 29 [1,3,4] [.ptr 14 0,.slice 16 0 1 (.rest 0),.int .i64 ((i:Int)+1+1)] ⟨3,[.cells [.int .i64 ((i:Int)+1)] true (some 1),.cells [.int .i64 ((i:Int)+1)] true none,boxD ng lg s e g [m0,m1] da a b c],[]⟩ [.ptr 14 0,outV 15 (fitL m0 m1 y.1),.int .i64 ((y.1:Int)+1)] (outB (boxD ng lg s e g [m0,m1] da a b c) (fitL m0 m1 y.1)):=fun h=>by
        refine ⟨⟨i+1,by omega⟩,by dsimp only;omega,?_⟩
        dsimp only
        rw [hs]
        exact vw_lastN (x:=.cells [.int .i64 ((i:Int)+1)] true (some 1)) (mid:=[.cells [.int .i64 ((i:Int)+1)] true none]) (B:=[boxD ng lg s e g [m0,m1] da a b c]) rfl rfl rfl blow2 (low_plain rfl) rfl
       clear hs hq
       simp only [q_all,reduceCtorEq,loK,hiK,ne_eq]
       (repeat' first|exact trivial|refine ⟨?_,?_⟩|intro)<;>first|contradiction|omega|assumption|exact hQ _ (fin (by omega))|exact hQ _ (next (by omega))|skip
     | false=>
       rw [ha] at hs
       have next:i<12->∃y:{i:Nat // i≤12},12-y.1<12-i/\VW cfg (Cw cfg []) 1 29 [1,3,4] [.ptr 14 0,.nilslice,.int .i64 ((i:Int)+1+1)] ⟨1,[boxD ng lg s e g [m0,m1] da a b c],[]⟩ [.ptr 14 0,outV 15 (fitL m0 m1 y.1),.int .i64 ((y.1:Int)+1)] (outB (boxD ng lg s e g [m0,m1] da a b c) (fitL m0 m1 y.1)):=fun h=>by
        refine ⟨⟨i+1,by omega⟩,by dsimp only;omega,?_⟩
        dsimp only
        rw [hs]
        exact VW.refl
       clear hs hq
       simp only [q_all,reduceCtorEq,loK,hiK,ne_eq]
       (repeat' first|exact trivial|refine ⟨?_,?_⟩|intro)<;>first|contradiction|omega|assumption|exact hQ _ (fin (by omega))|exact hQ _ (next (by omega))|skip
   · rw [outV_len hL,outB_len hL] at fin ⊢
     refine wp_gen fun Q' hQ=>askA_wp ((r187b ng lg s e g m0 m1 da a b c ((i:Int)+1) J ((fitL m0 m1 i).map (AV.int .i64)) (fitL m0 m1 i).length).mpr ?_)
     dsimp only
     have aX:∀n:Nat,Nat.beq n (n*1)=true:=fun n=>by rw [Nat.mul_one];exact beqT rfl
     have hcl:((fitL m0 m1 i).map (AV.int .i64)).length=(fitL m0 m1 i).length:=List.length_map _
     cases ha:agr [m0,m1] ((i:Int)+1) with
     | true=>
       rw [ha] at hs
       have he:fitL m0 m1 (i+1)=fitL m0 m1 i++[(i:Int)+1]:=hs
       have hne:fitL m0 m1 (i+1)≠[]:=by rw [he];simp
       have next:i<12->∃y:{i:Nat // i≤12},12-y.1<12-i/\VW cfg (Cw cfg []) 1 29 [1,3,4] [.ptr 14 0,.slice 17 0 ((fitL m0 m1 i).length+1) (.rest 0),.int .i64 ((i:Int)+1+1)] ⟨4,[.cells ((fitL m0 m1 i).map (AV.int .i64)++[.int .i64 ((i:Int)+1)]) true (some 1),.cells [.int .i64 ((i:Int)+1)] true none,.dead,boxD ng lg s e g [m0,m1] da a b c],[]⟩ [.ptr 14 0,outV 15 (fitL m0 m1 y.1),.int .i64 ((y.1:Int)+1)] (outB (boxD ng lg s e g [m0,m1] da a b c) (fitL m0 m1 y.1)):=fun h=>by
        refine ⟨⟨i+1,by omega⟩,by dsimp only;omega,?_⟩
        dsimp only
        rw [outV_len hne,outB_len hne,he,List.map_append,List.length_append]
        refine vw_lastN (x:=.cells ((fitL m0 m1 i).map (AV.int .i64)++[.int .i64 ((i:Int)+1)]) true (some 1)) (mid:=[.cells [.int .i64 ((i:Int)+1)] true none,.dead]) (B:=[boxD ng lg s e g [m0,m1] da a b c]) (k:=2) (kb:=1) rfl rfl rfl blow2 ?_ ?_
        · have:=@low_ints (fitL m0 m1 i++[(i:Int)+1]) true (some 1) 15
          rwa [List.map_append] at this
        · rfl
       clear hs hq he hne
       generalize (fitL m0 m1 i).map (AV.int .i64)=cs at *
       generalize (fitL m0 m1 i).length=n at *
       simp only [q_all,reduceCtorEq,loK,hiK,ne_eq]
       try simp only [aX,Bool.and_true,Bool.true_and,q_beq_t,q_beq_f,q_ble_t]
       (repeat' first|exact trivial|refine ⟨?_,?_⟩|intro)<;>first|contradiction|omega|assumption|exact hQ _ (fin (by omega))|exact hQ _ (next (by omega))|(exfalso;simp_all;done)|(exfalso;simp_all;omega)
     | false=>
       rw [ha] at hs
       have he:fitL m0 m1 (i+1)=fitL m0 m1 i:=by rw [hs];simp
       have next:i<12->∃y:{i:Nat // i≤12},12-y.1<12-i/\VW cfg (Cw cfg []) 1 29 [1,3,4] [.ptr 14 0,.slice 15 0 (fitL m0 m1 i).length (.rest 0),.int .i64 ((i:Int)+1+1)] ⟨2,[.cells ((fitL m0 m1 i).map (AV.int .i64)) true (some 1),boxD ng lg s e g [m0,m1] da a b c],[]⟩ [.ptr 14 0,outV 15 (fitL m0 m1 y.1),.int .i64 ((y.1:Int)+1)] (outB (boxD ng lg s e g [m0,m1] da a b c) (fitL m0 m1 y.1)):=fun h=>by
        refine ⟨⟨i+1,by omega⟩,by dsimp only;omega,?_⟩
        dsimp only
        rw [he,outV_len hL,outB_len hL]
        exact VW.refl
       clear hs hq he
       generalize (fitL m0 m1 i).map (AV.int .i64)=cs at *
       generalize (fitL m0 m1 i).length=n at *
       simp only [q_all,reduceCtorEq,loK,hiK,ne_eq]
       try simp only [aX,Bool.and_true,Bool.true_and,q_beq_t,q_beq_f,q_ble_t]
       (repeat' first|exact trivial|refine ⟨?_,?_⟩|intro)<;>first|contradiction|omega|assumption|exact hQ _ (fin (by omega))|exact hQ _ (next (by omega))|(exfalso;simp_all;done)|(exfalso;simp_all;omega)
 · cases hv
theorem f187 {ng lg:Bool} {s:List UInt8} {e g:Int} {m0 m1:UInt8} {da:List UInt8} {a b c:Int} (h0:mBy m0=true) (h1:mBy m1=true) (hse:seasR [m0,m1]=0) (hL:fitL m0 m1 12≠[]) :
 FactW Tryz.prog cfg 187 [.agg [.bool ng,.bool lg,.str s,.int .i64 e,.int .i64 g,.str [m0,m1],.str da,.int .u8 a,.int .u8 b,.int .u8 c]] [] (.slice 14 0 (lenN (fitL m0 m1 12)) (.rest 0)) [.cells (celL (fitL m0 m1 12)) true (some 1)]:=by
 refine fwOK T9_ok (L:=L187) body187 (by simp) (lok_at loops187 fun i hi e he st Q hw=>?_) (wp_gen fun Q' hQ=>askA_wp ((b187 ng lg s e g m0 m1 da a b c).mpr ?_))
 · have hi:i=0:=by simp at hi;omega
   subst hi
   cases he
   exact loopE_ok (base0.good T9_ok) (by decide) rfl lv187 hw
 · rw [outV_len hL,outB_len hL]
   have fin:=hQ (_,_) (EndW.last (v:=.slice 14 0 (lenN (fitL m0 m1 12)) (.rest 0)) (v':=.slice 15 0 (lenN (fitL m0 m1 12)) (.rest 0)) (x:=.cells (celL (fitL m0 m1 12)) true (some 1)) (rest:=[boxD ng lg s e g [m0,m1] da a b c]) (k:=1) (n:=2) rfl rfl low_ints rfl)
   have fin:Q' (.slice 15 0 (fitL m0 m1 12).length (.rest 0),⟨2,[.cells ((fitL m0 m1 12).map (AV.int .i64)) true (some 1),boxD ng lg s e g [m0,m1] da a b c],[]⟩):=fin
   clear hQ
   generalize (fitL m0 m1 12).map (AV.int .i64)=cs at *
   generalize (fitL m0 m1 12).length=n at *
   generalize fitL m0 m1 12=M at *
   generalize seasR [m0,m1]=sr at *
   simp only [q_all,reduceCtorEq,loK,hiK,ne_eq]
   (repeat' first|exact trivial|refine ⟨?_,?_⟩|intro)<;>first|contradiction|omega|assumption
theorem add187 {S:Sums} (hS:SumsOK Tryz.prog cfg S):SumsOK Tryz.prog cfg (addG S 187 (winS 14 [] w187)):=by
 refine sums_addG hS (win_ok good0.lv ro0 fun args ws t r he hr=>?_)
 unfold w187 at he
 split at he
 · cases he
   obtain ⟨h1,hr'⟩:=asrts_run hr;clear hr;have hr:=hr';clear hr'
   obtain ⟨h2,hr'⟩:=asrts_run hr;clear hr;have hr:=hr';clear hr'
   obtain ⟨h3,hr'⟩:=asrts_run hr;clear hr;have hr:=hr';clear hr'
   obtain ⟨h4,hr'⟩:=asrts_run hr;clear hr;have hr:=hr';clear hr'
   rw [q_eq_t] at h3
   cases hr
   refine ⟨f187 h1 h2 h3 fun hn=>?_,fun x hx=>?_⟩
   · rw [hn] at h4;cases h4
   · simp only [List.mem_singleton] at hx
     subst hx
     exact low_ints
 · cases he
theorem add188 {S:Sums} (hS:SumsOK Tryz.prog cfg S):SumsOK Tryz.prog cfg (addP S 188 s188):=sums_addP hS fun args t v he hv=>by
 unfold s188 at he
 split at he
 · cases he
   obtain ⟨h1,hv⟩:=asrts_run hv
   rw [q_inR_t] at h1
   cases hv
   exact f188 h1
 · cases he
end Go.Ev
