import Derived.Test.YtafekjglclnegaaGreatDoorP24
set_option linter.all false
set_option maxRecDepth 100000
set_option maxHeartbeats 4000000
namespace Go.Ev
open Go Go.Proofs Go.Proofs.YtafekjglclnegaaGreatDoor
def valR (ng:Bool) (s:List UInt8) (e:Int):Int:=bif ng then -(magV s e.toNat:Int) else magV s e.toNat
def s154:Sum:=fun args=>match args with
 | [.agg [.bool ng,.bool lg,.str s,.int .i64 e,.int .i64 g]]=>some (asrts [Nat.ble s.length 1000] (.test (okY14 ng lg s e g&&Nat.beq (hasN s 88 88) 0) fun b=>bif b then .ret (.tuple [.int .i64 (valR ng s e),.int .i64 0]) else .ret (.tuple [.int .i64 0,.int .i64 6])))
 | _=>none
theorem b154 (ng lg:Bool) (s:List UInt8) (e g:Int) {Q:AV->Prop}:askA Q (pT Y5s noL 154 [.agg [.bool ng,.bool lg,.str s,.int .i64 e,.int .i64 g]]) (dtN 10231111111040111440444444005143020542005)=((fun (u3:AV) (u1 u2 u4:Bool) (u5:Int) (u0:Nat)=>(fun (u8:Bool) (u9:Int) (u6 u7 ua:Prop)=>Nat.ble u0 1000=true/\(u6->u6/\u1=false/\(u2=true->u7)/\(u2=false->(digL s=true->(natLt 0 u0=true->(u8=true->(intLe 0 e=true->(intLe e 16=true->(u4=true->(ng=true->(inR .i64 u9=true->Q (AV.tuple [AV.int .i64 u9,u3]))/\(inR .i64 u9=false->Q (AV.tuple [AV.int .i64 (IntKind.wrap .i64 u9),u3])))/\(ng=false->Q (AV.tuple [AV.int .i64 u5,u3])))/\(u4=false->(ng=true->u7)/\(ng=false->u7)))/\(intLe e 16=false->False))/\(intLe 0 e=false->False))/\(u8=false->False))/\(natLt 0 u0=false->False))/\(digL s=false->False)))/\(ua->ua/\u1=true/\u7)) (Nat.ble u0 18) (Int.sub 0 u5) (not u1=true) (Q (AV.tuple [u3,AV.int .i64 6])) (not u1=false)) (AV.int .i64 0) (not (intEq (cond (okY14 ng lg s e g) 0 6) 0)) (not (Nat.beq (hasN s 88 88) 0)) (magOk s (Int.toNat e)) (Int.ofNat (magV s (Int.toNat e))) (List.length s)):=by kernel_rfl
theorem body154:bodyOf tab 154=some (fnOf 154,codeOf 154):=by kernel_rfl
theorem mskL_t {s:List UInt8}:(mskL s=true)=(hasN s 48 57+hasN s 88 88=s.length):=by unfold mskL;rw [q_beq_t]
theorem mskL_f {s:List UInt8}:(mskL s=false)=(hasN s 48 57+hasN s 88 88≠s.length):=by unfold mskL;rw [q_beq_f]
theorem trim_z {s:List UInt8}:bytesEq (trimR s) []=Nat.beq (hasN s 48 48) s.length:=by
 rw [bytesEq_beq,Bool.eq_iff_iff,beq_iff_eq,q_beq_t,←zerN,←trim_zer,List.isEmpty_iff];rfl
theorem has_sum (s:List UInt8):hasN s 48 57+hasN s 88 88≤s.length:=by
 induction s with
 | nil=>simp [hasN]
 | cons c s ih=>rw [hasN_cons,hasN_cons,List.length_cons];(repeat' split)<;>omega
theorem longR_has {s:List UInt8} {e:Int}:longR s e=true↔1≤s.length/\s.length≤17/\hasN s 48 57=s.length/\(s.getD 0 0).toNat≠48/\0≤e/\e≤16/\¬(e=0/\s.length<5)/\magOk s e.toNat=true:=by rw [longR_iff,digN]
theorem Y5s_ok:SumsOK Tryz.prog cfg Y5s:=by
 refine sums_addP Y4s_ok fun args t v he hv=>?_
 unfold s143 at he
 split at he
 · rename_i ng lg s e g
   cases he
   obtain ⟨h1,hv⟩:=asrts_run hv
   rw [q_ble_t] at h1
   cases hv
   refine fpOK Y4s_ok (L:=noL) body143 (by simp) lok_none (wp_gen fun Q' hQ=>askA_wp ((b143 ng lg s e g).mpr ?_)) (by simp [idsA])
   have yes:okY14 ng lg s e g=true->Q' (.int .i64 0):=fun h=>hQ _ (by rw [h];rfl)
   have no:¬okY14 ng lg s e g=true->Q' (.int .i64 6):=fun h=>hQ _ (by rw [Bool.not_eq_true] at h;rw [h];rfl)
   unfold okY14 at yes no
   rw [decide_eq_true_eq] at yes no
   have hs:=has_sum s
   have li:=@longR_has s e
   clear hQ
   rw [trim_z]
   generalize longR s e=lr at *
   generalize magOk s e.toNat=mk at *
   generalize (s.getD 0 0).toNat=c0 at *
   simp only [q_all,mskL_t,mskL_f,reduceCtorEq,loK,hiK,ne_eq] at yes no ⊢
   generalize hasN s 48 57=a at *
   generalize hasN s 88 88=x at *
   generalize hasN s 48 48=z at *
   generalize s.length=n at *
   (repeat' first|exact trivial|refine ⟨?_,?_⟩|intro)<;>first|omega|assumption|(apply yes;grind)|(apply no;grind)|grind
 · cases he
theorem okY_num {ng lg:Bool} {s:List UInt8} {e g:Int} (h:okY14 ng lg s e g=true) (hx:hasN s 88 88=0):(0≤e/\e≤16)/\(1≤s.length/\s.length≤17)/\digL s=true/\magOk s e.toNat=true/\magV s e.toNat≤10000000000000000:=by
 unfold okY14 at h
 rw [decide_eq_true_eq] at h
 have hd:digL s=true:=digL_of (by omega)
 have hm:magOk s e.toNat=true:=by
  rcases h with ⟨k1,k2,⟨l1,l2,l3,l4⟩|⟨l1,l2,l3,l4,l5,l6,l7,l8,l9,l10⟩⟩
  · have nb:Go.Ev.numL s<10^s.length:=by
     have:=Go.Proofs.YtafekjglclnegaaGreatDoor.numL_lt s (by rw [digB_eq];exact hd)
     rwa [numL_eq] at this
    have:(10:Nat)^4=10000:=by decide
    rw [l2] at nb
    unfold magOk
    rw [q_ble_t,magV,l3]
    simp only [Int.toNat_zero,Nat.pow_zero,Nat.mul_one]
    omega
  · exact l10
 exact ⟨by omega,by omega,hd,hm,by unfold magOk at hm;rwa [q_ble_t] at hm⟩
theorem add154 {S:Sums} (hS:SumsOK Tryz.prog cfg S):SumsOK Tryz.prog cfg (addP S 154 s154):=by
 refine sums_addP hS fun args t v he hv=>?_
 unfold s154 at he
 split at he
 · rename_i ng lg s e g
   cases he
   obtain ⟨h1,hv⟩:=asrts_run hv
   rw [q_ble_t] at h1
   have hv':Tr.run (bif okY14 ng lg s e g&&Nat.beq (hasN s 88 88) 0 then .ret (.tuple [.int .i64 (valR ng s e),.int .i64 0]) else .ret (.tuple [.int .i64 0,.int .i64 6]))=some v:=hv
   have ids:idsA v=[]:=by
    cases hb:okY14 ng lg s e g&&Nat.beq (hasN s 88 88) 0<;>rw [hb] at hv'<;>cases hv'<;>simp [idsA,idsL]
   refine fpOK Y5s_ok (L:=noL) body154 (by simp) lok_none (wp_gen fun Q' hQ=>askA_wp ((b154 ng lg s e g).mpr ?_)) ids
   dsimp only
   have no:(okY14 ng lg s e g&&Nat.beq (hasN s 88 88) 0)=false->Q' (.tuple [.int .i64 0,.int .i64 6]):=fun h=>by
    rw [h] at hv';cases hv';exact hQ _ rfl
   have yes:(okY14 ng lg s e g&&Nat.beq (hasN s 88 88) 0)=true->Q' (.tuple [.int .i64 (valR ng s e),.int .i64 0]):=fun h=>by
    rw [h] at hv';cases hv';exact hQ _ rfl
   clear hQ hv hv' ids
   cases ho:okY14 ng lg s e g with
   | false=>
     rw [ho] at no
     have no:=no rfl
     clear yes
     simp only [cond_false,q_all,reduceCtorEq,loK,hiK,ne_eq]
     (repeat' first|exact trivial|refine ⟨?_,?_⟩|intro)<;>first|omega|exact no
   | true=>
     rw [ho] at no yes
     by_cases hx:hasN s 88 88=0
     · obtain ⟨k1,k2,k3,k4,k5⟩:=okY_num ho hx
       have yes:=yes (by rw [hx];rfl)
       have ev:valR ng s e=if ng=true then -(magV s e.toNat:Int) else (magV s e.toNat:Int):=by unfold valR;cases ng<;>rfl
       rw [ev] at yes
       rw [k3,k4]
       clear no ev
       generalize magV s e.toNat=mv at *
       cases ng<;>simp only [cond_true,q_all,reduceCtorEq,loK,hiK,ne_eq,if_true,Bool.false_eq_true,if_false] at yes ⊢<;>(repeat' first|exact trivial|refine ⟨?_,?_⟩|intro)<;>first|omega|exact yes|(rw [Int.zero_sub];exact yes)|(exfalso;omega)
     · have no:=no (by rw [q_beq_f.mpr hx];rfl)
       clear yes
       simp only [cond_true,q_all,reduceCtorEq,loK,hiK,ne_eq]
       (repeat' first|exact trivial|refine ⟨?_,?_⟩|intro)<;>first|omega|exact no
 · cases he
def v174:LoopV:=fun vs o=>match vs,o with
 | [.str [c0,c1],.int .i64 g,.int .i64 n,.bool r],⟨0,[],[]⟩=>some (asrts [intEq n 1,boolEq r false,intLe 0 g,intLe g 99] (.test (someA [c0,c1] g.toNat) fun b=>bif b then .all fun J=>.ret (.ret,[.str [c0,c1],.int .i64 g,.any (J 0),.bool true],own0) else .ret (.exit 0,[.str [c0,c1],.int .i64 g,.int .i64 (Int.add g 1),.bool false],own0)))
 | _,_=>none
def L174:Loops:=addL noL 0 (loopE 46 [0,1,5,4] v174)
def s174:Sum:=fun args=>match args with
 | [.str s,.int .i64 g]=>some (asrts [intLe 0 g,intLe g 99] (.ret (.bool (someA s g.toNat))))
 | _=>none
def s176:Sum:=fun args=>match args with
 | [.agg [.bool ng,.bool lg,.str s,.int .i64 e,.int .i64 g,.str mo,.str da,.int .u8 a,.int .u8 b,.int .u8 c]]=>some (.ret (.int .i64 (compsR mo da)))
 | _=>none
def s175:Sum:=fun args=>match args with
 | [.agg [.int .u8 a,.int .u8 b,.int .u8 c],.int .i64 n]=>some (asrts [inR .u8 a,inR .u8 b,inR .u8 c,intLe 1 n,intLe n 3] (.ret (.int .i64 (errMk a b c n))))
 | _=>none
def D1s:Sums:=addP (addP (addP Y5s 174 s174) 176 s176) 175 s175
theorem r174 (c0 c1:UInt8) (g n:Int) (J:Nat->Value) {Q:VQ->Prop}:askA Q (rT Y5s noL [] 174 0 46 [0,1,5,4] [.str [c0,c1],.int .i64 g,.int .i64 n,.bool false] J own0) (dtN 110020381214030202002002400523812033058107381214232202002002422002432020020024000220704)=((fun (u4 u5 u6:AV) (u0 u1 u2 u3:Int)=>(fun (u8 u9:Bool) (u7:Int)=>(fun (ua ub uc ud ue uf ug uh:Prop)=>(fun (ui:Prop)=>(intLe n g=true->inR .i64 u0=true/\inR .u8 u0=true/\inR .u8 u7=true/\inR .u8 (Int.tmod n 10)=true/\inR .u8 u1=true/\(ua->ua/\ua/\ua/\ua/\u8=false/\(ub->ub/\ub/\ub/\(uc->uc/\uc/\uc/\uc/\ub/\u9=false/\ub/\ui)/\(uf->uf/\uf/\uf/\uf/\ub/\u9=true/\ub/\ud))/\(ug->ug/\ug/\ug/\ug/\ug/\ue))/\(uh->uh/\uh/\uh/\uh/\u8=true/\(uc->uc/\uc/\uc/\uc/\u9=false/\ui)/\(uf->uf/\uf/\uf/\uf/\u9=true/\ud)))/\(intLe n g=false->Q (AX.exit 0,([u4,u5,AV.int .i64 n,u6],{ n:=0,os:=[],le:=[] })))) ((intEq u3 u1=true->ud)/\(intEq u3 u1=false->ue))) (not u8=true) (intEq u2 u7=true) (not u9=true) (Q (AX.ret,([u4,u5,AV.int .i64 n,AV.bool true],{ n:=1,os:=[AObj.cells [AV.int .u8 u7,AV.int .u8 u1] true Option.none],le:=[] }))) (inR .i64 (Int.add n 1)=true/\Q (AX.normal,([u4,u5,AV.int .i64 (Int.add n 1),u6],{ n:=1,os:=[AObj.cells [AV.int .u8 u7,AV.int .u8 u1] true Option.none],le:=[] }))) (not u9=false) (intEq u2 u7=false) (not u8=false)) (intEq u2 88) (intEq u3 88) (Int.add 48 u0)) (AV.str [c0,c1]) (AV.int .i64 g) (AV.bool false) (Int.tdiv n 10) (Int.add 48 (Int.tmod n 10)) (Int.ofNat (UInt8.toNat c0)) (Int.ofNat (UInt8.toNat c1))):=by kernel_rfl
theorem b174a (c0 c1:UInt8) (g:Int) {Q:AV->Prop}:askA Q (pT Y5s L174 174 [.str [c0,c1],.int .i64 g]) (dtN 11422000)=((fun (u0:Bool)=>intLe 0 g=true/\intLe g 99=true/\(u0=true->(∀J1:Nat->Value,∀J2:Nat->Value,Q (AV.bool true)))/\(u0=false->(∀J1:Nat->Value,Q (AV.bool false)))) (someA [c0,c1] (Int.toNat g))):=by kernel_rfl
theorem b174b (s:List UInt8) (g:Int) {Q:AV->Prop}:askA Q (pT Y5s L174 174 [.str s,.int .i64 g]) (.t .z)=(not (intEq (Int.ofNat (List.length s)) 2)=true/\Q (AV.bool false)):=by kernel_rfl
theorem b175 (a b c n:Int) {Q:AV->Prop}:askA Q (pT Y5s noL 175 [.agg [.int .u8 a,.int .u8 b,.int .u8 c],.int .i64 n]) (dtN 1530310014020245164000530310014020225164051402024516400053033516400053322)=((fun (u0 u1 u4 u6 u7 ua:Bool) (u2 u3 u5 u9 ub uc ud:Prop)=>(fun (ue uf ug:Prop)=>ue/\ue/\u0=false/\not (intLe n 3)=false/\(u1=true->u2)/\(u1=false->u3/\u3/\u3/\(u4=true->u2)/\(u4=false->(u5->u5/\u5/\(u6=true->u2)/\(u6=false->uf/\(u7=false->u9/\ug)))/\(uc->uc/\uc/\uf/\(u7=false->(u9->ug)/\(ud->ud/\ud/\ub)))))) (not u0=true) (u7=true->u2) (u9/\u9/\(ua=true->u2)/\(ua=false->ub))) (not (intLe 1 n)) (not (intLe a 3)) (not (intLe b 3)) (not (intEq b 0)) (not (intLe c 3)) (not (intEq c 0)) (Q (AV.int .i64 9)) (intLe n 0=false) (intLe n 1=true) (intLe n 2=true) (Q (AV.int .i64 0)) (intLe n 1=false) (intLe n 2=false)):=by kernel_rfl
theorem b176 (ng lg:Bool) (s:List UInt8) (e g:Int) (mo da:List UInt8) (a b c:Int) {Q:AV->Prop}:askA Q (pT Y5s noL 176 [.agg [.bool ng,.bool lg,.str s,.int .i64 e,.int .i64 g,.str mo,.str da,.int .u8 a,.int .u8 b,.int .u8 c]]) (dtN 1001000405100100040054005)=((fun (u0 u1:Bool) (u2:Prop)=>(u0=true->(u1=true->Q (AV.int .i64 3))/\(u1=false->u2))/\(u0=false->(u1=true->u2)/\(u1=false->Q (AV.int .i64 1)))) (not (bytesEq mo [])) (not (bytesEq da [])) (Q (AV.int .i64 2))):=by kernel_rfl
theorem body174:bodyOf tab 174=some (fnOf 174,codeOf 174):=by kernel_rfl
theorem body175:bodyOf tab 175=some (fnOf 175,codeOf 175):=by kernel_rfl
theorem body176:bodyOf tab 176=some (fnOf 176,codeOf 176):=by kernel_rfl
theorem loops174:(loopsOf (codeOf 174)).map (·.1)=[0]:=by kernel_rfl
theorem vwT {C:Ctx} {kb tn:Nat} {rel:List Nat} {vs vs' vs'':List AV} {o o' o'':Own} (h1:VW cfg C kb tn rel vs o vs' o') (h2:VW cfg C kb tn rel vs' o' vs'' o''):VW cfg C kb tn rel vs o vs'' o'':=fun J=>(h1 J).trans fun s ⟨J',e⟩=>by rw [e];exact h2 J'
theorem vwD {tn:Nat} {rel:List Nat} {vs vs':List AV} {o:Own} (hle:o.le=[]) (hvs:mvL (mvA 14 [] 20) vs=some vs'):VW cfg (Cw cfg []) 0 tn rel vs o vs' own0:=
 VW.move good0.lv (C:=Cw cfg []) (kb:=0) (sel:=[]) lowC0 (Nat.zero_le _) (fun s hs=>by cases hs) List.nodup_nil (fun p hp=>by rw [hle] at hp;cases hp) hle.symm rfl rfl (fun i hi=>absurd hi (Nat.not_lt_zero i)) (fun t ht=>absurd ht (Nat.not_lt_zero t)) hvs
theorem agr2_iff {c0 c1:UInt8} {n:Int}:agr [c0,c1] n=true↔(c0.toNat=88∨(c0.toNat:Int)=48+n/10)/\(c1.toNat=88∨(c1.toNat:Int)=48+n%10):=by
 unfold agr
 rw [Bool.and_eq_true,Bool.and_eq_true,decide_eq_true_eq,agB_iff,agB_iff]
 exact ⟨fun h=>h.2,fun h=>⟨rfl,h⟩⟩
theorem lv174:LoopVOK Tryz.prog (cfgS cfg Y5s) (Cw cfg []) (lb 174 0) 46 [0,1,5,4] v174:=by
 intro vs o t Q hv hq J
 unfold v174 at hv
 split at hv
 · rename_i c0 c1 g n r
   cases hv
   obtain ⟨h1,hq1⟩:=asrts_wp hq
   obtain ⟨h2,hq2⟩:=asrts_wp hq1
   obtain ⟨h3,hq3⟩:=asrts_wp hq2
   obtain ⟨h4,hq4⟩:=asrts_wp hq3
   clear hq hq1 hq2 hq3
   rw [q_eq_t] at h1
   rw [q_bf_t] at h2
   rw [q_le_t] at h3 h4
   subst h1 h2
   have hq:Tr.wp Q (bif someA [c0,c1] g.toNat then .all fun J=>.ret (.ret,[.str [c0,c1],.int .i64 g,.any (J 0),.bool true],own0) else .ret (.exit 0,[.str [c0,c1],.int .i64 g,.int .i64 (g+1),.bool false],own0)):=hq4
   refine lvOK Y5s_ok rfl rfl lok_none (ι:={i:Nat // i≤g.toNat/\∀k,k<i->agr [c0,c1] ((k:Int)+1)=false}) (fun x=>[.str [c0,c1],.int .i64 g,.int .i64 ((x.1:Int)+1),.bool false]) (fun _=>own0) (fun x=>g.toNat-x.1) 0 (fun _=>Nat.le_refl _) (fun x J=>?_) (Nat.le_refl _) (fun J=>Wk.refl ⟨⟨0,Nat.zero_le _,fun k hk=>absurd hk (Nat.not_lt_zero k)⟩,J,rfl⟩) J
   obtain ⟨i,hi,hp⟩:=x
   dsimp only
   refine wp_gen fun Q' hQ=>askA_wp ((r174 c0 c1 g ((i:Int)+1) J).mpr ?_)
   dsimp only
   have t1:((i:Int)+1).tdiv 10=((i:Int)+1)/10:=Int.tdiv_eq_ediv_of_nonneg (by omega)
   have t2:((i:Int)+1).tmod 10=((i:Int)+1)%10:=Int.tmod_eq_emod_of_nonneg (by omega)
   have yes:i<g.toNat->agr [c0,c1] ((i:Int)+1)=true->Q' (.ret,[.str [c0,c1],.int .i64 g,.int .i64 ((i:Int)+1),.bool true],⟨1,[.cells [.int .u8 (48+((i:Int)+1)/10),.int .u8 (48+((i:Int)+1)%10)] true none],[]⟩):=fun h ha=>by
    rw [someA_t h ha,cond_true] at hq
    exact hQ (.ret,_,_) ⟨_,_,vwT (vwD rfl rfl) (VW.any (.same (.same (.int (.same .nil)))) rfl),hq (jv [_])⟩
   have no:i<g.toNat->¬agr [c0,c1] ((i:Int)+1)=true->Q' (.normal,[.str [c0,c1],.int .i64 g,.int .i64 ((i:Int)+1+1),.bool false],⟨1,[.cells [.int .u8 (48+((i:Int)+1)/10),.int .u8 (48+((i:Int)+1)%10)] true none],[]⟩):=fun h ha=>
    hQ (.normal,_,_) ⟨⟨i+1,by omega,fun k hk=>by
     rw [Bool.not_eq_true] at ha
     by_cases e:k=i
     · subst e;exact ha
     · exact hp k (by omega)⟩,by dsimp only;omega,vwD rfl rfl⟩
   have fin:¬i<g.toNat->Q' (.exit 0,[.str [c0,c1],.int .i64 g,.int .i64 ((i:Int)+1),.bool false],own0):=fun h=>by
    obtain rfl:i=g.toNat:=by omega
    rw [someA_f.2 hp,cond_false] at hq
    exact hQ (.exit 0,_,_) ⟨_,_,VW.of_eq (by rw [Int.toNat_of_nonneg h3]) rfl,hq⟩
   rw [agr2_iff] at yes no
   clear hQ hq hq4 hp
   rw [t1,t2]
   simp only [q_all,reduceCtorEq,loK,hiK,ne_eq]
   (repeat' first|exact trivial|refine ⟨?_,?_⟩|intro)<;>first|omega|exact fin (by omega)|exact yes (by omega) (by omega)|exact no (by omega) (by omega)
 · cases hv
theorem D1s_ok:SumsOK Tryz.prog cfg D1s:=by
 refine sums_addP (sums_addP (sums_addP Y5s_ok fun args t v he hv=>?_) fun args t v he hv=>?_) fun args t v he hv=>?_
 · unfold s174 at he
   split at he
   · rename_i s g
     cases he
     obtain ⟨h1,hv⟩:=asrts_run hv
     obtain ⟨h2,hv⟩:=asrts_run hv
     rw [q_le_t] at h1 h2
     cases hv
     by_cases hs:s.length=2
     · match s,hs with
       | [c0,c1],_=>
         refine fpOK Y5s_ok (L:=L174) body174 (by simp) (lok_at loops174 fun i hi e he st Q hw=>?_) (wp_gen fun Q' hQ=>askA_wp ((b174a c0 c1 g).mpr ?_)) (by simp [idsA])
         · have hi:i=0:=by simp at hi;omega
           subst hi
           cases he
           exact loopE_ok (base0.good Y5s_ok) (by decide) rfl lv174 hw
         · have fin:∀b:Bool,b=someA [c0,c1] g.toNat->Q' (.bool b):=fun b h=>hQ _ (by rw [h])
           clear hQ
           generalize someA [c0,c1] g.toNat=sa at *
           simp only [q_all,reduceCtorEq,loK,hiK,ne_eq]
           (repeat' first|exact trivial|refine ⟨?_,?_⟩|intro)<;>first|omega|(apply fin;symm;assumption)
     · refine fpOK Y5s_ok (L:=L174) body174 (by simp) (lok_at loops174 fun i hi e he st Q hw=>?_) (wp_gen fun Q' hQ=>askA_wp ((b174b s g).mpr ?_)) (by simp [idsA])
       · have hi:i=0:=by simp at hi;omega
         subst hi
         cases he
         exact loopE_ok (base0.good Y5s_ok) (by decide) rfl lv174 hw
       · have sn:someA s g.toNat=false:=someA_f.2 fun k hk=>by unfold agr;rw [decide_eq_false hs];rfl
         simp only [q_all,reduceCtorEq,loK,hiK,ne_eq]
         exact ⟨by omega,hQ _ (by rw [sn])⟩
   · cases he
 · unfold s176 at he
   split at he
   · rename_i ng lg s e g mo da a b c
     cases he
     cases hv
     refine fpOK Y5s_ok (L:=noL) body176 (by simp) lok_none (wp_gen fun Q' hQ=>askA_wp ((b176 ng lg s e g mo da a b c).mpr ?_)) (by simp [idsA])
     dsimp only
     unfold compsR at hQ
     generalize bytesEq mo []=p at *
     generalize bytesEq da []=q at *
     cases p<;>cases q<;>(repeat' first|exact trivial|refine ⟨?_,?_⟩|intro)<;>first|exact hQ _ rfl|(exfalso;simp_all;done)
   · cases he
 · unfold s175 at he
   split at he
   · rename_i a b c n
     cases he
     obtain ⟨h1,hv⟩:=asrts_run hv
     obtain ⟨h2,hv⟩:=asrts_run hv
     obtain ⟨h3,hv⟩:=asrts_run hv
     obtain ⟨h4,hv⟩:=asrts_run hv
     obtain ⟨h5,hv⟩:=asrts_run hv
     rw [q_inR_t] at h1 h2 h3
     simp only [loK,hiK] at h1 h2 h3
     rw [q_le_t] at h4 h5
     cases hv
     refine fpOK Y5s_ok (L:=noL) body175 (by simp) lok_none (wp_gen fun Q' hQ=>askA_wp ((b175 a b c n).mpr ?_)) (by simp [idsA])
     dsimp only
     have fin:∀v:Int,v=errMk a b c n->Q' (.int .i64 v):=fun v h=>hQ _ (by rw [h])
     clear hQ
     unfold errMk at fin
     simp only [q_all,reduceCtorEq,loK,hiK,ne_eq]
     (repeat' first|exact trivial|refine ⟨?_,?_⟩|intro)<;>first|omega|(apply fin;(repeat' split)<;>omega)
   · cases he
def lpR (y:Int):Int:=lp y
def ystR (y:Int):Int:=yst y
def bfrR (y:Int):Int:=before y
def flo (a b:Int):Int:=a/b
def moR (a b:Int):Int:=a%b
def s267:Sum:=fun args=>match args with
 | [.int .i64 a,.int .i64 b]=>some (asrts [inR .i64 a,intLe 2 b,intLe b 200000] (.ret (.tuple [.int .i64 (flo a b),.int .i64 0])))
 | _=>none
def s268:Sum:=fun args=>match args with
 | [.int .i64 a,.int .i64 b]=>some (asrts [inR .i64 a,intLe 2 b,intLe b 200000] (.ret (.tuple [.int .i64 (moR a b),.int .i64 0])))
 | _=>none
def XA1:Sums:=addP (addP nilS 267 s267) 268 s268
def okS2 (y:Int):Bool:=intLe (-20000000000000000) y&&intLe y 20000000000000000
def s321:Sum:=fun args=>match args with
 | [.int .i64 y]=>some (asrts [okS2 y] (.ret (.int .i64 (bfrR y))))
 | _=>none
def s271:Sum:=fun args=>match args with
 | [.int .i64 y]=>some (asrts [okS2 y] (.ret (.int .i64 (ystR y))))
 | _=>none
def XA2:Sums:=addP XA1 321 s321
def XA3:Sums:=addP XA2 271 s271
theorem b267 (a b:Int) {Q:AV->Prop}:askA Q (pT nilS noL 267 [.int .i64 a,.int .i64 b]) (dtN 1033811144227421033811144227424233)=((fun (u4:AV) (u2 u3:Bool) (u1:Int) (u0:Prop)=>(fun (u6 u9:Int) (u5 u7 u8 ua:Prop)=>intEq b 0=false/\intEq b (Neg.neg 1)=false/\u0/\(inR .i64 u1=true->u0/\(u5->u5/\u5/\u5/\u5/\u5/\(u3=true->(inR .i64 u6=true->Q (AV.tuple [AV.int .i64 u6,u4]))/\(inR .i64 u6=false->Q (AV.tuple [AV.int .i64 (IntKind.wrap .i64 u6),u4])))/\(u3=false->u7))/\(u8->u8/\u8/\u8/\u8/\u8/\u7))/\(inR .i64 u1=false->u0/\(u5->u5/\u5/\u5/\u5/\u5/\(u3=true->(inR .i64 u9=true->Q (AV.tuple [AV.int .i64 u9,u4]))/\(inR .i64 u9=false->Q (AV.tuple [AV.int .i64 (IntKind.wrap .i64 u9),u4])))/\(u3=false->ua))/\(u8->u8/\u8/\u8/\u8/\u8/\ua))) (Int.sub u1 1) (Int.sub (IntKind.wrap .i64 u1) 1) (u2=true) (Q (AV.tuple [AV.int .i64 u1,u4])) (u2=false) (Q (AV.tuple [AV.int .i64 (IntKind.wrap .i64 u1),u4]))) (AV.int .i64 0) (not (intEq (Int.tmod a b) 0)) (not (boolEq (not (intLe 0 a)) (not (intLe 0 b)))) (Int.tdiv a b) (not (intEq b 0)=true)):=by kernel_rfl
theorem b268 (a b:Int) {Q:AV->Prop}:askA Q (pT nilS noL 268 [.int .i64 a,.int .i64 b]) (dtN 10338111442274233)=((fun (u1:AV) (u0:Int)=>(fun (u2 u3:Bool) (u4:Int) (u5:Prop)=>(fun (u6 u7:Prop)=>intEq b 0=false/\intEq b (Neg.neg 1)=false/\not (intEq b 0)=true/\(u6->u6/\u6/\u6/\u6/\u6/\(u3=true->(inR .i64 u4=true->Q (AV.tuple [AV.int .i64 u4,u1]))/\(inR .i64 u4=false->Q (AV.tuple [AV.int .i64 (IntKind.wrap .i64 u4),u1])))/\(u3=false->u5))/\(u7->u7/\u7/\u7/\u7/\u7/\u5)) (u2=true) (u2=false)) (not (intEq u0 0)) (not (boolEq (not (intLe 0 u0)) (not (intLe 0 b)))) (Int.add u0 b) (Q (AV.tuple [AV.int .i64 u0,u1]))) (AV.int .i64 0) (Int.tmod a b)):=by kernel_rfl
theorem b321 (y:Int) {Q:AV->Prop}:askA Q (pT XA1 noL 321 [.int .i64 y]) (dtN 100100410010044000200200051001004100100440002002000541001004100100440002002000510010041001004400020020005440002002000510010041001004400020020005100100410010044000200200054100100410010044000200200051001004100100440002002000544000200200054100100410010044000200200051001004100100440002002000541001004100100440002002000510010041001004400020020005440002002000510010041001004400020020005100100410010044000200200054100100410010044000200200051001004100100440002002000544000200200054400020020005)=((fun (u0:Int)=>(fun (u2 u3 u4:Int) (u1:Prop)=>(fun (u5 ua:Int) (u6 u7 u8 u9:Prop)=>(fun (ub uc ud ue uf ug uh ui:Int)=>(fun (uj uk ul um un uo up uq ur us ut uu uv uw ux uy uz uA uB uC uD uE uF uG uH uI uJ uK uL uM uN uO:Int)=>u1/\u1/\(inR .i64 u2=true->(inR .i64 u5=true->u1/\u1/\(u6->(inR .i64 ub=true->u1/\u1/\(u7->(inR .i64 uj=true->Q (AV.int .i64 uj))/\(inR .i64 uj=false->Q (AV.int .i64 (IntKind.wrap .i64 uj))))/\(u8->(inR .i64 uk=true->Q (AV.int .i64 uk))/\(inR .i64 uk=false->Q (AV.int .i64 (IntKind.wrap .i64 uk)))))/\(inR .i64 ub=false->u1/\u1/\(u7->(inR .i64 ul=true->Q (AV.int .i64 ul))/\(inR .i64 ul=false->Q (AV.int .i64 (IntKind.wrap .i64 ul))))/\(u8->(inR .i64 um=true->Q (AV.int .i64 um))/\(inR .i64 um=false->Q (AV.int .i64 (IntKind.wrap .i64 um))))))/\(u9->(inR .i64 uc=true->u1/\u1/\(u7->(inR .i64 un=true->Q (AV.int .i64 un))/\(inR .i64 un=false->Q (AV.int .i64 (IntKind.wrap .i64 un))))/\(u8->(inR .i64 uo=true->Q (AV.int .i64 uo))/\(inR .i64 uo=false->Q (AV.int .i64 (IntKind.wrap .i64 uo)))))/\(inR .i64 uc=false->u1/\u1/\(u7->(inR .i64 up=true->Q (AV.int .i64 up))/\(inR .i64 up=false->Q (AV.int .i64 (IntKind.wrap .i64 up))))/\(u8->(inR .i64 uq=true->Q (AV.int .i64 uq))/\(inR .i64 uq=false->Q (AV.int .i64 (IntKind.wrap .i64 uq)))))))/\(inR .i64 u5=false->u1/\u1/\(u6->(inR .i64 ud=true->u1/\u1/\(u7->(inR .i64 ur=true->Q (AV.int .i64 ur))/\(inR .i64 ur=false->Q (AV.int .i64 (IntKind.wrap .i64 ur))))/\(u8->(inR .i64 us=true->Q (AV.int .i64 us))/\(inR .i64 us=false->Q (AV.int .i64 (IntKind.wrap .i64 us)))))/\(inR .i64 ud=false->u1/\u1/\(u7->(inR .i64 ut=true->Q (AV.int .i64 ut))/\(inR .i64 ut=false->Q (AV.int .i64 (IntKind.wrap .i64 ut))))/\(u8->(inR .i64 uu=true->Q (AV.int .i64 uu))/\(inR .i64 uu=false->Q (AV.int .i64 (IntKind.wrap .i64 uu))))))/\(u9->(inR .i64 ue=true->u1/\u1/\(u7->(inR .i64 uv=true->Q (AV.int .i64 uv))/\(inR .i64 uv=false->Q (AV.int .i64 (IntKind.wrap .i64 uv))))/\(u8->(inR .i64 uw=true->Q (AV.int .i64 uw))/\(inR .i64 uw=false->Q (AV.int .i64 (IntKind.wrap .i64 uw)))))/\(inR .i64 ue=false->u1/\u1/\(u7->(inR .i64 ux=true->Q (AV.int .i64 ux))/\(inR .i64 ux=false->Q (AV.int .i64 (IntKind.wrap .i64 ux))))/\(u8->(inR .i64 uy=true->Q (AV.int .i64 uy))/\(inR .i64 uy=false->Q (AV.int .i64 (IntKind.wrap .i64 uy))))))))/\(inR .i64 u2=false->(inR .i64 ua=true->u1/\u1/\(u6->(inR .i64 uf=true->u1/\u1/\(u7->(inR .i64 uz=true->Q (AV.int .i64 uz))/\(inR .i64 uz=false->Q (AV.int .i64 (IntKind.wrap .i64 uz))))/\(u8->(inR .i64 uA=true->Q (AV.int .i64 uA))/\(inR .i64 uA=false->Q (AV.int .i64 (IntKind.wrap .i64 uA)))))/\(inR .i64 uf=false->u1/\u1/\(u7->(inR .i64 uB=true->Q (AV.int .i64 uB))/\(inR .i64 uB=false->Q (AV.int .i64 (IntKind.wrap .i64 uB))))/\(u8->(inR .i64 uC=true->Q (AV.int .i64 uC))/\(inR .i64 uC=false->Q (AV.int .i64 (IntKind.wrap .i64 uC))))))/\(u9->(inR .i64 ug=true->u1/\u1/\(u7->(inR .i64 uD=true->Q (AV.int .i64 uD))/\(inR .i64 uD=false->Q (AV.int .i64 (IntKind.wrap .i64 uD))))/\(u8->(inR .i64 uE=true->Q (AV.int .i64 uE))/\(inR .i64 uE=false->Q (AV.int .i64 (IntKind.wrap .i64 uE)))))/\(inR .i64 ug=false->u1/\u1/\(u7->(inR .i64 uF=true->Q (AV.int .i64 uF))/\(inR .i64 uF=false->Q (AV.int .i64 (IntKind.wrap .i64 uF))))/\(u8->(inR .i64 uG=true->Q (AV.int .i64 uG))/\(inR .i64 uG=false->Q (AV.int .i64 (IntKind.wrap .i64 uG)))))))/\(inR .i64 ua=false->u1/\u1/\(u6->(inR .i64 uh=true->u1/\u1/\(u7->(inR .i64 uH=true->Q (AV.int .i64 uH))/\(inR .i64 uH=false->Q (AV.int .i64 (IntKind.wrap .i64 uH))))/\(u8->(inR .i64 uI=true->Q (AV.int .i64 uI))/\(inR .i64 uI=false->Q (AV.int .i64 (IntKind.wrap .i64 uI)))))/\(inR .i64 uh=false->u1/\u1/\(u7->(inR .i64 uJ=true->Q (AV.int .i64 uJ))/\(inR .i64 uJ=false->Q (AV.int .i64 (IntKind.wrap .i64 uJ))))/\(u8->(inR .i64 uK=true->Q (AV.int .i64 uK))/\(inR .i64 uK=false->Q (AV.int .i64 (IntKind.wrap .i64 uK))))))/\(u9->(inR .i64 ui=true->u1/\u1/\(u7->(inR .i64 uL=true->Q (AV.int .i64 uL))/\(inR .i64 uL=false->Q (AV.int .i64 (IntKind.wrap .i64 uL))))/\(u8->(inR .i64 uM=true->Q (AV.int .i64 uM))/\(inR .i64 uM=false->Q (AV.int .i64 (IntKind.wrap .i64 uM)))))/\(inR .i64 ui=false->u1/\u1/\(u7->(inR .i64 uN=true->Q (AV.int .i64 uN))/\(inR .i64 uN=false->Q (AV.int .i64 (IntKind.wrap .i64 uN))))/\(u8->(inR .i64 uO=true->Q (AV.int .i64 uO))/\(inR .i64 uO=false->Q (AV.int .i64 (IntKind.wrap .i64 uO))))))))) (Int.add ub u4) (Int.add ub (IntKind.wrap .i64 u4)) (Int.add (IntKind.wrap .i64 ub) u4) (Int.add (IntKind.wrap .i64 ub) (IntKind.wrap .i64 u4)) (Int.add uc u4) (Int.add uc (IntKind.wrap .i64 u4)) (Int.add (IntKind.wrap .i64 uc) u4) (Int.add (IntKind.wrap .i64 uc) (IntKind.wrap .i64 u4)) (Int.add ud u4) (Int.add ud (IntKind.wrap .i64 u4)) (Int.add (IntKind.wrap .i64 ud) u4) (Int.add (IntKind.wrap .i64 ud) (IntKind.wrap .i64 u4)) (Int.add ue u4) (Int.add ue (IntKind.wrap .i64 u4)) (Int.add (IntKind.wrap .i64 ue) u4) (Int.add (IntKind.wrap .i64 ue) (IntKind.wrap .i64 u4)) (Int.add uf u4) (Int.add uf (IntKind.wrap .i64 u4)) (Int.add (IntKind.wrap .i64 uf) u4) (Int.add (IntKind.wrap .i64 uf) (IntKind.wrap .i64 u4)) (Int.add ug u4) (Int.add ug (IntKind.wrap .i64 u4)) (Int.add (IntKind.wrap .i64 ug) u4) (Int.add (IntKind.wrap .i64 ug) (IntKind.wrap .i64 u4)) (Int.add uh u4) (Int.add uh (IntKind.wrap .i64 u4)) (Int.add (IntKind.wrap .i64 uh) u4) (Int.add (IntKind.wrap .i64 uh) (IntKind.wrap .i64 u4)) (Int.add ui u4) (Int.add ui (IntKind.wrap .i64 u4)) (Int.add (IntKind.wrap .i64 ui) u4) (Int.add (IntKind.wrap .i64 ui) (IntKind.wrap .i64 u4))) (Int.add u5 u3) (Int.add u5 (IntKind.wrap .i64 u3)) (Int.add (IntKind.wrap .i64 u5) u3) (Int.add (IntKind.wrap .i64 u5) (IntKind.wrap .i64 u3)) (Int.add ua u3) (Int.add ua (IntKind.wrap .i64 u3)) (Int.add (IntKind.wrap .i64 ua) u3) (Int.add (IntKind.wrap .i64 ua) (IntKind.wrap .i64 u3))) (Int.add 1 u2) (Int.add 1 (IntKind.wrap .i64 u2)) (inR .i64 u3=true) (inR .i64 u4=true) (inR .i64 u4=false) (inR .i64 u3=false)) (Int.mul 1 (flo u0 4)) (Int.mul (Neg.neg 1) (flo u0 100)) (Int.mul 1 (flo u0 400)) (inR .i64 u0=true)) (Int.sub y 1)):=by kernel_rfl
theorem b271 (y:Int) {Q:AV->Prop}:askA Q (pT XA2 noL 271 [.int .i64 y]) (dtN 114202)=((fun (u0:Int)=>inR .i64 (Int.mul 365 y)=true/\and (intLe (Neg.neg 20000000000000000) y) (intLe y 20000000000000000)=true/\(inR .i64 u0=true->Q (AV.int .i64 u0))/\(inR .i64 u0=false->Q (AV.int .i64 (IntKind.wrap .i64 u0)))) (Int.add (Int.mul 365 y) (bfrR y))):=by kernel_rfl
theorem body267:bodyOf tab 267=some (fnOf 267,codeOf 267):=by kernel_rfl
theorem body268:bodyOf tab 268=some (fnOf 268,codeOf 268):=by kernel_rfl
theorem body321:bodyOf tab 321=some (fnOf 321,codeOf 321):=by kernel_rfl
theorem body271:bodyOf tab 271=some (fnOf 271,codeOf 271):=by kernel_rfl
theorem flo_q2 {a b:Int} (hb:0<b):(a.tmod b<0->a.tdiv b-1=flo a b/\a.tmod b+b=moR a b)/\(0≤a.tmod b->a.tdiv b=flo a b/\a.tmod b=moR a b)/\-b<a.tmod b/\a.tmod b<b/\(a.tmod b<0->a<0)/\(0<a.tmod b->0<a):=by
 have e:=tq_cases a b hb
 have h1:=Int.lt_tmod_of_pos a hb
 have h2:=Int.tmod_lt_of_pos a hb
 have h3:0≤a->0≤a.tmod b:=fun h=>Int.tmod_nonneg b h
 have h4:a≤0->a.tmod b≤0:=fun h=>by
  have:=Int.tmod_nonneg b (show 0≤-a by omega)
  rw [Int.neg_tmod] at this;omega
 unfold flo moR
 refine ⟨fun h=>?_,fun h=>?_,h1,h2,fun h=>?_,fun h=>?_⟩
 · rw [if_pos (by omega),if_pos (by omega)] at e;exact ⟨e.1.symm,e.2.symm⟩
 · rw [if_neg (by omega),if_neg (by omega)] at e;exact ⟨e.1.symm,e.2.symm⟩
 · omega
 · omega
theorem XA1_ok:SumsOK Tryz.prog cfg XA1:=by
 refine sums_addP (sums_addP sums_nil fun args t v he hv=>?_) fun args t v he hv=>?_
 · unfold s267 at he
   split at he
   · rename_i a b
     cases he
     obtain ⟨h1,hv⟩:=asrts_run hv
     obtain ⟨h2,hv⟩:=asrts_run hv
     obtain ⟨h3,hv⟩:=asrts_run hv
     rw [q_inR_t] at h1
     rw [q_le_t] at h2 h3
     simp only [loK,hiK] at h1
     cases hv
     refine fpOK sums_nil (L:=noL) body267 (by simp) lok_none (wp_gen fun Q' hQ=>askA_wp ((b267 a b).mpr ?_)) (by simp [idsA,idsL])
     dsimp only
     obtain ⟨k1,k2,k3,k4,k5,k6⟩:=@flo_q2 a b (by omega)
     have tb:=tdiv_bd a b h2 h1.1 h1.2
     have w:IntKind.wrap .i64 (a.tdiv b)=a.tdiv b:=wrap_id .i64 _ (by simp only [loK];omega) (by simp only [hiK];omega)
     have fin:∀n:Int,n=flo a b->Q' (.tuple [.int .i64 n,.int .i64 0]):=fun n h=>hQ _ (by rw [h])
     clear hQ
     have e0:intLe 0 b=true:=q_le_t.mpr (by omega)
     simp only [w,e0,Bool.not_true]
     generalize a.tdiv b=q at *
     generalize a.tmod b=r at *
     simp only [q_all,reduceCtorEq,loK,hiK,ne_eq]
     (repeat' first|exact trivial|refine ⟨?_,?_⟩|intro)<;>first|omega|(apply fin;exact (k1 (by omega)).1)|(apply fin;exact (k2 (by omega)).1)
   · cases he
 · unfold s268 at he
   split at he
   · rename_i a b
     cases he
     obtain ⟨h1,hv⟩:=asrts_run hv
     obtain ⟨h2,hv⟩:=asrts_run hv
     obtain ⟨h3,hv⟩:=asrts_run hv
     rw [q_inR_t] at h1
     rw [q_le_t] at h2 h3
     simp only [loK,hiK] at h1
     cases hv
     refine fpOK sums_nil (L:=noL) body268 (by simp) lok_none (wp_gen fun Q' hQ=>askA_wp ((b268 a b).mpr ?_)) (by simp [idsA,idsL])
     dsimp only
     obtain ⟨k1,k2,k3,k4,k5,k6⟩:=@flo_q2 a b (by omega)
     have fin:∀n:Int,n=moR a b->Q' (.tuple [.int .i64 n,.int .i64 0]):=fun n h=>hQ _ (by rw [h])
     clear hQ
     have e0:intLe 0 b=true:=q_le_t.mpr (by omega)
     simp only [e0,Bool.not_true]
     generalize a.tdiv b=q at *
     generalize a.tmod b=r at *
     simp only [q_all,reduceCtorEq,loK,hiK,ne_eq]
     (repeat' first|exact trivial|refine ⟨?_,?_⟩|intro)<;>first|omega|(apply fin;exact (k1 (by omega)).2)|(apply fin;exact (k2 (by omega)).2)
   · cases he
theorem XA2_ok:SumsOK Tryz.prog cfg XA2:=by
 refine sums_addP XA1_ok fun args t v he hv=>?_
 · unfold s321 at he
   split at he
   · rename_i y
     cases he
     obtain ⟨h1,hv⟩:=asrts_run hv
     unfold okS2 at h1
     rw [Bool.and_eq_true,q_le_t,q_le_t] at h1
     cases hv
     refine fpOK XA1_ok (L:=noL) body321 (by simp) lok_none (wp_gen fun Q' hQ=>askA_wp ((b321 y).mpr ?_)) (by simp [idsA])
     dsimp only
     have fin:∀n:Int,n=bfrR y->Q' (.int .i64 n):=fun n h=>hQ _ (by rw [h])
     clear hQ
     simp only [q_all,reduceCtorEq,loK,hiK,ne_eq,flo]
     unfold bfrR before at fin
     (repeat' first|exact trivial|refine ⟨?_,?_⟩|intro)<;>first|omega|(apply fin;omega)
   · cases he
theorem XA3_ok:SumsOK Tryz.prog cfg XA3:=by
 refine sums_addP XA2_ok fun args t v he hv=>?_
 · unfold s271 at he
   split at he
   · rename_i y
     cases he
     obtain ⟨h1,hv⟩:=asrts_run hv
     unfold okS2 at h1
     rw [Bool.and_eq_true,q_le_t,q_le_t] at h1
     cases hv
     have hok:okS2 y=true:=by unfold okS2;rw [Bool.and_eq_true,q_le_t,q_le_t];exact h1
     have hb : -20000000000000000≤bfrR y/\bfrR y≤20000000000000000:=by unfold bfrR before;omega
     refine fpOK XA2_ok (L:=noL) body271 (by simp) lok_none (wp_gen fun Q' hQ=>askA_wp ((b271 y).mpr ?_)) (by simp [idsA])
     dsimp only
     have fin:∀n:Int,n=ystR y->Q' (.int .i64 n):=fun n h=>hQ _ (by rw [h])
     clear hQ
     have e:ystR y=365*y+bfrR y:=rfl
     rw [e] at fin
     generalize bfrR y=by' at *
     simp only [q_all,reduceCtorEq,loK,hiK,ne_eq]
     (repeat' first|exact trivial|refine ⟨?_,?_⟩|intro)<;>first|omega|assumption|(apply fin;omega)
   · cases he
end Go.Ev
