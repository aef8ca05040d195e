import Derived.Test.YtafekjglclnegaaGreatDoorP34
set_option linter.all false
set_option maxRecDepth 100000
set_option maxHeartbeats 1000000
namespace Go.Ev
open Go Go.Proofs
noncomputable def Z3:Sums:=addP T9 72 s72
theorem Z3_ok:SumsOK Tryz.prog cfg Z3:=add72 T9_ok
def hasXB (s:List UInt8):Bool:=!(Nat.beq (hasN s 88 88) 0)
def s100:Sum:=fun args=>match args with
 | [.str s,.str t]=>some (asrts [bytesEq t [88],Nat.ble s.length 1000000] (.ret (.bool (hasXB s))))
 | _=>none
def s60:Sum:=fun args=>match args with
 | [.agg [.bool ng,.bool lg,.str s,.int .i64 e,.int .i64 g,.str mo,.str da,.int .u8 a,.int .u8 b,.int .u8 c]]=>some (asrts [Nat.ble s.length 1000,Nat.ble mo.length 1000,Nat.ble da.length 1000] (.ret (.bool (hasXB (s++mo++da)))))
 | _=>none
def s63:Sum:=fun args=>match args with
 | [.agg [.bool ng,.bool lg,.str s,.int .i64 e,.int .i64 g,.str mo,.str da,.int .u8 a,.int .u8 b,.int .u8 c]]=>some (asrts [Nat.ble s.length 1000,Nat.ble mo.length 1000,Nat.ble da.length 1000] (.ret (.int .i64 (bI (hasXB (s++mo++da))))))
 | _=>none
def v119:LoopV:=fun vs o=>match vs,o with
 | [.ptr 14 0,.int .i64 z,.str t,.int .i64 i],⟨1,[.cells [.bool ng,.bool lg,.str s,.int .i64 e,.int .i64 g,.str mo,.str da,.int .u8 a,.int .u8 b,.int .u8 c] true none],[]⟩=>
   some (asrts [intEq z 0,intEq i 0,Nat.ble t.length 1000000] (.test (hasXB t) fun x=>bif x then .all fun J=>.ret (.ret,[.ptr 14 0,.int .i64 1,.str t,.any (J 0)],o) else .ret (.exit 0,[.ptr 14 0,.int .i64 0,.str t,.int .i64 (Int.ofNat t.length)],o)))
 | _,_=>none
def L119:Loops:=addL noL 0 (loopE 28 [1,2,3,4] v119)
def s119:Sum:=fun args=>match args with
 | [.agg [.bool ng,.bool lg,.str s,.int .i64 e,.int .i64 g,.str mo,.str da,.int .u8 a,.int .u8 b,.int .u8 c]]=>some (asrts [intEq g 0,Nat.ble s.length 1000,Nat.ble mo.length 1000,Nat.ble da.length 1000] (.ret (.int .i64 (bI (hasXB (s++mo++da))))))
 | _=>none
def s24:Sum:=fun args=>match args with
 | [.agg [.bool ng,.bool lg,.str s,.int .i64 e,.int .i64 g,.str mo,.str da,.int .u8 a,.int .u8 b,.int .u8 c]]=>some (asrts [Nat.ble s.length 1000,inR .i64 e] (.ret (.int .i64 (errF ng lg s e g mo da a b c))))
 | _=>none
def X1:Sums:=addP nilS 100 s100
def X2:Sums:=addP nilS 119 s119
theorem b24a (ng lg:Bool) (s:List UInt8) (e g:Int) (mo da:List UInt8) (a b c:Int) {Q:AV->Prop}:askA Q (pT Z3 noL 24 [.agg [.bool ng,.bool lg,.str s,.int .i64 e,.int .i64 g,.str mo,.str da,.int .u8 a,.int .u8 b,.int .u8 c]]) (dtN 1053822006)=((fun (u0:Int)=>(fun (u1:Prop)=>Nat.ble (List.length s) 1000=true/\inR .i64 e=true/\u1/\u1/\u1/\u1/\Q (AV.int .i64 u0)) (intEq u0 0=false)) (errD ng lg s e g mo da a b c)):=by kernel_rfl
theorem b24b (ng lg:Bool) (s:List UInt8) (e g:Int) (mo da:List UInt8) (a b c:Int) {Q:AV->Prop}:askA Q (pT Z3 noL 24 [.agg [.bool ng,.bool lg,.str s,.int .i64 e,.int .i64 g,.str mo,.str da,.int .u8 a,.int .u8 b,.int .u8 c]]) (dtN 103822027006)=((fun (u0:Int) (u1:Prop)=>(fun (u2:Prop)=>Nat.ble (List.length s) 1000=true/\inR .i64 e=true/\u2/\u2/\u2/\u2/\u1/\u1/\u1/\u1/\Q (AV.int .i64 u0)) (intEq u0 0=true)) (errD ng lg s e g mo da a b c) (not (bytesEq da [])=false)):=by kernel_rfl
theorem b24c (ng lg:Bool) (s:List UInt8) (e g:Int) (m0 m1 d0 d1:UInt8) (a b c:Int) {Q:AV->Prop}:askA Q (pT Z3 noL 24 [.agg [.bool ng,.bool lg,.str s,.int .i64 e,.int .i64 g,.str [m0,m1],.str [d0,d1],.int .u8 a,.int .u8 b,.int .u8 c]]) (dtN 1140027775622027006)=((fun (u2:Bool) (u1:Int) (u0:Prop)=>(fun (u3:Prop)=>u0/\inR .i64 e=true/\u3/\u3/\u3/\u3/\intEq g 0=true/\okY14 ng lg s e g=true/\u0/\okX s=true/\mBy m0=true/\mBy m1=true/\mBy d0=true/\mBy d1=true/\intEq (seasR [m0,m1]) 0=true/\not (nilB (fitL m0 m1 12))=true/\(u2=true->Q (AV.int .i64 8))/\(u2=false->Q (AV.int .i64 u1))) (intEq u1 0=true)) (intEq (cond (someR ng s e m0 m1 d0 d1) 1 0) 0) (errD ng lg s e g [m0,m1] [d0,d1] a b c) (Nat.ble (List.length s) 1000=true)):=by kernel_rfl
theorem b60 (ng lg:Bool) (s:List UInt8) (e g:Int) (mo da:List UInt8) (a b c:Int) {Q:AV->Prop}:askA Q (pT X1 noL 60 [.agg [.bool ng,.bool lg,.str s,.int .i64 e,.int .i64 g,.str mo,.str da,.int .u8 a,.int .u8 b,.int .u8 c]]) (dtN 11140040200)=((fun (u0 u1:Bool)=>Nat.ble (HAdd.hAdd (List.length s) (List.length mo)) 1000000=true/\(u0=true->(u1=true->Q (AV.bool (hasXB (HAppend.hAppend (HAppend.hAppend s mo) da))))/\(u1=false->False))/\(u0=false->False)) (Nat.ble (HAdd.hAdd (List.length (HAppend.hAppend s mo)) (List.length da)) 1000000) (Nat.ble (List.length (HAppend.hAppend (HAppend.hAppend s mo) da)) 1000000)):=by kernel_rfl
theorem r119 (ng lg:Bool) (s t:List UInt8) (e g:Int) (mo da:List UInt8) (a b c:Int) (i:Nat) (J:Nat->Value) {Q:VQ->Prop}:askA Q (rT nilS noL [] 119 0 28 [1,2,3,4] [.ptr 14 0,.int .i64 0,.str t,.int .i64 (Int.ofNat i)] J ⟨1,[boxD ng lg s e g mo da a b c],[]⟩) (dtN 11214204)=((fun (u2 u3:AV) (u1:Bool) (u0:Int)=>(fun (u5:AV) (u4:Bool)=>(u4=true->natLt i (List.length t)=true/\(u1=true->Q (AX.ret,([u2,AV.int .i64 1,u3,u5],{ n:=1,os:=[AObj.cells [AV.bool ng,AV.bool lg,AV.str s,AV.int .i64 e,AV.int .i64 g,AV.str mo,AV.str da,AV.int .u8 a,AV.int .u8 b,AV.int .u8 c] true Option.none],le:=[] })))/\(u1=false->inR .i64 (Int.add u0 1)=true/\Q (AX.normal,([u2,AV.int .i64 0,u3,AV.int .i64 (Int.add u0 1)],{ n:=1,os:=[AObj.cells [AV.bool ng,AV.bool lg,AV.str s,AV.int .i64 e,AV.int .i64 g,AV.str mo,AV.str da,AV.int .u8 a,AV.int .u8 b,AV.int .u8 c] true Option.none],le:=[] }))))/\(u4=false->Q (AX.exit 0,([u2,AV.int .i64 0,u3,u5],{ n:=1,os:=[AObj.cells [AV.bool ng,AV.bool lg,AV.str s,AV.int .i64 e,AV.int .i64 g,AV.str mo,AV.str da,AV.int .u8 a,AV.int .u8 b,AV.int .u8 c] true Option.none],le:=[] })))) (AV.int .i64 u0) (not (intLe (Int.ofNat (List.length t)) u0))) (AV.ptr 14 0) (AV.str t) (intEq (Int.ofNat (UInt8.toNat (List.getD t i (UInt8.ofNat 0)))) 88) (Int.ofNat i)):=by kernel_rfl
theorem b119 (ng lg:Bool) (s:List UInt8) (e:Int) (mo da:List UInt8) (a b c:Int) {Q:AV->Prop}:askA Q (pT nilS L119 119 [.agg [.bool ng,.bool lg,.str s,.int .i64 e,.int .i64 0,.str mo,.str da,.int .u8 a,.int .u8 b,.int .u8 c]]) (dtN 111001440040200)=((fun (u0 u1 u2:Bool)=>Nat.ble (HAdd.hAdd (List.length s) (List.length mo)) 1000000=true/\(u0=true->(u1=true->(u2=true->(∀J1:Nat->Value,∀J2:Nat->Value,Q (AV.int .i64 1)))/\(u2=false->(∀J1:Nat->Value,Q (AV.int .i64 0))))/\(u1=false->False))/\(u0=false->False)) (Nat.ble (HAdd.hAdd (List.length (HAppend.hAppend s mo)) (List.length da)) 1000000) (Nat.ble (List.length (HAppend.hAppend (HAppend.hAppend s mo) da)) 1000000) (hasXB (HAppend.hAppend (HAppend.hAppend s mo) da))):=by kernel_rfl
theorem b63 (ng lg:Bool) (s:List UInt8) (e g:Int) (mo da:List UInt8) (a b c:Int) {Q:AV->Prop}:askA Q (pT X2 noL 63 [.agg [.bool ng,.bool lg,.str s,.int .i64 e,.int .i64 g,.str mo,.str da,.int .u8 a,.int .u8 b,.int .u8 c]]) (dtN 1756)=(Nat.ble (List.length s) 1000=true/\Nat.ble (List.length mo) 1000=true/\Nat.ble (List.length da) 1000=true/\Q (AV.int .i64 (cond (hasXB (HAppend.hAppend (HAppend.hAppend s mo) da)) 1 0))):=by kernel_rfl
theorem body24:bodyOf tab 24=some (fnOf 24,codeOf 24):=by kernel_rfl
theorem body100:bodyOf tab 100=some (fnOf 100,codeOf 100):=by kernel_rfl
theorem body60:bodyOf tab 60=some (fnOf 60,codeOf 60):=by kernel_rfl
theorem body119:bodyOf tab 119=some (fnOf 119,codeOf 119):=by kernel_rfl
theorem body63:bodyOf tab 63=some (fnOf 63,codeOf 63):=by kernel_rfl
theorem loops119:(loopsOf (codeOf 119)).map (·.1)=[0]:=by kernel_rfl
theorem f24 {ng lg:Bool} {s:List UInt8} {e g:Int} {mo da:List UInt8} {a b c:Int} (hs:s.length≤1000) (he : -9223372036854775808≤e/\e≤9223372036854775807) :
 FactW Tryz.prog cfg 24 [.agg [.bool ng,.bool lg,.str s,.int .i64 e,.int .i64 g,.str mo,.str da,.int .u8 a,.int .u8 b,.int .u8 c]] [] (.int .i64 (errF ng lg s e g mo da a b c)) []:=by
 unfold errF
 cases hE:intEq (errD ng lg s e g mo da a b c) 0 with
 | false=>
   refine fpOK Z3_ok (L:=noL) body24 (by simp) lok_none (wp_gen fun Q' hQ=>askA_wp ((b24a ng lg s e g mo da a b c).mpr ?_)) (by simp [idsA])
   dsimp only
   rw [cond_false] at hQ
   have hQ:=hQ _ rfl
   rw [q_eq_f] at hE
   generalize errD ng lg s e g mo da a b c=r at *
   simp only [q_all,reduceCtorEq,loK,hiK,ne_eq]
   (repeat' first|exact trivial|refine ⟨?_,?_⟩|intro)<;>first|contradiction|omega|assumption
 | true=>
   rw [cond_true]
   cases hd:bytesEq da [] with
   | true=>
     refine fpOK Z3_ok (L:=noL) body24 (by simp) lok_none (wp_gen fun Q' hQ=>askA_wp ((b24b ng lg s e g mo da a b c).mpr ?_)) (by simp [idsA])
     dsimp only
     rw [cond_true] at hQ
     have hQ:=hQ _ rfl
     rw [q_eq_t] at hE
     rw [hE]
     simp only [q_all,reduceCtorEq,loK,hiK,ne_eq]
     (repeat' first|exact trivial|refine ⟨?_,?_⟩|intro)<;>first|contradiction|omega|assumption|(exfalso;simp_all;done)|(simp_all;done)
   | false=>
     have hE':=q_eq_t.mp hE
     obtain ⟨m0,m1,d0,d1,rfl,rfl,h0,h1,h2,h3,k1,k2,hse,ho,hx,hg0⟩:=errD0_day hE' hd
     have n1:nilB (fitL m0 m1 12)=false:=by unfold nilB;cases h:fitL m0 m1 12 with|nil=>exact absurd h k1|cons x xs=>rfl
     have hF:=@some_iff ng lg s e g m0 m1 d0 d1 ho hx
     rw [cond_false,←hF]
     refine fpOK Z3_ok (L:=noL) body24 (by simp) lok_none (wp_gen fun Q' hQ=>askA_wp ((b24c ng lg s e g m0 m1 d0 d1 a b c).mpr ?_)) (by simp [idsA])
     have hQ:=hQ _ rfl
     clear hF hE' k1 k2
     rw [q_eq_t] at hE
     generalize someR ng s e m0 m1 d0 d1=r at *
     generalize errD ng lg s e g [m0,m1] [d0,d1] a b c=er at *
     generalize seasR [m0,m1]=sr at *
     generalize fitL m0 m1 12=M at *
     cases r with
     | true=>
       have hQ:Q' (.int .i64 0):=hQ
       subst hE
       simp only [q_all,reduceCtorEq,loK,hiK,ne_eq]
       (repeat' first|exact trivial|refine ⟨?_,?_⟩|intro)<;>first|contradiction|omega|assumption|(exfalso;simp_all;done)|(simp_all;done)
     | false=>
       have hQ:Q' (.int .i64 8):=hQ
       subst hE
       simp only [q_all,reduceCtorEq,loK,hiK,ne_eq]
       (repeat' first|exact trivial|refine ⟨?_,?_⟩|intro)<;>first|contradiction|omega|assumption|(exfalso;simp_all;done)|(simp_all;done)
theorem f100 {s t:List UInt8} (ht:bytesEq t [88]=true):FactW Tryz.prog cfg 100 [.str s,.str t] [] (.bool (hasXB s)) []:=by
 rw [bytesEq_beq,beq_iff_eq] at ht
 subst ht
 refine fact_calls body100 (by simp [idsA]) fun m w hG=>?_
 have:=Go.Proofs.YtafekjglclnegaaGreatDoor.Contains_X ⟨⟨s⟩⟩ w
 have e:Go.Proofs.YtafekjglclnegaaGreatDoor.hasX s=hasXB s:=by
  unfold hasXB
  rw [Bool.eq_iff_iff,hasX_iff,Bool.not_eq_true',q_beq_f]
 have h2:Calls Tryz.prog 100 (concL m [.str s,.str [88]]).toArray w fun e w'=>e=.returned (.bool (Go.Proofs.YtafekjglclnegaaGreatDoor.hasX s))/\w=w':=by simpa [concL,conc] using this
 rw [e] at h2
 refine h2.mono ?_
 rintro e w' ⟨he,rfl⟩
 exact ⟨by simpa [conc] using he,Go.RowKit.Below.refl _ _⟩
theorem X1_ok:SumsOK Tryz.prog cfg X1:=sums_addP sums_nil fun args t v he hv=>by
 unfold s100 at he
 split at he
 · cases he
   obtain ⟨h1,hv⟩:=asrts_run hv
   obtain ⟨h2,hv⟩:=asrts_run hv
   cases hv
   exact f100 h1
 · cases he
theorem f60 {ng lg:Bool} {s:List UInt8} {e g:Int} {mo da:List UInt8} {a b c:Int} (hs:s.length≤1000) (hm:mo.length≤1000) (hd:da.length≤1000) :
 FactW Tryz.prog cfg 60 [.agg [.bool ng,.bool lg,.str s,.int .i64 e,.int .i64 g,.str mo,.str da,.int .u8 a,.int .u8 b,.int .u8 c]] [] (.bool (hasXB (s++mo++da))) []:=by
 refine fpOK X1_ok (L:=noL) body60 (by simp) lok_none (wp_gen fun Q' hQ=>askA_wp ((b60 ng lg s e g mo da a b c).mpr ?_)) (by simp [idsA])
 dsimp only
 have hQ:=hQ _ rfl
 have l1:(s++mo).length=s.length+mo.length:=List.length_append
 have l2:(s++mo++da).length=s.length+mo.length+da.length:=by rw [List.length_append,l1]
 simp only [q_all,reduceCtorEq,loK,hiK,ne_eq]
 (repeat' first|exact trivial|refine ⟨?_,?_⟩|intro)<;>first|contradiction|omega|assumption|(simp only [l1,l2];omega)|(exfalso;simp_all;omega)
theorem hasX_take {t:List UInt8} {i:Nat} (h:∀k,k<i->(t.getD k 0).toNat≠88) (hi:t.length≤i):hasXB t=false:=by
 unfold hasXB
 rw [Bool.not_eq_false',q_beq_t]
 unfold hasN
 rw [List.length_eq_zero_iff,List.filter_eq_nil_iff]
 intro x hx
 obtain ⟨k,hk,rfl⟩:=List.getElem_of_mem hx
 have:=h k (by omega)
 rw [List.getD_eq_getElem?_getD,List.getElem?_eq_getElem hk] at this
 simp only [Option.getD_some] at this
 simp
 omega
theorem hasX_at {t:List UInt8} {i:Nat} (hi:i<t.length) (h:(t.getD i 0).toNat=88):hasXB t=true:=by
 unfold hasXB
 rw [Bool.not_eq_true',q_beq_f]
 intro hn
 unfold hasN at hn
 rw [List.length_eq_zero_iff,List.filter_eq_nil_iff] at hn
 have:=hn _ (List.getElem_mem hi)
 rw [List.getD_eq_getElem?_getD,List.getElem?_eq_getElem hi] at h
 simp only [Option.getD_some] at h
 apply this
 simp [h]
theorem lv119:LoopVOK Tryz.prog (cfgS cfg nilS) (Cw cfg []) (lb 119 0) 28 [1,2,3,4] v119:=by
 intro vs o t Q hv hq J
 unfold v119 at hv
 split at hv
 · rename_i z t i ng lg s e g mo da a b c
   cases hv
   obtain ⟨k1,hq'⟩:=asrts_wp hq;clear hq;have hq:=hq';clear hq'
   obtain ⟨k2,hq'⟩:=asrts_wp hq;clear hq;have hq:=hq';clear hq'
   obtain ⟨k3,hq'⟩:=asrts_wp hq;clear hq;have hq:=hq';clear hq'
   rw [q_eq_t] at k1 k2
   rw [q_ble_t] at k3
   subst k1 k2
   simp only [asrts,Tr.wp] at hq
   refine lvOK sums_nil rfl rfl lok_none (ι:={i:Nat // i≤t.length/\∀k,k<i->(t.getD k 0).toNat≠88}) (fun x=>[.ptr 14 0,.int .i64 0,.str t,.int .i64 (Int.ofNat x.1)]) (fun _=>⟨1,[boxD ng lg s e g mo da a b c],[]⟩) (fun x=>t.length-x.1) 1 (fun _=>Nat.le_refl _) (fun x J=>?_) (Nat.le_refl _) (fun J=>Wk.refl ⟨⟨0,Nat.zero_le _,fun k hk=>absurd hk (Nat.not_lt_zero k)⟩,J,rfl⟩) J
   obtain ⟨i,hi,hz⟩:=x
   dsimp only
   refine wp_gen fun Q' hQ=>askA_wp ((r119 ng lg s t e g mo da a b c i J).mpr ?_)
   dsimp only
   have ret:i<t.length->(t.getD i 0).toNat=88->Q' (.ret,[.ptr 14 0,.int .i64 1,.str t,.int .i64 (Int.ofNat i)],⟨1,[boxD ng lg s e g mo da a b c],[]⟩):=fun h1 h2=>hQ _ ⟨_,_,VW.any (.same (.same (.same (.int .nil)))) rfl,by
    rw [hasX_at h1 h2] at hq
    exact hq (jv [_])⟩
   have fin:i=t.length->Q' (.exit 0,[.ptr 14 0,.int .i64 0,.str t,.int .i64 (Int.ofNat i)],⟨1,[boxD ng lg s e g mo da a b c],[]⟩):=fun h=>hQ _ ⟨_,_,VW.refl,by
    rw [hasX_take hz (by omega)] at hq
    subst h
    exact hq⟩
   have go:i<t.length->(t.getD i 0).toNat≠88->Q' (.normal,[.ptr 14 0,.int .i64 0,.str t,.int .i64 (Int.ofNat (i+1))],⟨1,[boxD ng lg s e g mo da a b c],[]⟩):=fun h1 h2=>hQ _ ⟨⟨i+1,by omega,fun k hk=>by
    by_cases e:k=i
    · subst e;exact h2
    · exact hz k (by omega)⟩,by dsimp only;omega,VW.of_eq rfl rfl⟩
   clear hQ hq hz
   rw [show (UInt8.ofNat 0)=(0:UInt8) from rfl]
   generalize (t.getD i 0).toNat=cn at *
   simp only [q_all,reduceCtorEq,loK,hiK,ne_eq]
   (repeat' first|exact trivial|refine ⟨?_,?_⟩|intro)<;>first|contradiction|omega|assumption|(apply fin;omega)|(apply go<;>omega)|(apply ret<;>omega)|(exfalso;simp_all;done)
 · cases hv
theorem f119 {ng lg:Bool} {s:List UInt8} {e:Int} {mo da:List UInt8} {a b c:Int} (hs:s.length≤1000) (hm:mo.length≤1000) (hd:da.length≤1000) :
 FactW Tryz.prog cfg 119 [.agg [.bool ng,.bool lg,.str s,.int .i64 e,.int .i64 0,.str mo,.str da,.int .u8 a,.int .u8 b,.int .u8 c]] [] (.int .i64 (bI (hasXB (s++mo++da)))) []:=by
 refine fpOK sums_nil (L:=L119) body119 (by simp) (lok_at loops119 fun i hi e he st Q hw=>?_) (wp_gen fun Q' hQ=>askA_wp ((b119 ng lg s e mo da a b c).mpr ?_)) (by simp [idsA])
 · have hi:i=0:=by simp at hi;omega
   subst hi
   cases he
   exact loopE_ok (base0.good sums_nil) (by decide) rfl lv119 hw
 · have l1:(s++mo).length=s.length+mo.length:=List.length_append
   have l2:(s++mo++da).length=s.length+mo.length+da.length:=by rw [List.length_append,l1]
   have y1:hasXB (s++mo++da)=true->Q' (.int .i64 1):=fun h=>hQ _ (by rw [h];rfl)
   have y0:hasXB (s++mo++da)=false->Q' (.int .i64 0):=fun h=>hQ _ (by rw [h];rfl)
   clear hQ
   simp only [q_all,reduceCtorEq,loK,hiK,ne_eq]
   (repeat' first|exact trivial|refine ⟨?_,?_⟩|intro)<;>first|contradiction|omega|assumption|(apply y1;assumption)|(apply y0;assumption)|(simp only [l1,l2];omega)|(exfalso;simp_all;omega)
theorem X2_ok:SumsOK Tryz.prog cfg X2:=sums_addP sums_nil fun args t v he hv=>by
 unfold s119 at he
 split at he
 · cases he
   obtain ⟨h1,hv⟩:=asrts_run hv
   obtain ⟨h2,hv⟩:=asrts_run hv
   obtain ⟨h3,hv⟩:=asrts_run hv
   obtain ⟨h4,hv⟩:=asrts_run hv
   rw [q_eq_t] at h1
   rw [q_ble_t] at h2 h3 h4
   cases hv
   subst h1
   exact f119 h2 h3 h4
 · cases he
theorem f63 {ng lg:Bool} {s:List UInt8} {e g:Int} {mo da:List UInt8} {a b c:Int} (hs:s.length≤1000) (hm:mo.length≤1000) (hd:da.length≤1000) :
 FactW Tryz.prog cfg 63 [.agg [.bool ng,.bool lg,.str s,.int .i64 e,.int .i64 g,.str mo,.str da,.int .u8 a,.int .u8 b,.int .u8 c]] [] (.int .i64 (bI (hasXB (s++mo++da)))) []:=by
 refine fpOK X2_ok (L:=noL) body63 (by simp) lok_none (wp_gen fun Q' hQ=>askA_wp ((b63 ng lg s e g mo da a b c).mpr ?_)) (by simp [idsA])
 have hQ:=hQ _ rfl
 simp only [q_all,reduceCtorEq,loK,hiK,ne_eq]
 (repeat' first|exact trivial|refine ⟨?_,?_⟩|intro)<;>first|contradiction|omega|assumption
theorem add60 {S:Sums} (hS:SumsOK Tryz.prog cfg S):SumsOK Tryz.prog cfg (addP S 60 s60):=sums_addP hS fun args t v he hv=>by
 unfold s60 at he
 split at he
 · cases he
   obtain ⟨h1,hv⟩:=asrts_run hv
   obtain ⟨h2,hv⟩:=asrts_run hv
   obtain ⟨h3,hv⟩:=asrts_run hv
   rw [q_ble_t] at h1 h2 h3
   cases hv
   exact f60 h1 h2 h3
 · cases he
theorem add63 {S:Sums} (hS:SumsOK Tryz.prog cfg S):SumsOK Tryz.prog cfg (addP S 63 s63):=sums_addP hS fun args t v he hv=>by
 unfold s63 at he
 split at he
 · cases he
   obtain ⟨h1,hv⟩:=asrts_run hv
   obtain ⟨h2,hv⟩:=asrts_run hv
   obtain ⟨h3,hv⟩:=asrts_run hv
   rw [q_ble_t] at h1 h2 h3
   cases hv
   exact f63 h1 h2 h3
 · cases he
theorem add24 {S:Sums} (hS:SumsOK Tryz.prog cfg S):SumsOK Tryz.prog cfg (addP S 24 s24):=sums_addP hS fun args t v he hv=>by
 unfold s24 at he
 split at he
 · cases he
   obtain ⟨h1,hv⟩:=asrts_run hv
   obtain ⟨h2,hv⟩:=asrts_run hv
   rw [q_ble_t] at h1
   rw [q_inR_t] at h2
   simp only [loK,hiK] at h2
   cases hv
   exact f24 h1 h2
 · cases he
def F1:Sums:=addP (addS nilS 57 s57) 116 s116
def fitB (a b c d p:Int):Bool:=!(!(intEq a 0)&&!(intEq c 0))&&(intEq (rChk a b c d) 0&&((!(intEq a 0) || (okH b p&&intEq (loH b p) b))&&(!(intEq c 0) || (okH d p&&intEq (hiH d p) d))))
def s61:Sum:=fun args=>match args with
 | [.agg [.int .i8 a,.int .i64 b,.int .i8 c,.int .i64 d],.int .u8 p]=>some (asrts [inR .i8 a,inR .i64 b,inR .i8 c,inR .i64 d,intLe 1 p,intLe p 3] (.ret (.bool (fitB a b c d p))))
 | _=>none
theorem b61 (a b c d p:Int) {Q:AV->Prop}:askA Q (pT F1 noL 61 [vRun a b c d,.int .u8 p]) (dtN 155115511400642200401400642200201455381023315511400642200203014322542202240)=((fun (u0 u1 u2 u5 u7:Bool) (u3 u4 u6:Prop)=>(fun (ua:Bool) (u9 ub uc ud:Prop)=>(fun (ue uf:Prop)=>(u9->u9/\u9/\u9/\u9/\(ue->ue/\ue/\ua=false/\ub/\(u2=false->u0=false/\u1=true/\uc))/\(uf->uf/\uf/\ua=true/\u3))/\(ud->ud/\ud/\ud/\ud/\ub/\(u2=false->u0=true/\inR .i64 b=true/\u4/\(okH b p=true->(u7=true->u3)/\(u7=false->(u1=true->uc)/\(u1=false->u6)))/\(okH b p=false->u3)))) (not ua=true) (not ua=false)) (not u1) (not u0=true) (u2=true->u3) (inR .i64 d=true/\u4/\(okH d p=true->(u5=true->u3)/\(u5=false->u6))/\(okH d p=false->u3)) (not u0=false)) (intEq a 0) (intEq c 0) (not (intEq (rChk a b c d) 0)) (not (and (intEq 0 c) (and (intEq (hiH d p) d) true))) (not (and (intEq 0 a) (and (intEq (loH b p) b) true))) (Q (AV.bool false)) (and (intLe 1 p) (intLe p 3)=true) (Q (AV.bool true))):=by kernel_rfl
theorem F1_ok:SumsOK Tryz.prog cfg F1:=add116 (sums_add sums_nil s57_ok)
theorem body61:bodyOf tab 61=some (fnOf 61,codeOf 61):=by kernel_rfl
theorem f61 {a b c d p:Int} (ha : -128≤a/\a≤127) (hb : -9223372036854775808≤b/\b≤9223372036854775807) (hc : -128≤c/\c≤127) (hd : -9223372036854775808≤d/\d≤9223372036854775807) (hp:1≤p/\p≤3):FactW Tryz.prog cfg 61 [vRun a b c d,.int .u8 p] [] (.bool (fitB a b c d p)) []:=by
 refine fpOK F1_ok (L:=noL) body61 (by simp) lok_none (wp_gen fun Q' hQ=>askA_wp ((b61 a b c d p).mpr ?_)) (by simp [idsA])
 dsimp only
 have hQ:=hQ _ rfl
 unfold fitB at hQ
 generalize rChk a b c d=r at *
 generalize okH b p=o1 at *
 generalize okH d p=o2 at *
 generalize loH b p=l1 at *
 generalize hiH d p=l2 at *
 have iff:(!(!(intEq a 0)&&!(intEq c 0))&&(intEq r 0&&((!(intEq a 0) || (o1&&intEq l1 b))&&(!(intEq c 0) || (o2&&intEq l2 d)))))=true↔(a=0∨c=0)/\r=0/\(a=0->o1=true/\l1=b)/\(c=0->o2=true/\l2=d):=by
  simp only [Bool.and_eq_true,Bool.or_eq_true,Bool.not_eq_true',Bool.and_eq_false_iff,Bool.not_eq_false',q_eq_t,q_eq_f]
  grind
 have yes:((a=0∨c=0)/\r=0/\(a=0->o1=true/\l1=b)/\(c=0->o2=true/\l2=d))->Q' (.bool true):=fun h=>by rw [iff.2 h] at hQ;exact hQ
 have no:¬((a=0∨c=0)/\r=0/\(a=0->o1=true/\l1=b)/\(c=0->o2=true/\l2=d))->Q' (.bool false):=fun h=>by rw [←iff,Bool.not_eq_true] at h;rw [h] at hQ;exact hQ
 clear hQ iff
 simp only [q_all,reduceCtorEq,loK,hiK,ne_eq]
 (repeat' first|exact trivial|refine ⟨?_,?_⟩|intro)<;>first|contradiction|omega|assumption|(apply yes;grind)|(apply no;grind)|grind
theorem add61 {S:Sums} (hS:SumsOK Tryz.prog cfg S):SumsOK Tryz.prog cfg (addP S 61 s61):=sums_addP hS fun args t v he hv=>by
 unfold s61 at he
 split at he
 · cases he
   obtain ⟨h1,hv⟩:=asrts_run hv
   obtain ⟨h2,hv⟩:=asrts_run hv
   obtain ⟨h3,hv⟩:=asrts_run hv
   obtain ⟨h4,hv⟩:=asrts_run hv
   obtain ⟨h5,hv⟩:=asrts_run hv
   obtain ⟨h6,hv⟩:=asrts_run hv
   rw [q_inR_t] at h1 h2 h3 h4
   simp only [loK,hiK] at h1 h2 h3 h4
   rw [q_le_t] at h5 h6
   cases hv
   exact f61 h1 h2 h3 h4 ⟨h5,h6⟩
 · cases he
def mZ (x y z:Int):Bool:=Bool.and (intEq x 0) (Bool.and (intEq y 0) (Bool.and (intEq z 0) Bool.true))
def dZ (ng lg:Bool) (s:List UInt8) (e g:Int) (mo da:List UInt8) (x y z:Int):Bool:=Bool.and (Bool.and (boolEq ng Bool.false) (Bool.and (boolEq lg Bool.false) (Bool.and (bytesEq s List.nil) (Bool.and (intEq e 0) (Bool.and (intEq g 0) Bool.true))))) (Bool.and (bytesEq mo List.nil) (Bool.and (bytesEq da List.nil) (Bool.and (Bool.and (intEq x 0) (Bool.and (intEq y 0) (Bool.and (intEq z 0) Bool.true))) Bool.true)))
def sZ (a b c d:Int):Bool:=Bool.and (Bool.and (intEq a 0) (Bool.and (intEq b 0) Bool.true)) (Bool.and (Bool.and (intEq c 0) (Bool.and (intEq d 0) Bool.true)) Bool.true)
def famE (k:Int) (n:Nat) (ch:Int) (dz:Bool) (p:Int) (sz:Bool) (ef g:Int) (xb mz ft:Bool) (rk a c:Int):Int:=
 if k<1∨5<k then 18 else
 if k=1 then (if dz=true/\p=0/\sz=true then (if n=0 then 17 else ch) else 5) else
 if k=2 then (if n=0/\p=0/\sz=true then (if ef=0 then (if g=0/\xb=true/\mz=true then 0 else 1) else ef) else 5) else
 if k=3 then (if n=0/\dz=true then (if 1≤p/\p≤3 then (if ft=true then 0 else 1) else 18) else 5) else
 if n=0/\dz=true/\p=0 then (if rk=0/\(k=4/\a = -1/\c=0∨k=5/\a=0/\c=1) then 0 else 1) else 5
theorem dZ_eq {ng lg:Bool} {s:List UInt8} {e g:Int} {mo da:List UInt8} {x y z:Int}:Bool.and (Bool.and (boolEq ng Bool.false) (Bool.and (boolEq lg Bool.false) (Bool.and (bytesEq s List.nil) (Bool.and (intEq e 0) (Bool.and (intEq g 0) Bool.true))))) (Bool.and (bytesEq mo List.nil) (Bool.and (bytesEq da List.nil) (Bool.and (Bool.and (intEq x 0) (Bool.and (intEq y 0) (Bool.and (intEq z 0) Bool.true))) Bool.true)))=dZ ng lg s e g mo da x y z:=rfl
theorem sZ_eq {a b c d:Int}:Bool.and (Bool.and (intEq a 0) (Bool.and (intEq b 0) Bool.true)) (Bool.and (Bool.and (intEq c 0) (Bool.and (intEq d 0) Bool.true)) Bool.true)=sZ a b c d:=rfl
theorem mZ_eq {x y z:Int}:Bool.and (intEq x 0) (Bool.and (intEq y 0) (Bool.and (intEq z 0) Bool.true))=mZ x y z:=rfl
theorem errF_nn {ng lg:Bool} {s:List UInt8} {e g:Int} {mo da:List UInt8} {x y z:Int}:0≤errF ng lg s e g mo da x y z:=by
 have h:0≤errD ng lg s e g mo da x y z:=by
  have:=@errMk_nn x y z (compsR mo da)
  unfold errD
  (repeat' split)<;>omega
 unfold errF
 cases intEq (errD ng lg s e g mo da x y z) 0<;>cases bytesEq da []<;>cases isF ng s e mo da<;>first|exact h|(simp only [cond_true,cond_false];omega)
theorem errF_g {ng lg:Bool} {s:List UInt8} {e g:Int} {mo da:List UInt8} {x y z:Int} (h:errF ng lg s e g mo da x y z=0):0≤g:=by
 have hd:errD ng lg s e g mo da x y z=0:=by
  unfold errF at h
  cases hE:intEq (errD ng lg s e g mo da x y z) 0 with
  | true=>exact q_eq_t.mp hE
  | false=>rw [hE,cond_false] at h;exact h
 have:=(errD0_ok hd errMk_nn).1
 unfold okY14 at this
 rw [decide_eq_true_eq] at this
 exact this.2.1
def inRs (R:List Rn):Prop:=∀i,i<R.length->inL (R.getD i rn0).b/\inL (R.getD i rn0).d
theorem flat_len:∀{R:List Rn},(flat R).length=R.length*4
 | []=>rfl
 | r::rs=>by simp only [flat,List.length_cons,flat_len (R:=rs)];omega
theorem unR_flat:∀{R:List Rn},unR (flat R)=R
 | []=>rfl
 | r::rs=>by simp only [flat,unR,unR_flat (R:=rs)]
theorem isRs_flat:∀{R:List Rn},inRs R->isRs (flat R)=true
 | [],_=>rfl
 | r::rs,h=>by
   have h0:=h 0 (Nat.succ_pos _)
   have h0:inL r.b/\inL r.d:=h0
   unfold inL at h0
   simp only [flat,isRs,Bool.and_eq_true,q_inR_t,loK,hiK]
   exact ⟨h0.1,h0.2,isRs_flat fun i hi=>h (i+1) (by simpa using hi)⟩
theorem belowL_flat:∀{R:List Rn},belowL 14 (flat R)=true
 | []=>rfl
 | r::rs=>by
   have:=belowL_flat (R:=rs)
   unfold belowL at this ⊢
   simp only [flat,List.all_cons,Bool.and_eq_true]
   exact ⟨rfl,rfl,rfl,rfl,this⟩
theorem win_flat {R:List Rn}:winOf (flat R) 0 (R.length*4)=flat R:=by
 unfold winOf
 rw [List.drop_zero]
 exact List.take_of_length_le (by rw [flat_len];exact Nat.le_refl _)
theorem fitB_iff {a b c d p:Int}:fitB a b c d p=true↔(a=0∨c=0)/\rChk a b c d=0/\(a=0->okH b p=true/\loH b p=b)/\(c=0->okH d p=true/\hiH d p=d):=by
 unfold fitB
 simp only [Bool.and_eq_true,Bool.or_eq_true,Bool.not_eq_true',Bool.and_eq_false_iff,Bool.not_eq_false',q_eq_t,q_eq_f]
 grind
end Go.Ev
