import Derived.Test.YtafekjglclnegaaGreatDoorP29
set_option linter.all false
section
set_option maxRecDepth 100000
set_option maxHeartbeats 4000000
namespace Go.Ev
open Go Go.Proofs
def S8:Sums:=addS S7 118 s118
theorem S8_ok:SumsOK Tryz.prog cfg S8:=sums_add S7_ok s118_ok
structure Rn where
 a:Int
 b:Int
 c:Int
 d:Int
def rn0:Rn:=⟨0,0,0,0⟩
def flat:List Rn→List AV
 | []=>[]
 | r::rs=>.int .i8 r.a::.int .i64 r.b::.int .i8 r.c::.int .i64 r.d::flat rs
def firstE (f:Nat→Int):Nat→Nat→Int
 | _,0=>0
 | i,n+1=>if f i=0 then firstE f (i+1) n else f i
def chk1 (q r:Rn) (i:Nat):Int:=if rChk r.a r.b r.c r.d=0 then (if 0<i∧(0<cmpR q.a q.b q.c q.d r.a r.b r.c r.d∨touchB q.a q.b q.c q.d r.a r.b r.c r.d=true) then 12 else 0) else rChk r.a r.b r.c r.d
def ref1 (q r:Rn) (i:Nat):Int:=if rChk r.a r.b r.c r.d=0 then (if 0<i∧(0≤cmpE q.c q.d r.a r.b∨tchB q.a q.b q.c q.d r.a r.b r.c r.d=true) then 12 else 0) else rChk r.a r.b r.c r.d
def chkAt (R:List Rn) (i:Nat):Int:=chk1 (R.getD (i-1) rn0) (R.getD i rn0) i
def refAt (R:List Rn) (i:Nat):Int:=ref1 (R.getD (i-1) rn0) (R.getD i rn0) i
def chkS (R:List Rn):Int:=firstE (chkAt R) 0 R.length
def refS (R:List Rn):Int:=firstE (refAt R) 0 R.length
def v58 (R:List Rn):LoopV:=fun vs o=>match vs,o with
 | [.slice 14 0 n k,.int .i64 z,.slice 14 0 n' k',.int .i64 n'',.int .i64 i],⟨0,[],[]⟩=>some (asrts [Nat.ble n 1000,Nat.beq R.length n,Nat.beq n' n,intEq n'' (Int.ofNat n),intEq i 0,intEq z 0] (.test (intEq (chkS R) 0) fun b=>bif b then .ret (.exit 0,[.slice 14 0 n k,.int .i64 0,.slice 14 0 n' k',.int .i64 n'',.int .i64 n''],own0) else .all fun J=>.ret (.ret,[.slice 14 0 n k,.int .i64 (chkS R),.slice 14 0 n' k',.int .i64 n'',.any (J 0)],own0)))
 | _,_=>none
def v62 (R:List Rn):LoopV:=fun vs o=>match vs,o with
 | [.slice 14 0 n k,.int .i64 z,.int .i64 i],⟨0,[],[]⟩=>some (asrts [Nat.ble n 1000,Nat.beq R.length n,intEq i 0,intEq z 0] (.test (intEq (refS R) 0) fun b=>bif b then .ret (.exit 0,[.slice 14 0 n k,.int .i64 0,.int .i64 (Int.ofNat n)],own0) else .all fun J=>.ret (.ret,[.slice 14 0 n k,.int .i64 (refS R),.any (J 0)],own0)))
 | _,_=>none
def L58 (R:List Rn):Loops:=addL noL 0 (loopE 43 [0,2,9,10,11] (v58 R))
def L62 (R:List Rn):Loops:=addL noL 0 (loopE 51 [0,2,3] (v62 R))
theorem r58 (w:List AV) (n:Nat) (k k':Cap) (i:Nat) (J:Nat→Value) {Q:VQ→Prop}:askA Q (rT S8 noL [.cells w false none] 58 0 43 [0,2,9,10,11] [.slice 14 0 n k,.int .i64 0,.slice 14 0 n k',.int .i64 (Int.ofNat n),.int .i64 (Int.ofNat i)] J own0) (dtN 1111112033000533881111107881112142324425777747524444277414054444204)=((fun (u1 u2 u3 u4:AV) (u0:Int)=>(fun (ue:AV) (u5 u6 u7 u8 u9 uf:Bool) (ua ub uc ud ug:Int)=>(fun (uh:Int) (um:Nat) (ui uj uk ul un uo up:Prop)=>(fun (uq ur:Bool) (ut:Int) (us:Nat)=>(fun (uu:Bool) (uw:Int) (uv:Nat)=>(fun (ux uy:Bool) (uz uA:Int)=>(fun (uB uC:Bool)=>(fun (uD uE:Prop)=>(u5=true→natLt i n=true∧(u6=true→(u7=true→(u8=true→(u9=true→(uq=true→Q (AX.ret,([u2,AV.int .i64 uh,u3,u4,ue],{ n:=1,os:=[AObj.cells [AV.int .i8 ua,AV.int .i64 ub,AV.int .i8 uc,AV.int .i64 ud] true Option.none],le:=[] })))∧(uq=false→(ui→ui∧ui∧uj∧ui∧uk∧ul∧ui∧(ur=true→(uu=true→(ux=true→(uy=true→ui∧ui∧ui∧ui∧(uD→uD∧uD∧uj∧uD∧uk∧ul∧uD∧ur=true∧uu=true∧ux=true∧uy=true∧uD∧uD∧(inR .i64 uA=true→(inR .i64 ud=true→ui∧uB=false∧ui∧(uC=true→un)∧(uC=false→uo))∧(inR .i64 ud=false→False))∧(inR .i64 uA=false→False))∧(uE→uE∧uE∧uE∧uE∧uE∧uE∧ui∧uB=true∧ui∧un))∧(uy=false→False))∧(ux=false→False))∧(uu=false→False))∧(ur=false→False))∧(up→up∧up∧up∧up∧up∧up∧up∧up∧up∧up∧uo)))∧(u9=false→False))∧(u8=false→False))∧(u7=false→False))∧(u6=false→False))∧(u5=false→Q (AX.exit 0,([u2,AV.int .i64 0,u3,u4,ue],{ n:=0,os:=[],le:=[] })))) (not uB=true) (not uB=false)) (not (intLe (cmpR ut uw uz uA ua ub uc ud) 0)) (touchB ut uw uz uA ua ub uc ud)) (isKA .i8 (List.getD w uv u1)) (isKA .i64 (List.getD w (HAdd.hAdd uv 1) u1)) (intOf (List.getD w uv u1)) (intOf (List.getD w (HAdd.hAdd uv 1) u1))) (isKA .i64 (List.getD w us u1)) (intOf (List.getD w us u1)) (HAdd.hAdd us 1)) (not (intEq uh 0)) (isKA .i8 (List.getD w um u1)) (intOf (List.getD w um u1)) (HAdd.hAdd um 1)) (rChk ua ub uc ud) (HAdd.hAdd 0 (HMul.hMul (Int.toNat ug) 4)) (uf=true) (inR .i64 ug=true) (intLe 0 ug=true) (natLt (Int.toNat ug) n=true) (Q (AX.ret,([u2,AV.int .i64 12,u3,u4,ue],{ n:=1,os:=[AObj.cells [AV.int .i8 ua,AV.int .i64 ub,AV.int .i8 uc,AV.int .i64 ud] true Option.none],le:=[] }))) (inR .i64 (Int.add u0 1)=true∧Q (AX.normal,([u2,AV.int .i64 0,u3,u4,AV.int .i64 (Int.add u0 1)],{ n:=1,os:=[AObj.cells [AV.int .i8 ua,AV.int .i64 ub,AV.int .i8 uc,AV.int .i64 ud] true Option.none],le:=[] }))) (uf=false)) (AV.int .i64 u0) (not (intLe (Int.ofNat n) u0)) (isKA .i8 (List.getD w (HAdd.hAdd 0 (HMul.hMul i 4)) u1)) (isKA .i64 (List.getD w (HAdd.hAdd (HAdd.hAdd 0 (HMul.hMul i 4)) 1) u1)) (isKA .i8 (List.getD w (HAdd.hAdd (HAdd.hAdd (HAdd.hAdd 0 (HMul.hMul i 4)) 1) 1) u1)) (isKA .i64 (List.getD w (HAdd.hAdd (HAdd.hAdd (HAdd.hAdd (HAdd.hAdd 0 (HMul.hMul i 4)) 1) 1) 1) u1)) (not (intLe u0 0)) (intOf (List.getD w (HAdd.hAdd 0 (HMul.hMul i 4)) u1)) (intOf (List.getD w (HAdd.hAdd (HAdd.hAdd 0 (HMul.hMul i 4)) 1) u1)) (intOf (List.getD w (HAdd.hAdd (HAdd.hAdd (HAdd.hAdd 0 (HMul.hMul i 4)) 1) 1) u1)) (intOf (List.getD w (HAdd.hAdd (HAdd.hAdd (HAdd.hAdd (HAdd.hAdd 0 (HMul.hMul i 4)) 1) 1) 1) u1)) (Int.sub u0 1)) (AV.tuple []) (AV.slice 14 0 n k) (AV.slice 14 0 n k') (AV.int .i64 (Int.ofNat n)) (Int.ofNat i)):=by kernel_rfl
theorem r62 (w:List AV) (n:Nat) (k:Cap) (i:Nat) (J:Nat→Value) {Q:VQ→Prop}:askA Q (rT S8 noL [.cells w false none] 62 0 51 [0,2,3] [.slice 14 0 n k,.int .i64 0,.int .i64 (Int.ofNat i)] J own0) (dtN 11111120330638888111110788811111112142324427707444427747447074422774144444204)=((fun (u2 u3:AV) (u0:Int) (u1:Prop)=>(fun (ud:AV) (u4 u5 u6 u7 u8 ue ug uh:Bool) (u9 ua ub uc uf:Int) (ui:Prop)=>(fun (uj:Int) (uo:Nat) (uk ul um un up uq:Prop)=>(fun (ur ut:Bool) (us uu:Nat)=>(fun (uv uw ux uy:Bool) (uz:Nat)=>(fun (uB uC:Bool) (uD:Int) (uA uE:Prop)=>(fun (uF:Bool)=>(u4=true→u1∧(u5=true→(u6=true→(u7=true→(u8=true→(ur=true→Q (AX.ret,([u3,AV.int .i64 uj,ud],{ n:=0,os:=[],le:=[] })))∧(ur=false→(uk→uk∧uk∧ul∧uk∧um∧un∧uk∧uk∧(uv=true→(uw=true→uk∧uk∧uk∧u1∧uk∧uk∧(ug=true→(uh=true→uk∧uk∧uk∧(uA→uA∧uA∧ul∧uA∧um∧un∧uA∧(ut=true→(uy=true→(uB=true→(uC=true→uA∧uA∧uA∧u1∧uA∧u5=true∧u6=true∧u7=true∧u8=true∧uA∧(inR .i64 uD=true→(inR .i64 uc=true→uk∧ux=false∧uk∧(uF=true→up)∧(uF=false→ui))∧(inR .i64 uc=false→False))∧(inR .i64 uD=false→False))∧(uC=false→False))∧(uB=false→False))∧(uy=false→False))∧(ut=false→False))∧(uE→uE∧uE∧uE∧uE∧uE∧uE∧uE∧uE∧uE∧uk∧ux=true∧uk∧up))∧(uh=false→False))∧(ug=false→False))∧(uw=false→False))∧(uv=false→False))∧(uq→uq∧uq∧uq∧uq∧uq∧uq∧uq∧uq∧uq∧uq∧uq∧uq∧uq∧uq∧uq∧ui)))∧(u8=false→False))∧(u7=false→False))∧(u6=false→False))∧(u5=false→False))∧(u4=false→Q (AX.exit 0,([u3,AV.int .i64 0,ud],{ n:=0,os:=[],le:=[] })))) (tchB (intOf (List.getD w uo u2)) (intOf (List.getD w uu u2)) (intOf (List.getD w uz u2)) uD u9 ua ub uc)) (isKA .i8 (List.getD w uz u2)) (isKA .i64 (List.getD w (HAdd.hAdd uz 1) u2)) (intOf (List.getD w (HAdd.hAdd uz 1) u2)) (not ux=true) (not ux=false)) (isKA .i8 (List.getD w us u2)) (isKA .i64 (List.getD w (HAdd.hAdd us 1) u2)) (intLe 0 (cmpE (intOf (List.getD w us u2)) (intOf (List.getD w (HAdd.hAdd us 1) u2)) (intOf (List.getD w (HAdd.hAdd (HAdd.hAdd 0 (HMul.hMul i 4)) 0) u2)) (intOf (List.getD w (HAdd.hAdd (HAdd.hAdd (HAdd.hAdd 0 (HMul.hMul i 4)) 0) 1) u2)))) (isKA .i64 (List.getD w uu u2)) (HAdd.hAdd uu 1)) (not (intEq uj 0)) (isKA .i8 (List.getD w uo u2)) (HAdd.hAdd uo 2) (HAdd.hAdd uo 1)) (rChk u9 ua ub uc) (HAdd.hAdd 0 (HMul.hMul (Int.toNat uf) 4)) (ue=true) (inR .i64 uf=true) (intLe 0 uf=true) (natLt (Int.toNat uf) n=true) (Q (AX.ret,([u3,AV.int .i64 12,ud],{ n:=0,os:=[],le:=[] }))) (ue=false)) (AV.int .i64 u0) (not (intLe (Int.ofNat n) u0)) (isKA .i8 (List.getD w (HAdd.hAdd 0 (HMul.hMul i 4)) u2)) (isKA .i64 (List.getD w (HAdd.hAdd (HAdd.hAdd 0 (HMul.hMul i 4)) 1) u2)) (isKA .i8 (List.getD w (HAdd.hAdd (HAdd.hAdd (HAdd.hAdd 0 (HMul.hMul i 4)) 1) 1) u2)) (isKA .i64 (List.getD w (HAdd.hAdd (HAdd.hAdd (HAdd.hAdd (HAdd.hAdd 0 (HMul.hMul i 4)) 1) 1) 1) u2)) (not (intLe u0 0)) (isKA .i8 (List.getD w (HAdd.hAdd (HAdd.hAdd 0 (HMul.hMul i 4)) 0) u2)) (isKA .i64 (List.getD w (HAdd.hAdd (HAdd.hAdd (HAdd.hAdd 0 (HMul.hMul i 4)) 0) 1) u2)) (intOf (List.getD w (HAdd.hAdd 0 (HMul.hMul i 4)) u2)) (intOf (List.getD w (HAdd.hAdd (HAdd.hAdd 0 (HMul.hMul i 4)) 1) u2)) (intOf (List.getD w (HAdd.hAdd (HAdd.hAdd (HAdd.hAdd 0 (HMul.hMul i 4)) 1) 1) u2)) (intOf (List.getD w (HAdd.hAdd (HAdd.hAdd (HAdd.hAdd (HAdd.hAdd 0 (HMul.hMul i 4)) 1) 1) 1) u2)) (Int.sub u0 1) (inR .i64 (Int.add u0 1)=true∧Q (AX.normal,([u3,AV.int .i64 0,AV.int .i64 (Int.add u0 1)],{ n:=0,os:=[],le:=[] })))) (AV.tuple []) (AV.slice 14 0 n k) (Int.ofNat i) (natLt i n=true)):=by kernel_rfl
theorem b58 (w:List AV) (R:List Rn) (n:Nat) (k:Cap) {Q:AV→Prop}:askA Q (pW S8 (L58 R) [.cells w false none] 58 [.slice 14 0 n k]) (dtN 11140022423)=((fun (u1 u2:Bool) (u0:Int)=>not (intLe u0 4096)=false∧Nat.ble n 1000=true∧(u1=true→Nat.beq n n=true∧intEq u0 u0=true∧(u2=true→(∀J1:Nat→Value,Q (AV.int .i64 0)))∧(u2=false→(∀J1:Nat→Value,∀J2:Nat→Value,Q (AV.int .i64 (chkS R)))))∧(u1=false→False)) (Nat.beq (List.length R) n) (intEq (chkS R) 0) (Int.ofNat n)):=by kernel_rfl
theorem b62 (w:List AV) (R:List Rn) (n:Nat) (k:Cap) {Q:AV→Prop}:askA Q (pW S8 (L62 R) [.cells w false none] 62 [.slice 14 0 n k]) (dtN 111400423)=((fun (u0 u1:Bool)=>not (intLe (Int.ofNat n) 4096)=false∧Nat.ble n 1000=true∧(u0=true→(u1=true→(∀J1:Nat→Value,Q (AV.int .i64 0)))∧(u1=false→(∀J1:Nat→Value,∀J2:Nat→Value,Q (AV.int .i64 (refS R)))))∧(u0=false→False)) (Nat.beq (List.length R) n) (intEq (refS R) 0)):=by kernel_rfl
theorem VW.trans {C:Ctx} {kb tn:Nat} {rel:List Nat} {vs vs' vs'':List AV} {o o' o'':Own} (h1:VW cfg C kb tn rel vs o vs' o') (h2:VW cfg C kb tn rel vs' o' vs'' o''):VW cfg C kb tn rel vs o vs'' o'':=fun J=>(h1 J).trans fun s ⟨J',e⟩=>by rw [e];exact h2 J'
theorem vw_drop {ws:List AObj} {tn:Nat} {rel:List Nat} {vs vs':List AV} {o:Own} (hw:∀x∈ws,LowO 14 x) (hle:o.le=[]) (hvs:mvL (mvA (14+ws.length+0) [] 20) vs=some vs'):VW cfg (Cw cfg ws) 0 tn rel vs o vs' own0:=
 VW.move good0.lv (C:=Cw cfg ws) (kb:=0) (sel:=[]) (lowC_cw hw) (Nat.zero_le _) (fun s hs=>by cases hs) List.nodup_nil (fun p hp=>by rw [hle] at hp;cases hp) hle.symm rfl rfl (fun i hi=>absurd hi (Nat.not_lt_zero i)) (fun t ht=>absurd ht (Nat.not_lt_zero t)) hvs
theorem firstE_at {f:Nat→Int}:∀{n i k:Nat},(∀j,i≤j→j<k→f j=0)→i≤k→k<i+n→f k≠0→firstE f i n=f k
 | 0,i,k,_,h1,h2,_=>by omega
 | n+1,i,k,h,h1,h2,h3=>by
   rw [firstE]
   by_cases e:i=k
   · subst e;rw [if_neg h3]
   · rw [if_pos (h i (Nat.le_refl _) (by omega))]
     exact firstE_at (fun j hj hk=>h j (by omega) hk) (by omega) (by omega) h3
theorem firstE_0 {f:Nat→Int}:∀{n i:Nat},(∀j,i≤j→j<i+n→f j=0)→firstE f i n=0
 | 0,_,_=>rfl
 | n+1,i,h=>by
   rw [firstE,if_pos (h i (Nat.le_refl _) (by omega))]
   exact firstE_0 fun j hj hk=>h j (by omega) (by omega)
theorem firstE_eq {f g:Nat→Int}:∀{n i:Nat},(∀j,i≤j→j<i+n→(∀k,i≤k→k<j→f k=0)→f j=g j)→firstE f i n=firstE g i n
 | 0,_,_=>rfl
 | n+1,i,h=>by
   have h0:=h i (Nat.le_refl _) (by omega) (fun k hk hj=>by omega)
   rw [firstE,firstE,←h0]
   by_cases e:f i=0
   · rw [if_pos e,if_pos e]
     exact firstE_eq fun j hj hk hz=>h j (by omega) (by omega) fun k h1 h2=>by
      by_cases e2:k=i
      · subst e2;exact e
      · exact hz k (by omega) h2
   · rw [if_neg e,if_neg e]
theorem flat_skip {r:Rn} {rs:List Rn} {n:Nat} {v:AV}:(flat (r::rs)).getD (n+4) v=(flat rs).getD n v:=rfl
theorem flat_at {R:List Rn} {i:Nat} (h:i<R.length):(flat R).getD (i*4) (.tuple [])=.int .i8 (R.getD i rn0).a∧(flat R).getD (i*4+1) (.tuple [])=.int .i64 (R.getD i rn0).b∧(flat R).getD (i*4+2) (.tuple [])=.int .i8 (R.getD i rn0).c∧(flat R).getD (i*4+3) (.tuple [])=.int .i64 (R.getD i rn0).d:=by
 induction R generalizing i with
 | nil=>exact absurd h (Nat.not_lt_zero _)
 | cons r rs ih=>
   cases i with
   | zero=>exact ⟨rfl,rfl,rfl,rfl⟩
   | succ i=>
     obtain ⟨h1,h2,h3,h4⟩:=ih (i:=i) (by simpa using h)
     rw [show (i+1)*4=i*4+4 by omega,show i*4+4+1=i*4+1+4 by omega,show i*4+4+2=i*4+2+4 by omega,show i*4+4+3=i*4+3+4 by omega,flat_skip,flat_skip,flat_skip,flat_skip]
     exact ⟨h1,h2,h3,h4⟩
theorem pre_eq {j:Nat}:Int.toNat (Int.sub (Int.ofNat (j+1)) 1)=j:=by
 show ((j:Int)+1-1).toNat=j
 omega
theorem flat_ids:∀{R:List Rn},idsL (flat R)=[]
 | []=>rfl
 | r::rs=>by simp only [flat,idsL,idsA,List.nil_append];exact flat_ids
theorem flat_low {R:List Rn}:∀x∈[AObj.cells (flat R) false none],LowO 14 x:=fun x hx=>by
 simp only [List.mem_singleton] at hx
 subst hx
 refine ⟨rfl,fun i hi=>?_⟩
 exfalso
 simp only [idsO,flat_ids] at hi
 cases hi
theorem lv58 {R:List Rn} (hR:∀i,i<R.length→inL (R.getD i rn0).d):LoopVOK Tryz.prog (cfgS cfg S8) (Cw cfg [.cells (flat R) false none]) (lb 58 0) 43 [0,2,9,10,11] (v58 R):=by
 have hw:=@flat_low R
 intro vs o t Q hv hq J
 unfold v58 at hv
 split at hv
 · rename_i n k z n' k' n'' i
   cases hv
   obtain ⟨h1,hq'⟩:=asrts_wp hq;clear hq;have hq:=hq';clear hq'
   obtain ⟨h2,hq'⟩:=asrts_wp hq;clear hq;have hq:=hq';clear hq'
   obtain ⟨h3,hq'⟩:=asrts_wp hq;clear hq;have hq:=hq';clear hq'
   obtain ⟨h4,hq'⟩:=asrts_wp hq;clear hq;have hq:=hq';clear hq'
   obtain ⟨h5,hq'⟩:=asrts_wp hq;clear hq;have hq:=hq';clear hq'
   obtain ⟨h6,hq'⟩:=asrts_wp hq;clear hq;have hq:=hq';clear hq'
   rw [q_ble_t] at h1
   rw [q_beq_t] at h2 h3
   rw [q_eq_t] at h4 h5 h6
   subst h2 h3 h4 h5 h6
   simp only [asrts,Tr.wp] at hq
   refine lvOK S8_ok rfl rfl lok_none (ι:={i:Nat // i≤R.length∧∀j,j<i→chkAt R j=0}) (fun x=>[.slice 14 0 R.length k,.int .i64 0,.slice 14 0 R.length k',.int .i64 (Int.ofNat R.length),.int .i64 (Int.ofNat x.1)]) (fun _=>own0) (fun x=>R.length-x.1) 0 (fun _=>Nat.le_refl _) (fun x J=>?_) (Nat.le_refl _) (fun J=>Wk.refl ⟨⟨0,Nat.zero_le _,fun j hj=>absurd hj (Nat.not_lt_zero j)⟩,J,rfl⟩) J
   obtain ⟨i,hi,hz⟩:=x
   dsimp only
   refine wp_gen fun Q' hQ=>askA_wp ((r58 (flat R) R.length k k' i J).mpr ?_)
   dsimp only
   have yes:i<R.length→∀e,chkAt R i=e→e≠0→∀J:Nat→Value,Q (.ret,[.slice 14 0 R.length k,.int .i64 e,.slice 14 0 R.length k',.int .i64 (Int.ofNat R.length),.any (J 0)],own0):=fun hlt e he hne J2=>by
    have hc:chkS R=e:=he▸firstE_at (fun j _ hj=>hz j hj) (Nat.zero_le _) (by omega) (he.symm▸hne)
    rw [hc,q_eq_f.mpr hne] at hq
    exact hq J2
   have no:i=R.length→Q (.exit 0,[.slice 14 0 R.length k,.int .i64 0,.slice 14 0 R.length k',.int .i64 (Int.ofNat R.length),.int .i64 (Int.ofNat R.length)],own0):=fun he=>by
    subst he
    have hc:chkS R=0:=firstE_0 fun j _ hj=>hz j (by omega)
    rw [hc] at hq
    exact hq
   have next:chkAt R i=0→∀j,j<i+1→chkAt R j=0:=fun h j hj=>by
    by_cases e:j=i
    · subst e;exact h
    · exact hz j (by omega)
   clear hq
   by_cases hlt:i<R.length
   · obtain ⟨f1,f2,f3,f4⟩:=flat_at hlt
     have b1:=hR i hlt
     have ret:∀(e:Int) (o:Own),o.le=[]→chkAt R i=e→e≠0→∃vs2 o2,VW cfg (Cw cfg [.cells (flat R) false none]) 0 43 [0,2,9,10,11] [.slice 14 0 R.length k,.int .i64 e,.slice 14 0 R.length k',.int .i64 (Int.ofNat R.length),.int .i64 (Int.ofNat i)] o vs2 o2∧Q (.ret,vs2,o2):=fun e o ho he hne=>
      ⟨_,_,(vw_drop hw ho rfl).trans (VW.any (.same (.same (.same (.same (.int .nil))))) rfl),yes hlt e he hne (jv [_])⟩
     have go:∀(o:Own),o.le=[]→chkAt R i=0→∃y:{i:Nat // i≤R.length∧∀j,j<i→chkAt R j=0},R.length-y.1<R.length-i∧VW cfg (Cw cfg [.cells (flat R) false none]) 0 43 [0,2,9,10,11] [.slice 14 0 R.length k,.int .i64 0,.slice 14 0 R.length k',.int .i64 (Int.ofNat R.length),.int .i64 (Int.add (Int.ofNat i) 1)] o [.slice 14 0 R.length k,.int .i64 0,.slice 14 0 R.length k',.int .i64 (Int.ofNat R.length),.int .i64 (Int.ofNat y.1)] own0:=fun o ho h0=>
      ⟨⟨i+1,by omega,next h0⟩,by dsimp only;omega,vw_drop hw ho rfl⟩
     have hE:chkAt R i=chk1 (R.getD (i-1) rn0) (R.getD i rn0) i:=rfl
     rw [hE] at ret go
     clear yes no next hz hE
     cases i with
     | zero=>
       clear hR
       simp only [Nat.add_assoc,Nat.reduceAdd,Nat.zero_add,Nat.add_zero,f1,f2,f3,f4,isKA,intOf,sameK,ctorK] at *
       generalize R.getD 0 rn0=r at *
       unfold chk1 at ret go
       simp only [q_all,reduceCtorEq,loK,hiK,ne_eq]
       (repeat' first|exact trivial|refine ⟨?_,?_⟩|intro)<;>first|contradiction|omega|assumption|refine hQ _ ?_
       · exact ret _ _ rfl (by rw [if_neg (by assumption)]) (by assumption)
       · exact go _ rfl (by rw [if_pos (by assumption),if_neg (by omega)])
     | succ j=>
       obtain ⟨g1,g2,g3,g4⟩:=flat_at (R:=R) (i:=j) (by omega)
       have b2:=hR j (by omega)
       clear hR
       rw [show j+1-1=j by omega] at ret go
       simp only [pre_eq,Nat.add_assoc,Nat.reduceAdd,Nat.zero_add,Nat.add_zero,f1,f2,f3,f4,g1,g2,g3,g4,isKA,intOf,sameK,ctorK] at *
       generalize R.getD (j+1) rn0=r at *
       generalize R.getD j rn0=q at *
       unfold chk1 at ret go
       unfold inL at b1 b2
       simp only [q_all,reduceCtorEq,loK,hiK,ne_eq]
       (repeat' first|exact trivial|refine ⟨?_,?_⟩|intro)<;>first|contradiction|omega|assumption|refine hQ _ ?_
       all_goals first
        | exact ret _ _ rfl (by rw [if_neg (by assumption)]) (by assumption)
        | exact ret 12 _ rfl (by rw [if_pos (by assumption),if_pos ⟨by omega,.inl (by assumption)⟩]) (by decide)
        | exact ret 12 _ rfl (by rw [if_pos (by assumption),if_pos ⟨by omega,.inr (by assumption)⟩]) (by decide)
        | exact go _ rfl (by rw [if_pos (by assumption),if_neg (by rintro ⟨_,h|h⟩<;>simp_all<;>omega)])
   · obtain rfl:i=R.length:=by omega
     have no:=no rfl
     simp only [q_all,reduceCtorEq,loK,hiK,ne_eq]
     (repeat' first|exact trivial|refine ⟨?_,?_⟩|intro)<;>first|contradiction|omega|assumption|(refine hQ _ ?_;exact ⟨_,_,VW.refl,no⟩)
 · cases hv
theorem lv62 {R:List Rn} (hR:∀i,i<R.length→inL (R.getD i rn0).d):LoopVOK Tryz.prog (cfgS cfg S8) (Cw cfg [.cells (flat R) false none]) (lb 62 0) 51 [0,2,3] (v62 R):=by
 have hw:=@flat_low R
 intro vs o t Q hv hq J
 unfold v62 at hv
 split at hv
 · rename_i n k z i
   cases hv
   obtain ⟨h1,hq'⟩:=asrts_wp hq;clear hq;have hq:=hq';clear hq'
   obtain ⟨h2,hq'⟩:=asrts_wp hq;clear hq;have hq:=hq';clear hq'
   obtain ⟨h3,hq'⟩:=asrts_wp hq;clear hq;have hq:=hq';clear hq'
   obtain ⟨h4,hq'⟩:=asrts_wp hq;clear hq;have hq:=hq';clear hq'
   rw [q_ble_t] at h1
   rw [q_beq_t] at h2
   rw [q_eq_t] at h3 h4
   subst h2 h3 h4
   simp only [asrts,Tr.wp] at hq
   refine lvOK S8_ok rfl rfl lok_none (ι:={i:Nat // i≤R.length∧∀j,j<i→refAt R j=0}) (fun x=>[.slice 14 0 R.length k,.int .i64 0,.int .i64 (Int.ofNat x.1)]) (fun _=>own0) (fun x=>R.length-x.1) 0 (fun _=>Nat.le_refl _) (fun x J=>?_) (Nat.le_refl _) (fun J=>Wk.refl ⟨⟨0,Nat.zero_le _,fun j hj=>absurd hj (Nat.not_lt_zero j)⟩,J,rfl⟩) J
   obtain ⟨i,hi,hz⟩:=x
   dsimp only
   refine wp_gen fun Q' hQ=>askA_wp ((r62 (flat R) R.length k i J).mpr ?_)
   dsimp only
   have yes:i<R.length→∀e,refAt R i=e→e≠0→∀J:Nat→Value,Q (.ret,[.slice 14 0 R.length k,.int .i64 e,.any (J 0)],own0):=fun hlt e he hne J2=>by
    have hc:refS R=e:=he▸firstE_at (fun j _ hj=>hz j hj) (Nat.zero_le _) (by omega) (he.symm▸hne)
    rw [hc,q_eq_f.mpr hne] at hq
    exact hq J2
   have no:i=R.length→Q (.exit 0,[.slice 14 0 R.length k,.int .i64 0,.int .i64 (Int.ofNat R.length)],own0):=fun he=>by
    subst he
    have hc:refS R=0:=firstE_0 fun j _ hj=>hz j (by omega)
    rw [hc] at hq
    exact hq
   have next:refAt R i=0→∀j,j<i+1→refAt R j=0:=fun h j hj=>by
    by_cases e:j=i
    · subst e;exact h
    · exact hz j (by omega)
   clear hq
   by_cases hlt:i<R.length
   · obtain ⟨f1,f2,f3,f4⟩:=flat_at hlt
     have b1:=hR i hlt
     have ret:∀(e:Int) (o:Own),o.le=[]→refAt R i=e→e≠0→∃vs2 o2,VW cfg (Cw cfg [.cells (flat R) false none]) 0 51 [0,2,3] [.slice 14 0 R.length k,.int .i64 e,.int .i64 (Int.ofNat i)] o vs2 o2∧Q (.ret,vs2,o2):=fun e o ho he hne=>
      ⟨_,_,(vw_drop hw ho rfl).trans (VW.any (.same (.same (.int .nil))) rfl),yes hlt e he hne (jv [_])⟩
     have go:∀(o:Own),o.le=[]→refAt R i=0→∃y:{i:Nat // i≤R.length∧∀j,j<i→refAt R j=0},R.length-y.1<R.length-i∧VW cfg (Cw cfg [.cells (flat R) false none]) 0 51 [0,2,3] [.slice 14 0 R.length k,.int .i64 0,.int .i64 (Int.add (Int.ofNat i) 1)] o [.slice 14 0 R.length k,.int .i64 0,.int .i64 (Int.ofNat y.1)] own0:=fun o ho h0=>
      ⟨⟨i+1,by omega,next h0⟩,by dsimp only;omega,vw_drop hw ho rfl⟩
     have hE:refAt R i=ref1 (R.getD (i-1) rn0) (R.getD i rn0) i:=rfl
     rw [hE] at ret go
     clear yes no next hz hE
     cases i with
     | zero=>
       clear hR
       simp only [Nat.add_assoc,Nat.reduceAdd,Nat.zero_add,Nat.add_zero,f1,f2,f3,f4,isKA,intOf,sameK,ctorK] at *
       generalize R.getD 0 rn0=r at *
       unfold ref1 at ret go
       simp only [q_all,reduceCtorEq,loK,hiK,ne_eq]
       (repeat' first|exact trivial|refine ⟨?_,?_⟩|intro)<;>first|contradiction|omega|assumption|refine hQ _ ?_
       · exact ret _ _ rfl (by rw [if_neg (by assumption)]) (by assumption)
       · exact go _ rfl (by rw [if_pos (by assumption),if_neg (by omega)])
     | succ j=>
       obtain ⟨g1,g2,g3,g4⟩:=flat_at (R:=R) (i:=j) (by omega)
       have b2:=hR j (by omega)
       clear hR
       rw [show j+1-1=j by omega] at ret go
       simp only [pre_eq,Nat.add_assoc,Nat.reduceAdd,Nat.zero_add,Nat.add_zero,f1,f2,f3,f4,g1,g2,g3,g4,isKA,intOf,sameK,ctorK] at *
       generalize R.getD (j+1) rn0=r at *
       generalize R.getD j rn0=q at *
       unfold ref1 at ret go
       unfold inL at b1 b2
       simp only [q_all,reduceCtorEq,loK,hiK,ne_eq]
       (repeat' first|exact trivial|refine ⟨?_,?_⟩|intro)<;>first|contradiction|omega|assumption|refine hQ _ ?_
       all_goals first
        | exact ret _ _ rfl (by rw [if_neg (by assumption)]) (by assumption)
        | exact ret 12 _ rfl (by rw [if_pos (by assumption),if_pos ⟨by omega,.inl (by assumption)⟩]) (by decide)
        | exact ret 12 _ rfl (by rw [if_pos (by assumption),if_pos ⟨by omega,.inr (by assumption)⟩]) (by decide)
        | exact go _ rfl (by rw [if_pos (by assumption),if_neg (by rintro ⟨_,h|h⟩<;>simp_all<;>omega)])
   · obtain rfl:i=R.length:=by omega
     have no:=no rfl
     simp only [q_all,reduceCtorEq,loK,hiK,ne_eq]
     (repeat' first|exact trivial|refine ⟨?_,?_⟩|intro)<;>first|contradiction|omega|assumption|(refine hQ _ ?_;exact ⟨_,_,VW.refl,no⟩)
 · cases hv
def unR:List AV→List Rn
 | .int .i8 a::.int .i64 b::.int .i8 c::.int .i64 d::r=>⟨a,b,c,d⟩::unR r
 | _=>[]
def isRs:List AV→Bool
 | []=>true
 | .int .i8 _::.int .i64 b::.int .i8 _::.int .i64 d::r=>inR .i64 b&&(inR .i64 d&&isRs r)
 | _=>false
theorem flat_unR:∀{w:List AV},isRs w=true→flat (unR w)=w
 | [],_=>rfl
 | .int .i8 a::.int .i64 b::.int .i8 c::.int .i64 d::r,h=>by
   simp only [isRs,Bool.and_eq_true] at h
   simp only [unR,flat,flat_unR h.2.2]
theorem isRs_in:∀{w:List AV},isRs w=true→∀i,i<(unR w).length→inL ((unR w).getD i rn0).d
 | [],_,i,hi=>absurd hi (Nat.not_lt_zero _)
 | .int .i8 a::.int .i64 b::.int .i8 c::.int .i64 d::r,h,i,hi=>by
   simp only [isRs,Bool.and_eq_true,q_inR_t,loK,hiK] at h
   cases i with
   | zero=>exact h.2.1
   | succ i=>exact isRs_in h.2.2 i (by simpa [unR] using hi)
theorem chk_ref {R:List Rn} (hR:∀i,i<R.length→inL (R.getD i rn0).d):chkS R=refS R:=by
 unfold chkS refS
 refine firstE_eq fun j _ hj hz=>?_
 unfold chkAt refAt chk1 ref1
 by_cases h:rChk (R.getD j rn0).a (R.getD j rn0).b (R.getD j rn0).c (R.getD j rn0).d=0
 · rw [if_pos h,if_pos h]
   cases j with
   | zero=>rw [if_neg (by omega),if_neg (by omega)]
   | succ j=>
     have hp:=hz j (Nat.zero_le _) (by omega)
     have hq:rChk (R.getD j rn0).a (R.getD j rn0).b (R.getD j rn0).c (R.getD j rn0).d=0:=by
      unfold chkAt chk1 at hp
      by_cases e:rChk (R.getD j rn0).a (R.getD j rn0).b (R.getD j rn0).c (R.getD j rn0).d=0
      · exact e
      · rw [if_neg e] at hp;exact absurd hp e
     have:=order_eq hq h (hR j (by omega)).2 (hR (j+1) (by omega)).2
     simp only [show j+1-1=j by omega,this]
 · rw [if_neg h,if_neg h]
theorem body58:bodyOf tab 58=some (fnOf 58,codeOf 58):=by kernel_rfl
theorem loops58:(loopsOf (codeOf 58)).map (·.1)=[0]:=by kernel_rfl
theorem f58 {R:List Rn} {k:Cap} (hR:∀i,i<R.length→inL (R.getD i rn0).d) (hn:R.length≤1000):FactW Tryz.prog cfg 58 [.slice 14 0 R.length k] [.cells (flat R) false none] (.int .i64 (chkS R)) []:=by
 refine fpwOK S8_ok (L:=L58 R) flat_low body58 (by simp) (lok_at loops58 fun i hi e he st Q hw=>?_) (wp_gen fun Q' hQ=>askA_wp ((b58 (flat R) R R.length k).mpr ?_)) (by simp [idsA])
 · have hi:i=0:=by simp at hi;omega
   subst hi
   cases he
   exact loopE_ok (base0.good S8_ok) (by decide) rfl (lv58 hR) hw
 · have h0:chkS R=0→Q' (.int .i64 0):=fun h=>hQ _ (by rw [h])
   simp only [q_all,reduceCtorEq,loK,hiK,ne_eq]
   (repeat' first|exact trivial|refine ⟨?_,?_⟩|intro)<;>first|contradiction|omega|assumption|(exact h0 (by assumption))|exact hQ _ rfl
def w58:WSum:=fun args ws=>match args,ws with
 | [.slice 14 0 n k],[.cells w false none]=>some (asrts [isRs w,Nat.beq (unR w).length n,Nat.ble n 1000] (.ret (.int .i64 (chkS (unR w)),[])))
 | _,_=>none
theorem add58 {S:Sums} (hS:SumsOK Tryz.prog cfg S):SumsOK Tryz.prog cfg (addG S 58 (winS 14 [4] w58)):=by
 refine sums_addG hS (win_ok good0.lv ro0 fun args ws t r he hr=>?_)
 unfold w58 at he
 split at he
 · rename_i n k w
   cases he
   obtain ⟨h1,hr'⟩:=asrts_run hr;clear hr;have hr:=hr';clear hr'
   obtain ⟨h2,hr'⟩:=asrts_run hr;clear hr;have hr:=hr';clear hr'
   obtain ⟨h3,hr'⟩:=asrts_run hr;clear hr;have hr:=hr';clear hr'
   rw [q_beq_t] at h2
   rw [q_ble_t] at h3
   subst h2
   cases hr
   have key:=f58 (R:=unR w) (k:=k) (isRs_in h1) h3
   rw [flat_unR h1] at key
   exact ⟨key,fun x hx=>by cases hx⟩
 · cases he
theorem body62:bodyOf tab 62=some (fnOf 62,codeOf 62):=by kernel_rfl
theorem loops62:(loopsOf (codeOf 62)).map (·.1)=[0]:=by kernel_rfl
theorem f62 {R:List Rn} {k:Cap} (hR:∀i,i<R.length→inL (R.getD i rn0).d) (hn:R.length≤1000):FactW Tryz.prog cfg 62 [.slice 14 0 R.length k] [.cells (flat R) false none] (.int .i64 (refS R)) []:=by
 refine fpwOK S8_ok (L:=L62 R) flat_low body62 (by simp) (lok_at loops62 fun i hi e he st Q hw=>?_) (wp_gen fun Q' hQ=>askA_wp ((b62 (flat R) R R.length k).mpr ?_)) (by simp [idsA])
 · have hi:i=0:=by simp at hi;omega
   subst hi
   cases he
   exact loopE_ok (base0.good S8_ok) (by decide) rfl (lv62 hR) hw
 · have h0:refS R=0→Q' (.int .i64 0):=fun h=>hQ _ (by rw [h])
   simp only [q_all,reduceCtorEq,loK,hiK,ne_eq]
   (repeat' first|exact trivial|refine ⟨?_,?_⟩|intro)<;>first|contradiction|omega|assumption|(exact h0 (by assumption))|exact hQ _ rfl
def w62:WSum:=fun args ws=>match args,ws with
 | [.slice 14 0 n k],[.cells w false none]=>some (asrts [isRs w,Nat.beq (unR w).length n,Nat.ble n 1000] (.ret (.int .i64 (refS (unR w)),[])))
 | _,_=>none
theorem add62 {S:Sums} (hS:SumsOK Tryz.prog cfg S):SumsOK Tryz.prog cfg (addG S 62 (winS 14 [4] w62)):=by
 refine sums_addG hS (win_ok good0.lv ro0 fun args ws t r he hr=>?_)
 unfold w62 at he
 split at he
 · rename_i n k w
   cases he
   obtain ⟨h1,hr'⟩:=asrts_run hr;clear hr;have hr:=hr';clear hr'
   obtain ⟨h2,hr'⟩:=asrts_run hr;clear hr;have hr:=hr';clear hr'
   obtain ⟨h3,hr'⟩:=asrts_run hr;clear hr;have hr:=hr';clear hr'
   rw [q_beq_t] at h2
   rw [q_ble_t] at h3
   subst h2
   cases hr
   have key:=f62 (R:=unR w) (k:=k) (isRs_in h1) h3
   rw [flat_unR h1] at key
   exact ⟨key,fun x hx=>by cases hx⟩
 · cases he
end Go.Ev
end
section
set_option maxRecDepth 100000
set_option maxHeartbeats 4000000
namespace Go.Ev
open Go Go.Proofs Go.Proofs.YtafekjglclnegaaGreatDoor
def yOfR (d:Int):Int:=yOf d
def mOfR (d:Int):Int:=mOf d
def inCal (d:Int):Bool:=intLe (-3652425000000000000) d&&intLe d 3652425000000000365
theorem yst_lo:yst (-10000000000000000) = -3652425000000000000:=by decide
theorem yst_hi:yst 10000000000000001=3652425000000000366:=by decide
theorem okY_yOf {d:Int}:okY (yOf d)↔inCal d=true:=by
 obtain ⟨h1,h2⟩:=yOf_spec d
 unfold inCal okY
 rw [Bool.and_eq_true,q_le_t,q_le_t,←yst_lo]
 have e:∀x:Int,x≤3652425000000000365↔x<yst 10000000000000001:=fun x=>by rw [yst_hi];omega
 rw [e]
 generalize yOf d=y at *
 constructor
 · rintro ⟨a,b⟩
   have:=yst_le a
   have:=yst_le (show y+1≤10000000000000001 by omega)
   omega
 · rintro ⟨a,b⟩
   refine ⟨?_,?_⟩
   · have:=fun h:y+1≤-10000000000000000=>yst_le h
     omega
   · have:=fun h:10000000000000001≤y=>yst_le h
     omega
def s214:Sum:=fun args=>match args with
 | [.int .i64 d]=>some (asrts [inR .i64 d] (.test (inCal d) fun b=>bif b then .ret (.tuple [.int .i64 (yOfR d),.int .i64 0]) else .ret (.tuple [.int .i64 0,.int .i64 6])))
 | _=>none
def XA10:Sums:=addP XA9 214 s214
def v217:LoopV:=fun vs o=>match vs,o with
 | [.int .i64 y,.int .i64 l,.int .i64 i,.int .i64 a,.int .i64 b],⟨0,[],[]⟩=>some (asrts [okYb y,intEq i 0,intEq a 0,intEq b 0,intLe 0 l,Bool.not (intLe (365+lpR y) l)] (.all fun J=>.ret (.ret,[.int .i64 y,.any (J 0),.any (J 1),.int .i64 (mOfL y l),.int .i64 0],own0)))
 | _,_=>none
def s217:Sum:=fun args=>match args with
 | [.int .i64 d]=>some (asrts [inR .i64 d] (.test (inCal d) fun b=>bif b then .ret (.tuple [.int .i64 (yOfR d),.int .i64 (mOfR d),.int .i64 0]) else .ret (.tuple [.int .i64 0,.int .i64 0,.int .i64 6])))
 | _=>none
def L217:Loops:=addL noL 0 (loopE 43 [2,7,26,3,4] v217)
theorem r217 (y l i:Int) (J:Nat→Value) {Q:VQ→Prop}:askA Q (rT XA10 noL [] 217 0 43 [2,7,26,3,4] [.int .i64 y,.int .i64 l,.int .i64 i,.int .i64 0,.int .i64 0] J own0) (dtN 1212412422022)=((fun (u1 u2:AV) (u0:Int)=>(fun (u5:AV) (u4:Bool) (u6:Int) (u3:Prop)=>not (intLe 12 i)=true∧u3∧and (intLe (Neg.neg 10000000000000000) y) (intLe y 10000000000000000)=true∧and (intLe 1 u0) (intLe u0 12)=true∧(u4=true→u3∧Q (AX.ret,([u1,AV.int .i64 l,AV.int .i64 i,u5,u2],{ n:=0,os:=[],le:=[] })))∧(u4=false→(inR .i64 u6=true→u3∧Q (AX.normal,([u1,AV.int .i64 u6,u5,u2,u2],{ n:=0,os:=[],le:=[] })))∧(inR .i64 u6=false→u3∧Q (AX.normal,([u1,AV.int .i64 (IntKind.wrap .i64 u6),u5,u2,u2],{ n:=0,os:=[],le:=[] }))))) (AV.int .i64 u0) (not (intLe (mlnR y u0) l)) (Int.sub l (mlnR y u0)) (inR .i64 u0=true)) (AV.int .i64 y) (AV.int .i64 0) (Int.add i 1)):=by kernel_rfl
theorem b217 (d:Int) {Q:AV→Prop}:askA Q (pT XA10 L217 217 [.int .i64 d]) (dtN 1011114400021114400024400420)=((fun (u1:AV) (u0:Int)=>(fun (u4:AV) (u2:Bool) (u3:Int)=>(fun (u6 u7 u8:Bool) (u5:Prop)=>inR .i64 d=true∧(inCal d=true→(u5→(inR .i64 u3=true→u5∧(intLe 0 u3=true→(u6=true→(∀J1:Nat→Value,∀J2:Nat→Value,Q (AV.tuple [u4,AV.int .i64 (mOfL u0 u3),u1])))∧(u6=false→False))∧(intLe 0 u3=false→False))∧(inR .i64 u3=false→u5∧(u7=true→(u8=true→(∀J1:Nat→Value,∀J2:Nat→Value,Q (AV.tuple [u4,AV.int .i64 (mOfL u0 (IntKind.wrap .i64 u3)),u1])))∧(u8=false→False))∧(u7=false→False)))∧(u2=false→False))∧(inCal d=false→Q (AV.tuple [u1,u1,AV.int .i64 6]))) (not (intLe (HAdd.hAdd 365 (lpR u0)) u3)) (intLe 0 (IntKind.wrap .i64 u3)) (not (intLe (HAdd.hAdd 365 (lpR u0)) (IntKind.wrap .i64 u3))) (u2=true)) (AV.int .i64 u0) (and (intLe (Neg.neg 10000000000000000) u0) (intLe u0 10000000000000000)) (Int.sub d (ystR u0))) (AV.int .i64 0) (yOfR d)):=by kernel_rfl
theorem body217:bodyOf tab 217=some (fnOf 217,codeOf 217):=by kernel_rfl
theorem body214:bodyOf tab 214=some (fnOf 214,codeOf 214):=by kernel_rfl
theorem loops217:(loopsOf (codeOf 217)).map (·.1)=[0]:=by kernel_rfl
theorem XA10_ok:SumsOK Tryz.prog cfg XA10:=by
 refine sums_addP XA9_ok fun args t v he hv=>?_
 unfold s214 at he
 split at he
 · rename_i d
   cases he
   obtain ⟨h1,hv⟩:=asrts_run hv
   rw [q_inR_t] at h1
   simp only [loK,hiK] at h1
   have hv':Tr.run (bif inCal d then Tr.ret (AV.tuple [.int .i64 (yOfR d),.int .i64 0]) else Tr.ret (AV.tuple [.int .i64 0,.int .i64 6]))=some v:=hv
   cases hc:inCal d with
   | true=>
     rw [hc] at hv'
     cases hv'
     refine fact_calls body214 (by simp [idsA,idsL]) fun m w hG=>?_
     simpa [concL,conc,yOfR] using years_Of_ok d w hG h1.1 h1.2 (okY_yOf.2 hc)
   | false=>
     rw [hc] at hv'
     cases hv'
     refine fact_calls body214 (by simp [idsA,idsL]) fun m w hG=>?_
     simpa [concL,conc,yOfR] using years_Of_no d w hG h1.1 h1.2 (fun h=>by rw [okY_yOf.1 h] at hc;cases hc)
 · cases he
theorem mcum_1 (y:Int):mcum y 1=0:=by unfold mcum;rw [if_pos (by decide)]
theorem lv217:LoopVOK Tryz.prog (cfgS cfg XA10) (Cw cfg []) (lb 217 0) 43 [2,7,26,3,4] v217:=by
 intro vs o t Q hv hq J
 unfold v217 at hv
 split at hv
 · rename_i y l i a b
   cases hv
   obtain ⟨h1,hq1⟩:=asrts_wp hq
   obtain ⟨h2,hq2⟩:=asrts_wp hq1
   obtain ⟨h3,hq3⟩:=asrts_wp hq2
   obtain ⟨h4,hq4⟩:=asrts_wp hq3
   obtain ⟨h5,hq5⟩:=asrts_wp hq4
   obtain ⟨h6,hq6⟩:=asrts_wp hq5
   clear hq hq1 hq2 hq3 hq4 hq5
   rw [q_eq_t] at h2 h3 h4
   rw [q_le_t] at h5
   rw [q_not_t,q_le_f] at h6
   subst h2 h3 h4
   have hy:=okYb_iff.1 h1
   have hq:∀J:Nat→Value,Q (.ret,[.int .i64 y,.any (J 0),.any (J 1),.int .i64 (mOfL y l),.int .i64 0],own0):=hq6
   have hs:=mOfL_spec y l h5 h6
   have h13:=mcum_13 y
   refine lvOK XA10_ok rfl rfl lok_none (ι:={i:Nat // (i:Int)+1≤mOfL y l}) (fun x=>[.int .i64 y,.int .i64 (l-mcum y ((x.1:Int)+1)),.int .i64 (x.1:Int),.int .i64 0,.int .i64 0]) (fun _=>own0) (fun x=>12-x.1) 0 (fun _=>Nat.zero_le _) (fun x J=>?_) (Nat.le_refl _) (fun J=>Wk.refl ⟨⟨0,by simp;omega⟩,J,by
    have e:l-mcum y (((0:Nat):Int)+1)=l:=by rw [show ((0:Nat):Int)+1=1 from rfl,mcum_1];omega
    dsimp only
    rw [e];rfl⟩) J
   obtain ⟨i,hi⟩:=x
   dsimp only
   refine wp_gen fun Q' hQ=>askA_wp ((r217 y (l-mcum y ((i:Int)+1)) i J).mpr ?_)
   dsimp only
   have e:=mcum_succ y ((i:Int)+1) (by omega) (by omega)
   have m1:=mcum_mono y (a:=(i:Int)+1) (b:=mOfL y l) (by omega) hi
   have m2:¬(i:Int)+1=mOfL y l→mcum y ((i:Int)+1+1)≤mcum y (mOfL y l):=fun h=>mcum_mono y (by omega) (by omega)
   have m3:(i:Int)+1=mOfL y l→mcum y ((i:Int)+1+1)=mcum y (mOfL y l+1):=fun h=>by rw [h]
   have b2:=mlnR_bd y ((i:Int)+1)
   have b3:=mcum_bd y ((i:Int)+1) (by omega) (by omega)
   have em:mlnR y ((i:Int)+1)=mlen y ((i:Int)+1):=rfl
   have l2:0≤lpR y∧lpR y≤1:=lp_01 y
   have go:mcum y ((i:Int)+1+1)≤l→Q' (.normal,[.int .i64 y,.int .i64 (l-mcum y ((i:Int)+1)-mlnR y ((i:Int)+1)),.int .i64 ((i:Int)+1),.int .i64 0,.int .i64 0],own0):=fun h=>
    hQ (.normal,_,_) ⟨⟨i+1,by
     have:¬(i:Int)+1=mOfL y l:=fun h'=>by have:=m3 h';omega
     simp;omega⟩,by dsimp only;omega,VW.of_eq (by
     have:l-mcum y ((i:Int)+1)-mlnR y ((i:Int)+1)=l-mcum y (((i+1:Nat):Int)+1):=by rw [show (((i+1:Nat):Int)+1)=(i:Int)+1+1 by omega,e,em];omega
     rw [this];rfl) rfl⟩
   have fin:l<mcum y ((i:Int)+1+1)→Q' (.ret,[.int .i64 y,.int .i64 (l-mcum y ((i:Int)+1)),.int .i64 (i:Int),.int .i64 ((i:Int)+1),.int .i64 0],own0):=fun h=>by
    have e2:(i:Int)+1=mOfL y l:=by
     refine Classical.byContradiction fun h'=>?_
     have:=m2 h';omega
    refine hQ (.ret,_,_) ⟨_,_,VW.any (.same (.int (.int (.same (.same .nil))))) rfl,?_⟩
    rw [e2]
    exact hq (jv [_,_])
   clear hQ hq hq6
   rw [←em] at e
   simp only [q_all,reduceCtorEq,loK,hiK,ne_eq]
   have om:okMb ((i:Int)+1)=true:=okMb_iff.2 (by omega)
   generalize mlnR y ((i:Int)+1)=ml at *
   generalize mcum y ((i:Int)+1+1)=c2 at *
   generalize mcum y ((i:Int)+1)=c1 at *
   (repeat' first|exact trivial|refine ⟨?_,?_⟩|intro)<;>first|omega|exact go (by omega)|exact fin (by omega)
 · cases hv
theorem add217 {S:Sums} (hS:SumsOK Tryz.prog cfg S):SumsOK Tryz.prog cfg (addP S 217 s217):=by
 refine sums_addP hS fun args t v he hv=>?_
 unfold s217 at he
 split at he
 · rename_i d
   cases he
   obtain ⟨h1,hv⟩:=asrts_run hv
   rw [q_inR_t] at h1
   simp only [loK,hiK] at h1
   have hv':Tr.run (bif inCal d then Tr.ret (AV.tuple [.int .i64 (yOfR d),.int .i64 (mOfR d),.int .i64 0]) else Tr.ret (AV.tuple [.int .i64 0,.int .i64 0,.int .i64 6]))=some v:=hv
   have ids:idsA v=[]:=by
    cases hb:inCal d<;>rw [hb] at hv'<;>cases hv'<;>simp [idsA,idsL]
   refine fpOK XA10_ok (L:=L217) body217 (by simp) (lok_at loops217 fun i hi e he st Q hw=>?_) (wp_gen fun Q' hQ=>askA_wp ((b217 d).mpr ?_)) ids
   · have hi:i=0:=by simp at hi;omega
     subst hi
     cases he
     exact loopE_ok (base0.good XA10_ok) (by decide) rfl lv217 hw
   · dsimp only
     obtain ⟨y1,y2⟩:=yOf_spec d
     rw [yst_succ] at y2
     have yes:inCal d=true→Q' (.tuple [.int .i64 (yOfR d),.int .i64 (mOfL (yOfR d) (d-ystR (yOfR d))),.int .i64 0]):=fun h=>by
      rw [h] at hv';cases hv';exact hQ _ rfl
     have no:inCal d=false→Q' (.tuple [.int .i64 0,.int .i64 0,.int .i64 6]):=fun h=>by
      rw [h] at hv';cases hv';exact hQ _ rfl
     have yb:inCal d=true→-10000000000000000≤yOfR d∧yOfR d≤10000000000000000:=fun h=>okY_yOf.2 h
     have y1:ystR (yOfR d)≤d:=y1
     have y2:d<ystR (yOfR d)+365+lpR (yOfR d):=y2
     have l2:0≤lpR (yOfR d)∧lpR (yOfR d)≤1:=lp_01 _
     clear hQ hv hv' ids
     cases hc:inCal d with
     | true=>
       have yes:=yes hc
       obtain ⟨c1,c2⟩:=yb hc
       have c3:=ystR_bd (y:=yOfR d) c1 (by omega)
       clear no yb
       generalize ystR (yOfR d)=ys at *
       generalize yOfR d=yy at *
       generalize lpR yy=ll at *
       simp only [q_all,reduceCtorEq,loK,hiK,ne_eq]
       (repeat' first|exact trivial|refine ⟨?_,?_⟩|intro)<;>first|omega|exact yes|(exfalso;assumption)|(rename_i h;cases h)
     | false=>
       have no:=no hc
       simp only [q_all,reduceCtorEq,loK,hiK,ne_eq]
       (repeat' first|exact trivial|refine ⟨?_,?_⟩|intro)<;>first|omega|contradiction|exact no
 · cases he
end Go.Ev
end
