import Derived.Test.YtafekjglclnegaaGreatDoorP38
import Derived.Test.YtafekjglclnegaaGreatDoorP39
set_option linter.all false
section
set_option maxRecDepth 100000
set_option maxHeartbeats 1000000
namespace Go.Ev
open Go Go.Proofs
def w20:WSum:=fun args ws=>match args,ws with
 | [.agg [.int .u8 k,.slice 14 0 n K,.bool ng,.bool lg,.str s,.int .i64 e,.int .i64 g,.str mo,.str da,.int .u8 x,.int .u8 y,.int .u8 z,.int .u8 p,.int .i8 a,.int .i64 b,.int .i8 c,.int .i64 d]],[.cells w false none]=>some (asrts [Nat.ble s.length 1000,Nat.ble mo.length 1000,Nat.ble da.length 1000,inR .i64 e,inR .i64 g,inR .i64 b,inR .i64 d,inR .i8 a,inR .i8 c,inR .u8 x,inR .u8 y,inR .u8 z,inR .u8 p,isRs w,Nat.beq (unR w).length n,Nat.ble n 1000] (.ret (.int .i64 (famE k n (chkS (unR w)) (dZ ng lg s e g mo da x y z) p (sZ a b c d) (errF ng lg s e g mo da x y z) g (hasXB (s++mo++da)) (mZ x y z) (fitB a b c d p) (rChk a b c d) a c),[])))
 | [.agg [.int .u8 k,.nilslice,.bool ng,.bool lg,.str s,.int .i64 e,.int .i64 g,.str mo,.str da,.int .u8 x,.int .u8 y,.int .u8 z,.int .u8 p,.int .i8 a,.int .i64 b,.int .i8 c,.int .i64 d]],[]=>some (asrts [Nat.ble s.length 1000,Nat.ble mo.length 1000,Nat.ble da.length 1000,inR .i64 e,inR .i64 g,inR .i64 b,inR .i64 d,inR .i8 a,inR .i8 c,inR .u8 x,inR .u8 y,inR .u8 z,inR .u8 p] (.ret (.int .i64 (famE k 0 0 (dZ ng lg s e g mo da x y z) p (sZ a b c d) (errF ng lg s e g mo da x y z) g (hasXB (s++mo++da)) (mZ x y z) (fitB a b c d p) (rChk a b c d) a c),[])))
 | _,_=>none
def w21:WSum:=fun args ws=>match args,ws with
 | [.agg [.int .u8 k,.slice 14 0 n K,.bool ng,.bool lg,.str s,.int .i64 e,.int .i64 g,.str mo,.str da,.int .u8 x,.int .u8 y,.int .u8 z,.int .u8 p,.int .i8 a,.int .i64 b,.int .i8 c,.int .i64 d]],[.cells w false none]=>some (asrts [Nat.ble s.length 1000,Nat.ble mo.length 1000,Nat.ble da.length 1000,inR .i64 e,inR .i64 g,inR .i64 b,inR .i64 d,inR .i8 a,inR .i8 c,inR .u8 x,inR .u8 y,inR .u8 z,inR .u8 p,isRs w,Nat.beq (unR w).length n,Nat.ble n 1000] (.ret (.int .i64 (famE k n (refS (unR w)) (dZ ng lg s e g mo da x y z) p (sZ a b c d) (errF ng lg s e g mo da x y z) g (hasXB (s++mo++da)) (mZ x y z) (fitB a b c d p) (rChk a b c d) a c),[])))
 | [.agg [.int .u8 k,.nilslice,.bool ng,.bool lg,.str s,.int .i64 e,.int .i64 g,.str mo,.str da,.int .u8 x,.int .u8 y,.int .u8 z,.int .u8 p,.int .i8 a,.int .i64 b,.int .i8 c,.int .i64 d]],[]=>some (asrts [Nat.ble s.length 1000,Nat.ble mo.length 1000,Nat.ble da.length 1000,inR .i64 e,inR .i64 g,inR .i64 b,inR .i64 d,inR .i8 a,inR .i8 c,inR .u8 x,inR .u8 y,inR .u8 z,inR .u8 p] (.ret (.int .i64 (famE k 0 0 (dZ ng lg s e g mo da x y z) p (sZ a b c d) (errF ng lg s e g mo da x y z) g (hasXB (s++mo++da)) (mZ x y z) (fitB a b c d p) (rChk a b c d) a c),[])))
 | _,_=>none
def s22:Sum:=fun args=>match args with
 | []=>some (.ret (.bool true))
 | _=>none
def Y6:Sums:=addG (addG (addP nilS 22 s22) 20 (winS 14 [4] w20)) 21 (winS 14 [4] w21)
theorem b6s (ng lg:Bool) (s:List UInt8) (e g:Int) (mo da:List UInt8) (k x y z p a b c d:Int) (w:List AV) (n:Nat) (K:Cap) {Q:AV→Prop}:askA Q (pW Y6 noL [.cells w false none] 6 [.agg [.int .u8 k,.slice 14 0 n K,.bool ng,.bool lg,.str s,.int .i64 e,.int .i64 g,.str mo,.str da,.int .u8 x,.int .u8 y,.int .u8 z,.int .u8 p,.int .i8 a,.int .i64 b,.int .i8 c,.int .i64 d]]) (dtN 1111312042277777556244277774556332207322073220270)=((fun (u0 u1 ui uk ul:Bool) (uj:Int) (u4:List AV) (u2 u3:Nat) (u5 u6 u7 u9 ua ub uc ud ue uf ug uh:Prop)=>(fun (uo up ut uu:Bool) (um un uq ur us:Prop)=>(fun (uv:Prop)=>um∧um∧um∧um∧um∧um∧u0=false∧un∧un∧un∧un∧un∧u1=false∧uv∧uv∧uv∧uv∧uv∧uo=false∧not (intLe (Int.ofNat u3) 10)=false∧(up=true→u5∧uq∧ur∧u6∧u7∧u9∧ua∧ub∧uc∧ud∧ue∧uf∧ug∧(us→(ut=true→uh∧up=true∧u5∧uq∧ur∧u6∧u7∧u9∧ua∧ub∧uc∧ud∧ue∧uf∧ug∧us∧ut=true∧uh∧(uu=true→uu=true∧Q (AV.bool true))∧(uu=false→uu=false∧Q (AV.bool false)))∧(ut=false→False))∧(isRs u4=false→False))∧(up=false→False)) (not uo=true)) (not (intLe (Int.ofNat u2) 10)) (and true (and (Nat.ble (HAdd.hAdd 0 (HMul.hMul n 4)) (List.length w)) (belowL 14 u4))) (Nat.beq (List.length (unR u4)) n) (intEq (famE k n (chkS (unR u4)) ui p (sZ a b c d) uj g uk (mZ x y z) ul (rChk a b c d) a c) (famE k n (refS (unR u4)) ui p (sZ a b c d) uj g uk (mZ x y z) ul (rChk a b c d) a c)) (not u0=true) (not u1=true) (Nat.ble u2 1000=true) (Nat.ble u3 1000=true) (isRs u4=true)) (not (intLe (Int.ofNat n) 8)) (not (intLe (Int.ofNat (List.length s)) 40)) (dZ ng lg s e g mo da x y z) (hasXB (HAppend.hAppend (HAppend.hAppend s mo) da)) (fitB a b c d p) (errF ng lg s e g mo da x y z) (winOf w 0 (HMul.hMul n 4)) (List.length mo) (List.length da) (Nat.ble (List.length s) 1000=true) (inR .i64 e=true) (inR .i64 g=true) (inR .i64 b=true) (inR .i64 d=true) (inR .i8 a=true) (inR .i8 c=true) (inR .u8 x=true) (inR .u8 y=true) (inR .u8 z=true) (inR .u8 p=true) (Nat.ble n 1000=true)):=by kernel_rfl
theorem b6n (ng lg:Bool) (s:List UInt8) (e g:Int) (mo da:List UInt8) (k x y z p a b c d:Int) {Q:AV→Prop}:askA Q (pW Y6 noL [] 6 [.agg [.int .u8 k,.nilslice,.bool ng,.bool lg,.str s,.int .i64 e,.int .i64 g,.str mo,.str da,.int .u8 x,.int .u8 y,.int .u8 z,.int .u8 p,.int .i8 a,.int .i64 b,.int .i8 c,.int .i64 d]]) (dtN 120227777662777766332207322076)=((fun (u0:Bool) (uf:Int) (u1 u2:Nat) (u3 u4 u5 u6 u7 u9 ua ub uc ud ue:Prop)=>(fun (uh:Bool) (ug ui uj uk:Prop)=>(fun (ul:Prop)=>ug∧ug∧ug∧ug∧ug∧u0=false∧ul∧ul∧ul∧ul∧ul∧uh=false∧not (intLe (Int.ofNat u2) 10)=false∧u3∧ui∧uj∧u4∧u5∧u6∧u7∧u9∧ua∧ub∧uc∧ud∧ue∧u3∧ui∧uj∧u4∧u5∧u6∧u7∧u9∧ua∧ub∧uc∧ud∧ue∧uk∧uk∧Q (AV.bool true)) (not uh=true)) (not (intLe (Int.ofNat u1) 10)) (not u0=true) (Nat.ble u1 1000=true) (Nat.ble u2 1000=true) (intEq uf uf=true)) (not (intLe (Int.ofNat (List.length s)) 40)) (famE k 0 0 (dZ ng lg s e g mo da x y z) p (sZ a b c d) (errF ng lg s e g mo da x y z) g (hasXB (HAppend.hAppend (HAppend.hAppend s mo) da)) (mZ x y z) (fitB a b c d p) (rChk a b c d) a c) (List.length mo) (List.length da) (Nat.ble (List.length s) 1000=true) (inR .i64 e=true) (inR .i64 g=true) (inR .i64 b=true) (inR .i64 d=true) (inR .i8 a=true) (inR .i8 c=true) (inR .u8 x=true) (inR .u8 y=true) (inR .u8 z=true) (inR .u8 p=true)):=by kernel_rfl
theorem b6t (ng lg:Bool) (s:List UInt8) (e g:Int) (mo da:List UInt8) (k x y z p a b c d:Int) (w:List AV) (n:Nat) (K:Cap) {Q:AV→Prop}:askA Q (pW Y6 noL [.cells w false none] 6 [.agg [.int .u8 k,.slice 14 0 n K,.bool ng,.bool lg,.str s,.int .i64 e,.int .i64 g,.str mo,.str da,.int .u8 x,.int .u8 y,.int .u8 z,.int .u8 p,.int .i8 a,.int .i64 b,.int .i8 c,.int .i64 d]]) (dtN 10562338155238100238102322022432202243220740)=((fun (u0 u1 u2:Bool) (u3:Prop)=>(fun (u4 u5 u6 u7 u9 ua:Prop)=>(u4→u4∧u4∧u4∧u4∧u4∧u0=false∧(u5→u5∧u5∧u5∧u5∧u1=false∧(u6→u6∧u6∧u6∧u6∧u2=false∧not (intLe (Int.ofNat (List.length da)) 10)=true∧u3)∧(u7→u7∧u7∧u7∧u7∧u2=true∧u3))∧(u9→u9∧u9∧u9∧u9∧u1=true∧u3))∧(ua→ua∧ua∧ua∧ua∧ua∧u0=true∧u3)) (not u0=true) (not u1=true) (not u2=true) (not u2=false) (not u1=false) (not u0=false)) (not (intLe (Int.ofNat n) 8)) (not (intLe (Int.ofNat (List.length s)) 40)) (not (intLe (Int.ofNat (List.length mo)) 10)) (Q (AV.bool true))):=by kernel_rfl
theorem b6u (ng lg:Bool) (s:List UInt8) (e g:Int) (mo da:List UInt8) (k x y z p a b c d:Int) {Q:AV→Prop}:askA Q (pW Y6 noL [] 6 [.agg [.int .u8 k,.nilslice,.bool ng,.bool lg,.str s,.int .i64 e,.int .i64 g,.str mo,.str da,.int .u8 x,.int .u8 y,.int .u8 z,.int .u8 p,.int .i8 a,.int .i64 b,.int .i8 c,.int .i64 d]]) (dtN 155238100238102322022432202246)=((fun (u0 u1:Bool) (u2:Prop)=>(fun (u3 u4 u5 u6:Prop)=>(u3→u3∧u3∧u3∧u3∧u0=false∧(u4→u4∧u4∧u4∧u4∧u1=false∧not (intLe (Int.ofNat (List.length da)) 10)=true∧u2)∧(u5→u5∧u5∧u5∧u5∧u1=true∧u2))∧(u6→u6∧u6∧u6∧u6∧u0=true∧u2)) (not u0=true) (not u1=true) (not u1=false) (not u0=false)) (not (intLe (Int.ofNat (List.length s)) 40)) (not (intLe (Int.ofNat (List.length mo)) 10)) (Q (AV.bool true))):=by kernel_rfl
theorem isRs_rs:∀{w:List AV},isRs w=true→inRs (unR w)
 | [],_=>fun i hi=>absurd hi (Nat.not_lt_zero _)
 | .int .i8 a::.int .i64 b::.int .i8 c::.int .i64 d::r,h=>fun i hi=>by
   simp only [isRs,Bool.and_eq_true,q_inR_t,loK,hiK] at h
   cases i with
   | zero=>exact ⟨h.1,h.2.1⟩
   | succ i=>exact isRs_rs h.2.2 i (by simpa [unR] using hi)
theorem add20 {S:Sums} (hS:SumsOK Tryz.prog cfg S):SumsOK Tryz.prog cfg (addG S 20 (winS 14 [4] w20)):=by
 refine sums_addG hS (win_ok good0.lv ro0 fun args ws t r he hr=>?_)
 unfold w20 at he
 split at he
 · rename_i k n K ng lg s e g mo da x y z p a b c d w
   cases he
   obtain ⟨h1,hr'⟩:=asrts_run hr;clear hr;have hr:=hr';clear hr'
   obtain ⟨h2,hr'⟩:=asrts_run hr;clear hr;have hr:=hr';clear hr'
   obtain ⟨h3,hr'⟩:=asrts_run hr;clear hr;have hr:=hr';clear hr'
   obtain ⟨h4,hr'⟩:=asrts_run hr;clear hr;have hr:=hr';clear hr'
   obtain ⟨h5,hr'⟩:=asrts_run hr;clear hr;have hr:=hr';clear hr'
   obtain ⟨h6,hr'⟩:=asrts_run hr;clear hr;have hr:=hr';clear hr'
   obtain ⟨h7,hr'⟩:=asrts_run hr;clear hr;have hr:=hr';clear hr'
   obtain ⟨h8,hr'⟩:=asrts_run hr;clear hr;have hr:=hr';clear hr'
   obtain ⟨h9,hr'⟩:=asrts_run hr;clear hr;have hr:=hr';clear hr'
   obtain ⟨h10,hr'⟩:=asrts_run hr;clear hr;have hr:=hr';clear hr'
   obtain ⟨h11,hr'⟩:=asrts_run hr;clear hr;have hr:=hr';clear hr'
   obtain ⟨h12,hr'⟩:=asrts_run hr;clear hr;have hr:=hr';clear hr'
   obtain ⟨h13,hr'⟩:=asrts_run hr;clear hr;have hr:=hr';clear hr'
   obtain ⟨h14,hr'⟩:=asrts_run hr;clear hr;have hr:=hr';clear hr'
   obtain ⟨h15,hr'⟩:=asrts_run hr;clear hr;have hr:=hr';clear hr'
   obtain ⟨h16,hr'⟩:=asrts_run hr;clear hr;have hr:=hr';clear hr'
   rw [q_ble_t] at h1 h2 h3
   rw [q_inR_t] at h4 h5 h6 h7 h8 h9 h10 h11 h12 h13
   simp only [loK,hiK] at h4 h5 h6 h7 h8 h9 h10 h11 h12 h13
   rw [q_beq_t] at h15
   rw [q_ble_t] at h16
   subst h15
   cases hr
   have key:=f20s (ng:=ng) (lg:=lg) (s:=s) (e:=e) (g:=g) (mo:=mo) (da:=da) (x:=x) (y:=y) (z:=z) (p:=p) (a:=a) (b:=b) (c:=c) (d:=d) (kd:=k) (R:=unR w) (K:=K) (isRs_rs h14) h16 h1 h2 h3 h4 h5 h6 h7 h8 h9 h10 h11 h12 h13
   rw [flat_unR h14] at key
   exact ⟨key,fun x hx=>by cases hx⟩
 · rename_i k ng lg s e g mo da x y z p a b c d
   cases he
   obtain ⟨h1,hr'⟩:=asrts_run hr;clear hr;have hr:=hr';clear hr'
   obtain ⟨h2,hr'⟩:=asrts_run hr;clear hr;have hr:=hr';clear hr'
   obtain ⟨h3,hr'⟩:=asrts_run hr;clear hr;have hr:=hr';clear hr'
   obtain ⟨h4,hr'⟩:=asrts_run hr;clear hr;have hr:=hr';clear hr'
   obtain ⟨h5,hr'⟩:=asrts_run hr;clear hr;have hr:=hr';clear hr'
   obtain ⟨h6,hr'⟩:=asrts_run hr;clear hr;have hr:=hr';clear hr'
   obtain ⟨h7,hr'⟩:=asrts_run hr;clear hr;have hr:=hr';clear hr'
   obtain ⟨h8,hr'⟩:=asrts_run hr;clear hr;have hr:=hr';clear hr'
   obtain ⟨h9,hr'⟩:=asrts_run hr;clear hr;have hr:=hr';clear hr'
   obtain ⟨h10,hr'⟩:=asrts_run hr;clear hr;have hr:=hr';clear hr'
   obtain ⟨h11,hr'⟩:=asrts_run hr;clear hr;have hr:=hr';clear hr'
   obtain ⟨h12,hr'⟩:=asrts_run hr;clear hr;have hr:=hr';clear hr'
   obtain ⟨h13,hr'⟩:=asrts_run hr;clear hr;have hr:=hr';clear hr'
   rw [q_ble_t] at h1 h2 h3
   rw [q_inR_t] at h4 h5 h6 h7 h8 h9 h10 h11 h12 h13
   simp only [loK,hiK] at h4 h5 h6 h7 h8 h9 h10 h11 h12 h13
   cases hr
   exact ⟨f20n h1 h2 h3 h4 h5 h6 h7 h8 h9 h10 h11 h12 h13,fun x hx=>by cases hx⟩
 · cases he
theorem add21 {S:Sums} (hS:SumsOK Tryz.prog cfg S):SumsOK Tryz.prog cfg (addG S 21 (winS 14 [4] w21)):=by
 refine sums_addG hS (win_ok good0.lv ro0 fun args ws t r he hr=>?_)
 unfold w21 at he
 split at he
 · rename_i k n K ng lg s e g mo da x y z p a b c d w
   cases he
   obtain ⟨h1,hr'⟩:=asrts_run hr;clear hr;have hr:=hr';clear hr'
   obtain ⟨h2,hr'⟩:=asrts_run hr;clear hr;have hr:=hr';clear hr'
   obtain ⟨h3,hr'⟩:=asrts_run hr;clear hr;have hr:=hr';clear hr'
   obtain ⟨h4,hr'⟩:=asrts_run hr;clear hr;have hr:=hr';clear hr'
   obtain ⟨h5,hr'⟩:=asrts_run hr;clear hr;have hr:=hr';clear hr'
   obtain ⟨h6,hr'⟩:=asrts_run hr;clear hr;have hr:=hr';clear hr'
   obtain ⟨h7,hr'⟩:=asrts_run hr;clear hr;have hr:=hr';clear hr'
   obtain ⟨h8,hr'⟩:=asrts_run hr;clear hr;have hr:=hr';clear hr'
   obtain ⟨h9,hr'⟩:=asrts_run hr;clear hr;have hr:=hr';clear hr'
   obtain ⟨h10,hr'⟩:=asrts_run hr;clear hr;have hr:=hr';clear hr'
   obtain ⟨h11,hr'⟩:=asrts_run hr;clear hr;have hr:=hr';clear hr'
   obtain ⟨h12,hr'⟩:=asrts_run hr;clear hr;have hr:=hr';clear hr'
   obtain ⟨h13,hr'⟩:=asrts_run hr;clear hr;have hr:=hr';clear hr'
   obtain ⟨h14,hr'⟩:=asrts_run hr;clear hr;have hr:=hr';clear hr'
   obtain ⟨h15,hr'⟩:=asrts_run hr;clear hr;have hr:=hr';clear hr'
   obtain ⟨h16,hr'⟩:=asrts_run hr;clear hr;have hr:=hr';clear hr'
   rw [q_ble_t] at h1 h2 h3
   rw [q_inR_t] at h4 h5 h6 h7 h8 h9 h10 h11 h12 h13
   simp only [loK,hiK] at h4 h5 h6 h7 h8 h9 h10 h11 h12 h13
   rw [q_beq_t] at h15
   rw [q_ble_t] at h16
   subst h15
   cases hr
   have key:=f21s (ng:=ng) (lg:=lg) (s:=s) (e:=e) (g:=g) (mo:=mo) (da:=da) (x:=x) (y:=y) (z:=z) (p:=p) (a:=a) (b:=b) (c:=c) (d:=d) (kd:=k) (R:=unR w) (K:=K) (isRs_rs h14) h16 h1 h2 h3 h4 h5 h6 h7 h8 h9 h10 h11 h12 h13
   rw [flat_unR h14] at key
   exact ⟨key,fun x hx=>by cases hx⟩
 · rename_i k ng lg s e g mo da x y z p a b c d
   cases he
   obtain ⟨h1,hr'⟩:=asrts_run hr;clear hr;have hr:=hr';clear hr'
   obtain ⟨h2,hr'⟩:=asrts_run hr;clear hr;have hr:=hr';clear hr'
   obtain ⟨h3,hr'⟩:=asrts_run hr;clear hr;have hr:=hr';clear hr'
   obtain ⟨h4,hr'⟩:=asrts_run hr;clear hr;have hr:=hr';clear hr'
   obtain ⟨h5,hr'⟩:=asrts_run hr;clear hr;have hr:=hr';clear hr'
   obtain ⟨h6,hr'⟩:=asrts_run hr;clear hr;have hr:=hr';clear hr'
   obtain ⟨h7,hr'⟩:=asrts_run hr;clear hr;have hr:=hr';clear hr'
   obtain ⟨h8,hr'⟩:=asrts_run hr;clear hr;have hr:=hr';clear hr'
   obtain ⟨h9,hr'⟩:=asrts_run hr;clear hr;have hr:=hr';clear hr'
   obtain ⟨h10,hr'⟩:=asrts_run hr;clear hr;have hr:=hr';clear hr'
   obtain ⟨h11,hr'⟩:=asrts_run hr;clear hr;have hr:=hr';clear hr'
   obtain ⟨h12,hr'⟩:=asrts_run hr;clear hr;have hr:=hr';clear hr'
   obtain ⟨h13,hr'⟩:=asrts_run hr;clear hr;have hr:=hr';clear hr'
   rw [q_ble_t] at h1 h2 h3
   rw [q_inR_t] at h4 h5 h6 h7 h8 h9 h10 h11 h12 h13
   simp only [loK,hiK] at h4 h5 h6 h7 h8 h9 h10 h11 h12 h13
   cases hr
   exact ⟨f21n h1 h2 h3 h4 h5 h6 h7 h8 h9 h10 h11 h12 h13,fun x hx=>by cases hx⟩
 · cases he
end Go.Ev
end
section
namespace Go.Ev
open Go Go.Proofs
set_option maxRecDepth 100000
abbrev iA (n:Int):AV:=.int .i64 n
abbrev dA (s:List UInt8) (e g:Int) (mo da:List UInt8):AV:=.agg [.bool false,.bool false,.str s,iA e,iA g,.str mo,.str da,.int .u8 0,.int .u8 0,.int .u8 0]
abbrev rA (a b c d:Int):AV:=.agg [.int .i8 a,iA b,.int .i8 c,iA d]
def e1_0:List AV×AV:=([dA [48,48,48,48] 0 0 [48,50] []],.tuple [iA 0,.bool false])
theorem k1_0:chk tab cfg 10000 172 e1_0.1 e1_0.2=true:=by kernel_rfl
def e1_1:List AV×AV:=([.str [48,48,48,48],.str [88,48,49,50,51,52,53,54,55,56,57]],.bool true)
theorem k1_1:chk tab cfg 10000 205 e1_1.1 e1_1.2=true:=by kernel_rfl
def e1_2:List AV×AV:=([iA 0,iA 1],.tuple [iA 0,iA 0])
theorem k1_2:chk tab cfg 10000 213 e1_2.1 e1_2.2=true:=by kernel_rfl
def e1_3:List AV×AV:=([iA 0],iA 0)
theorem k1_3:chk tab cfg 10000 321 e1_3.1 e1_3.2=true:=by kernel_rfl
def e1_4:List AV×AV:=([iA 1],iA 1)
theorem k1_4:chk tab cfg 10000 321 e1_4.1 e1_4.2=true:=by kernel_rfl
def e1_5:List AV×AV:=([.str [48,48,48,88],.str [88,48,49,50,51,52,53,54,55,56,57]],.bool true)
theorem k1_5:chk tab cfg 10000 205 e1_5.1 e1_5.2=true:=by kernel_rfl
def e1_6:List AV×AV:=([.str [48,48,48,50],.str [88,48,49,50,51,52,53,54,55,56,57]],.bool true)
theorem k1_6:chk tab cfg 10000 205 e1_6.1 e1_6.2=true:=by kernel_rfl
def e1_7:List AV×AV:=([iA 2,iA 1],.tuple [iA 2,iA 0])
theorem k1_7:chk tab cfg 10000 213 e1_7.1 e1_7.2=true:=by kernel_rfl
def e1_8:List AV×AV:=([iA 9],iA 3)
theorem k1_8:chk tab cfg 10000 321 e1_8.1 e1_8.2=true:=by kernel_rfl
def e1_9:List AV×AV:=([iA 10],iA 3)
theorem k1_9:chk tab cfg 10000 321 e1_9.1 e1_9.2=true:=by kernel_rfl
def e1_10:List AV×AV:=([dA [48,48,48,49] 0 0 [48,49] []],.tuple [iA 0,.bool false])
theorem k1_10:chk tab cfg 10000 172 e1_10.1 e1_10.2=true:=by kernel_rfl
def e1_11:List AV×AV:=([.str [48,48,48,49],.str [88,48,49,50,51,52,53,54,55,56,57]],.bool true)
theorem k1_11:chk tab cfg 10000 205 e1_11.1 e1_11.2=true:=by kernel_rfl
def e1_12:List AV×AV:=([dA [48,48,48,48] 0 0 [] []],.int .u8 1)
theorem k1_12:chk tab cfg 10000 242 e1_12.1 e1_12.2=true:=by kernel_rfl
def e1_13:List AV×AV:=([iA 1,iA 1],.tuple [iA 1,iA 0])
theorem k1_13:chk tab cfg 10000 213 e1_13.1 e1_13.2=true:=by kernel_rfl
def e1_14:List AV×AV:=([iA 2],iA 1)
theorem k1_14:chk tab cfg 10000 321 e1_14.1 e1_14.2=true:=by kernel_rfl
def e1_15:List AV×AV:=([dA [48,48,48,48] 0 0 [48,49] []],.tuple [iA 0,.bool false])
theorem k1_15:chk tab cfg 10000 172 e1_15.1 e1_15.2=true:=by kernel_rfl
def e1_16:List AV×AV:=([dA [48,48,48,48] 0 0 [48,51] []],.tuple [iA 0,.bool false])
theorem k1_16:chk tab cfg 10000 172 e1_16.1 e1_16.2=true:=by kernel_rfl
def e1_17:List AV×AV:=([.str [48,51],iA 12],.bool true)
theorem k1_17:chk tab cfg 10000 174 e1_17.1 e1_17.2=true:=by kernel_rfl
def e1_18:List AV×AV:=([dA [48,48,48,48] 0 0 [48,52] []],.tuple [iA 0,.bool false])
theorem k1_18:chk tab cfg 10000 172 e1_18.1 e1_18.2=true:=by kernel_rfl
def e1_19:List AV×AV:=([.str [48,52],iA 12],.bool true)
theorem k1_19:chk tab cfg 10000 174 e1_19.1 e1_19.2=true:=by kernel_rfl
def e1_20:List AV×AV:=([dA [48,48,48,48] 0 0 [48,50] [48,49]],.tuple [iA 0,.bool false])
theorem k1_20:chk tab cfg 10000 172 e1_20.1 e1_20.2=true:=by kernel_rfl
def e1_21:List AV×AV:=([dA [48,48,48,48] 0 0 [48,50] [48,57]],.tuple [iA 0,.bool false])
theorem k1_21:chk tab cfg 10000 172 e1_21.1 e1_21.2=true:=by kernel_rfl
def e1_22:List AV×AV:=([.str [48,57],iA 31],.bool true)
theorem k1_22:chk tab cfg 10000 174 e1_22.1 e1_22.2=true:=by kernel_rfl
def e1_23:List AV×AV:=([rA 0 0 0 30],iA 0)
theorem k1_23:chk tab cfg 10000 57 e1_23.1 e1_23.2=true:=by kernel_rfl
def e1_24:List AV×AV:=([rA 0 60 0 90],iA 0)
theorem k1_24:chk tab cfg 10000 57 e1_24.1 e1_24.2=true:=by kernel_rfl
def e1_25:List AV×AV:=([rA 0 31 0 39],iA 0)
theorem k1_25:chk tab cfg 10000 57 e1_25.1 e1_25.2=true:=by kernel_rfl
def e1_26:List AV×AV:=([rA 0 60 0 90,rA 0 0 0 30],iA 1)
theorem k1_26:chk tab cfg 10000 105 e1_26.1 e1_26.2=true:=by kernel_rfl
def e1_27:List AV×AV:=([rA 0 31 0 39,rA 0 60 0 90],iA (-1))
theorem k1_27:chk tab cfg 10000 105 e1_27.1 e1_27.2=true:=by kernel_rfl
def e1_28:List AV×AV:=([rA 0 31 0 39,rA 0 0 0 30],iA 1)
theorem k1_28:chk tab cfg 10000 105 e1_28.1 e1_28.2=true:=by kernel_rfl
def e1_29:List AV×AV:=([.agg [.int .i8 0,iA 0],.agg [.int .i8 0,iA 31]],.agg [.int .i8 0,iA 0])
theorem k1_29:chk tab cfg 10000 82 e1_29.1 e1_29.2=true:=by kernel_rfl
def e1_30:List AV×AV:=([.agg [.int .i8 0,iA 30],.agg [.int .i8 0,iA 39]],.agg [.int .i8 0,iA 39])
theorem k1_30:chk tab cfg 10000 83 e1_30.1 e1_30.2=true:=by kernel_rfl
def e1_31:List AV×AV:=([rA 0 0 0 39],iA 0)
theorem k1_31:chk tab cfg 10000 57 e1_31.1 e1_31.2=true:=by kernel_rfl
def e1_32:List AV×AV:=([rA 0 0 0 31],iA 0)
theorem k1_32:chk tab cfg 10000 57 e1_32.1 e1_32.2=true:=by kernel_rfl
def e1_33:List AV×AV:=([iA 201],iA 49)
theorem k1_33:chk tab cfg 10000 321 e1_33.1 e1_33.2=true:=by kernel_rfl
def e1_34:List AV×AV:=([iA 101],iA 25)
theorem k1_34:chk tab cfg 10000 321 e1_34.1 e1_34.2=true:=by kernel_rfl
def e1_35:List AV×AV:=([iA 51],iA 13)
theorem k1_35:chk tab cfg 10000 321 e1_35.1 e1_35.2=true:=by kernel_rfl
def e1_36:List AV×AV:=([iA 26],iA 7)
theorem k1_36:chk tab cfg 10000 321 e1_36.1 e1_36.2=true:=by kernel_rfl
def e1_37:List AV×AV:=([iA 13],iA 4)
theorem k1_37:chk tab cfg 10000 321 e1_37.1 e1_37.2=true:=by kernel_rfl
def e1_38:List AV×AV:=([iA 7],iA 2)
theorem k1_38:chk tab cfg 10000 321 e1_38.1 e1_38.2=true:=by kernel_rfl
def e1_39:List AV×AV:=([iA 4],iA 1)
theorem k1_39:chk tab cfg 10000 321 e1_39.1 e1_39.2=true:=by kernel_rfl
def e1_40:List AV×AV:=([rA 0 0 0 0],iA 0)
theorem k1_40:chk tab cfg 10000 57 e1_40.1 e1_40.2=true:=by kernel_rfl
noncomputable def memo1:Memo:=(.node none (.node none (.node none .nil (.node none (.node none .nil (.node none (.node (some [e1_30]) .nil .nil) .nil)) .nil)) (.node none (.node none (.node none (.node none (.node none .nil (.node none (.node (some [e1_3,e1_4,e1_8,e1_9,e1_14,e1_33,e1_34,e1_35,e1_36,e1_37,e1_38,e1_39]) .nil .nil) .nil)) .nil) .nil) (.node none (.node none .nil (.node (some [e1_26,e1_27,e1_28]) .nil .nil)) (.node (some [e1_23,e1_24,e1_25,e1_31,e1_32,e1_40]) .nil .nil))) (.node none (.node none .nil (.node none (.node none .nil (.node (some [e1_2,e1_7,e1_13]) .nil .nil)) .nil)) (.node none (.node none (.node none .nil (.node (some [e1_1,e1_5,e1_6,e1_11]) .nil .nil)) .nil) .nil)))) (.node none (.node none .nil (.node none .nil (.node none (.node none .nil (.node none (.node (some [e1_0,e1_10,e1_15,e1_16,e1_18,e1_20,e1_21]) .nil .nil) .nil)) .nil))) (.node none (.node none (.node none .nil (.node none (.node (some [e1_29]) .nil .nil) (.node none .nil (.node (some [e1_12]) .nil .nil)))) .nil) (.node none .nil (.node none (.node none .nil (.node none (.node (some [e1_17,e1_19,e1_22]) .nil .nil) .nil)) .nil)))))
noncomputable def cfg1:Cfg:=cfgM cfg memo1
theorem memo1_ok (g:Good Tryz.prog tab cfg):TbAll (fun f l=>∀e∈l,Fact Tryz.prog cfg f e.1 e.2) (fun i=>i) memo1:=⟨none_all,⟨none_all,⟨none_all,trivial,⟨none_all,⟨none_all,trivial,⟨none_all,⟨(some_all (fact_cons (g.fact 10000 k1_30) fact_nil)),trivial,trivial⟩,trivial⟩⟩,trivial⟩⟩,⟨none_all,⟨none_all,⟨none_all,⟨none_all,⟨none_all,trivial,⟨none_all,⟨(some_all (fact_cons (g.fact 10000 k1_3) (fact_cons (g.fact 10000 k1_4) (fact_cons (g.fact 10000 k1_8) (fact_cons (g.fact 10000 k1_9) (fact_cons (g.fact 10000 k1_14) (fact_cons (g.fact 10000 k1_33) (fact_cons (g.fact 10000 k1_34) (fact_cons (g.fact 10000 k1_35) (fact_cons (g.fact 10000 k1_36) (fact_cons (g.fact 10000 k1_37) (fact_cons (g.fact 10000 k1_38) (fact_cons (g.fact 10000 k1_39) fact_nil))))))))))))),trivial,trivial⟩,trivial⟩⟩,trivial⟩,trivial⟩,⟨none_all,⟨none_all,trivial,⟨(some_all (fact_cons (g.fact 10000 k1_26) (fact_cons (g.fact 10000 k1_27) (fact_cons (g.fact 10000 k1_28) fact_nil)))),trivial,trivial⟩⟩,⟨(some_all (fact_cons (g.fact 10000 k1_23) (fact_cons (g.fact 10000 k1_24) (fact_cons (g.fact 10000 k1_25) (fact_cons (g.fact 10000 k1_31) (fact_cons (g.fact 10000 k1_32) (fact_cons (g.fact 10000 k1_40) fact_nil))))))),trivial,trivial⟩⟩⟩,⟨none_all,⟨none_all,trivial,⟨none_all,⟨none_all,trivial,⟨(some_all (fact_cons (g.fact 10000 k1_2) (fact_cons (g.fact 10000 k1_7) (fact_cons (g.fact 10000 k1_13) fact_nil)))),trivial,trivial⟩⟩,trivial⟩⟩,⟨none_all,⟨none_all,⟨none_all,trivial,⟨(some_all (fact_cons (g.fact 10000 k1_1) (fact_cons (g.fact 10000 k1_5) (fact_cons (g.fact 10000 k1_6) (fact_cons (g.fact 10000 k1_11) fact_nil))))),trivial,trivial⟩⟩,trivial⟩,trivial⟩⟩⟩⟩,⟨none_all,⟨none_all,trivial,⟨none_all,trivial,⟨none_all,⟨none_all,trivial,⟨none_all,⟨(some_all (fact_cons (g.fact 10000 k1_0) (fact_cons (g.fact 10000 k1_10) (fact_cons (g.fact 10000 k1_15) (fact_cons (g.fact 10000 k1_16) (fact_cons (g.fact 10000 k1_18) (fact_cons (g.fact 10000 k1_20) (fact_cons (g.fact 10000 k1_21) fact_nil)))))))),trivial,trivial⟩,trivial⟩⟩,trivial⟩⟩⟩,⟨none_all,⟨none_all,⟨none_all,trivial,⟨none_all,⟨(some_all (fact_cons (g.fact 10000 k1_29) fact_nil)),trivial,trivial⟩,⟨none_all,trivial,⟨(some_all (fact_cons (g.fact 10000 k1_12) fact_nil)),trivial,trivial⟩⟩⟩⟩,trivial⟩,⟨none_all,trivial,⟨none_all,⟨none_all,trivial,⟨none_all,⟨(some_all (fact_cons (g.fact 10000 k1_17) (fact_cons (g.fact 10000 k1_19) (fact_cons (g.fact 10000 k1_22) fact_nil)))),trivial,trivial⟩,trivial⟩⟩,trivial⟩⟩⟩⟩⟩
theorem good1 (g:Good Tryz.prog tab cfg):Good Tryz.prog tab cfg1:=g.memo fun f l h=>(memo1_ok g).get f l h
def e2_0:List AV×AV:=([dA [48,48,48,48] 0 0 [48,50] []],iA 0)
theorem k2_0:chk tab cfg1 10000 113 e2_0.1 e2_0.2=true:=by kernel_rfl
def e2_1:List AV×AV:=([.agg [.bool false,.bool false,.str [48,48,48,48],iA 0,iA 0]],.tuple [iA 0,iA 0])
theorem k2_1:chk tab cfg1 10000 148 e2_1.1 e2_1.2=true:=by kernel_rfl
def e2_2:List AV×AV:=([iA 0,iA 2],.tuple [iA 31,iA 0])
theorem k2_2:chk tab cfg1 10000 277 e2_2.1 e2_2.2=true:=by kernel_rfl
def e2_3:List AV×AV:=([dA [48,48,48,88] 0 0 [] []],.bool true)
theorem k2_3:chk tab cfg1 10000 173 e2_3.1 e2_3.2=true:=by kernel_rfl
def e2_4:List AV×AV:=([dA [48,48,48,50] 0 3 [] []],.bool true)
theorem k2_4:chk tab cfg1 10000 173 e2_4.1 e2_4.2=true:=by kernel_rfl
def e2_5:List AV×AV:=([.agg [.bool false,.bool false,.str [48,48,48,50],iA 0,iA 3]],.tuple [iA 2,iA 0])
theorem k2_5:chk tab cfg1 10000 148 e2_5.1 e2_5.2=true:=by kernel_rfl
def e2_6:List AV×AV:=([iA 0,.int .u8 1],.tuple [rA 0 0 0 365,iA 0])
theorem k2_6:chk tab cfg1 10000 94 e2_6.1 e2_6.2=true:=by kernel_rfl
def e2_7:List AV×AV:=([iA 9,.int .u8 1],.tuple [rA 0 3288 0 3652,iA 0])
theorem k2_7:chk tab cfg1 10000 94 e2_7.1 e2_7.2=true:=by kernel_rfl
def e2_8:List AV×AV:=([dA [48,48,48,48] 0 0 [] []],.bool true)
theorem k2_8:chk tab cfg1 10000 173 e2_8.1 e2_8.2=true:=by kernel_rfl
def e2_9:List AV×AV:=([dA [48,48,48,49] 0 0 [48,49] []],iA 0)
theorem k2_9:chk tab cfg1 10000 113 e2_9.1 e2_9.2=true:=by kernel_rfl
def e2_10:List AV×AV:=([.agg [.bool false,.bool false,.str [48,48,48,49],iA 0,iA 0]],.tuple [iA 1,iA 0])
theorem k2_10:chk tab cfg1 10000 148 e2_10.1 e2_10.2=true:=by kernel_rfl
def e2_11:List AV×AV:=([iA 1,iA 1],.tuple [iA 396,iA 0])
theorem k2_11:chk tab cfg1 10000 278 e2_11.1 e2_11.2=true:=by kernel_rfl
def e2_12:List AV×AV:=([dA [48,48,48,48] 0 0 [] [],.agg [iA 0,iA 0,iA 0]],.tuple [rA 0 0 0 365,iA 0])
theorem k2_12:chk tab cfg1 10000 155 e2_12.1 e2_12.2=true:=by kernel_rfl
def e2_13:List AV×AV:=([dA [48,48,48,48] 0 0 [48,49] []],iA 0)
theorem k2_13:chk tab cfg1 10000 113 e2_13.1 e2_13.2=true:=by kernel_rfl
def e2_14:List AV×AV:=([dA [48,48,48,48] 0 0 [48,51] []],iA 0)
theorem k2_14:chk tab cfg1 10000 113 e2_14.1 e2_14.2=true:=by kernel_rfl
def e2_15:List AV×AV:=([dA [48,48,48,48] 0 0 [48,52] []],iA 0)
theorem k2_15:chk tab cfg1 10000 113 e2_15.1 e2_15.2=true:=by kernel_rfl
def e2_16:List AV×AV:=([iA 0,iA 3],.tuple [iA 60,iA 0])
theorem k2_16:chk tab cfg1 10000 277 e2_16.1 e2_16.2=true:=by kernel_rfl
def e2_17:List AV×AV:=([iA 0,iA 4],.tuple [iA 91,iA 0])
theorem k2_17:chk tab cfg1 10000 277 e2_17.1 e2_17.2=true:=by kernel_rfl
def e2_18:List AV×AV:=([iA 0,iA 1],.tuple [iA 30,iA 0])
theorem k2_18:chk tab cfg1 10000 278 e2_18.1 e2_18.2=true:=by kernel_rfl
def e2_19:List AV×AV:=([dA [48,48,48,48] 0 0 [48,50] [48,49]],iA 0)
theorem k2_19:chk tab cfg1 10000 113 e2_19.1 e2_19.2=true:=by kernel_rfl
def e2_20:List AV×AV:=([dA [48,48,48,48] 0 0 [48,50] [48,57]],iA 0)
theorem k2_20:chk tab cfg1 10000 113 e2_20.1 e2_20.2=true:=by kernel_rfl
def e2_21:List AV×AV:=([rA 0 0 0 30,rA 0 31 0 39],.bool true)
theorem k2_21:chk tab cfg1 10000 112 e2_21.1 e2_21.2=true:=by kernel_rfl
def e2_22:List AV×AV:=([rA 0 0 0 39,rA 0 60 0 90],.bool false)
theorem k2_22:chk tab cfg1 10000 112 e2_22.1 e2_22.2=true:=by kernel_rfl
def e2_23:List AV×AV:=([iA 0],.tuple [iA 0,iA 0])
theorem k2_23:chk tab cfg1 10000 214 e2_23.1 e2_23.2=true:=by kernel_rfl
def e2_24:List AV×AV:=([iA 31],.tuple [iA 0,iA 0])
theorem k2_24:chk tab cfg1 10000 214 e2_24.1 e2_24.2=true:=by kernel_rfl
noncomputable def memo2:Memo:=(.node none (.node none (.node none .nil (.node none .nil (.node none .nil (.node none (.node none (.node (some [e2_12]) .nil .nil) .nil) .nil)))) (.node none (.node none (.node none .nil (.node none .nil (.node (some [e2_0,e2_9,e2_13,e2_14,e2_15,e2_19,e2_20]) .nil .nil))) .nil) (.node none (.node none .nil (.node none (.node none (.node none (.node (some [e2_2,e2_16,e2_17]) .nil .nil) .nil) .nil) .nil)) (.node none (.node none .nil (.node none (.node (some [e2_3,e2_4,e2_8]) .nil .nil) .nil)) .nil)))) (.node none (.node none (.node none (.node none .nil (.node none .nil (.node (some [e2_21,e2_22]) .nil .nil))) .nil) (.node none (.node none .nil (.node none (.node none (.node (some [e2_1,e2_5,e2_10]) .nil .nil) .nil) .nil)) .nil)) (.node none .nil (.node none (.node none .nil (.node none (.node none (.node none (.node (some [e2_11,e2_18]) .nil .nil) .nil) (.node (some [e2_23,e2_24]) .nil .nil)) .nil)) (.node none .nil (.node none (.node (some [e2_6,e2_7]) .nil .nil) .nil))))))
noncomputable def cfg2:Cfg:=cfgM cfg1 memo2
theorem memo2_ok (g:Good Tryz.prog tab cfg1):TbAll (fun f l=>∀e∈l,Fact Tryz.prog cfg1 f e.1 e.2) (fun i=>i) memo2:=⟨none_all,⟨none_all,⟨none_all,trivial,⟨none_all,trivial,⟨none_all,trivial,⟨none_all,⟨none_all,⟨(some_all (fact_cons (g.fact 10000 k2_12) fact_nil)),trivial,trivial⟩,trivial⟩,trivial⟩⟩⟩⟩,⟨none_all,⟨none_all,⟨none_all,trivial,⟨none_all,trivial,⟨(some_all (fact_cons (g.fact 10000 k2_0) (fact_cons (g.fact 10000 k2_9) (fact_cons (g.fact 10000 k2_13) (fact_cons (g.fact 10000 k2_14) (fact_cons (g.fact 10000 k2_15) (fact_cons (g.fact 10000 k2_19) (fact_cons (g.fact 10000 k2_20) fact_nil)))))))),trivial,trivial⟩⟩⟩,trivial⟩,⟨none_all,⟨none_all,trivial,⟨none_all,⟨none_all,⟨none_all,⟨(some_all (fact_cons (g.fact 10000 k2_2) (fact_cons (g.fact 10000 k2_16) (fact_cons (g.fact 10000 k2_17) fact_nil)))),trivial,trivial⟩,trivial⟩,trivial⟩,trivial⟩⟩,⟨none_all,⟨none_all,trivial,⟨none_all,⟨(some_all (fact_cons (g.fact 10000 k2_3) (fact_cons (g.fact 10000 k2_4) (fact_cons (g.fact 10000 k2_8) fact_nil)))),trivial,trivial⟩,trivial⟩⟩,trivial⟩⟩⟩⟩,⟨none_all,⟨none_all,⟨none_all,⟨none_all,trivial,⟨none_all,trivial,⟨(some_all (fact_cons (g.fact 10000 k2_21) (fact_cons (g.fact 10000 k2_22) fact_nil))),trivial,trivial⟩⟩⟩,trivial⟩,⟨none_all,⟨none_all,trivial,⟨none_all,⟨none_all,⟨(some_all (fact_cons (g.fact 10000 k2_1) (fact_cons (g.fact 10000 k2_5) (fact_cons (g.fact 10000 k2_10) fact_nil)))),trivial,trivial⟩,trivial⟩,trivial⟩⟩,trivial⟩⟩,⟨none_all,trivial,⟨none_all,⟨none_all,trivial,⟨none_all,⟨none_all,⟨none_all,⟨(some_all (fact_cons (g.fact 10000 k2_11) (fact_cons (g.fact 10000 k2_18) fact_nil))),trivial,trivial⟩,trivial⟩,⟨(some_all (fact_cons (g.fact 10000 k2_23) (fact_cons (g.fact 10000 k2_24) fact_nil))),trivial,trivial⟩⟩,trivial⟩⟩,⟨none_all,trivial,⟨none_all,⟨(some_all (fact_cons (g.fact 10000 k2_6) (fact_cons (g.fact 10000 k2_7) fact_nil))),trivial,trivial⟩,trivial⟩⟩⟩⟩⟩⟩
theorem good2 (g:Good Tryz.prog tab cfg1):Good Tryz.prog tab cfg2:=g.memo fun f l h=>(memo2_ok g).get f l h
def e3_0:List AV×AV:=([.agg [.bool false,.bool false,.str [48,48,48,48],iA 0,iA 0]],.tuple [iA 0,iA 0])
theorem k3_0:chk tab cfg2 10000 154 e3_0.1 e3_0.2=true:=by kernel_rfl
def e3_1:List AV×AV:=([iA 1],.tuple [iA 31,iA 59,iA 0])
theorem k3_1:chk tab cfg2 10000 218 e3_1.1 e3_1.2=true:=by kernel_rfl
def e3_2:List AV×AV:=([dA [48,48,48,88] 0 0 [] []],iA 0)
theorem k3_2:chk tab cfg2 10000 113 e3_2.1 e3_2.2=true:=by kernel_rfl
def e3_3:List AV×AV:=([dA [48,48,48,50] 0 3 [] []],iA 0)
theorem k3_3:chk tab cfg2 10000 113 e3_3.1 e3_3.2=true:=by kernel_rfl
def e3_4:List AV×AV:=([.agg [.bool false,.bool false,.str [48,48,48,50],iA 0,iA 3]],.tuple [iA 0,iA 9,iA 0])
theorem k3_4:chk tab cfg2 10000 93 e3_4.1 e3_4.2=true:=by kernel_rfl
def e3_5:List AV×AV:=([dA [48,48,48,48] 0 0 [] []],iA 0)
theorem k3_5:chk tab cfg2 10000 113 e3_5.1 e3_5.2=true:=by kernel_rfl
def e3_6:List AV×AV:=([.agg [.bool false,.bool false,.str [48,48,48,49],iA 0,iA 0]],.tuple [iA 1,iA 0])
theorem k3_6:chk tab cfg2 10000 154 e3_6.1 e3_6.2=true:=by kernel_rfl
def e3_7:List AV×AV:=([iA 12],.tuple [iA 366,iA 396,iA 0])
theorem k3_7:chk tab cfg2 10000 218 e3_7.1 e3_7.2=true:=by kernel_rfl
def e3_8:List AV×AV:=([.agg [.int .u8 1,.bool false,.bool false,.str [48,48,48,48],iA 0,iA 0,.str [48,50],.str [],.int .u8 0,.int .u8 0,.int .u8 0],.agg [.int .u8 3,.bool false,.bool false,.str [],iA 0,iA 0,.str [],.str [],.int .u8 0,.int .u8 0,.int .u8 0]],iA 0)
theorem k3_8:chk tab cfg2 10000 141 e3_8.1 e3_8.2=true:=by kernel_rfl
def e3_9:List AV×AV:=([dA [48,48,48,48] 0 0 [48,51] []],.bool true)
theorem k3_9:chk tab cfg2 10000 248 e3_9.1 e3_9.2=true:=by kernel_rfl
def e3_10:List AV×AV:=([dA [48,48,48,48] 0 0 [48,52] []],.bool true)
theorem k3_10:chk tab cfg2 10000 248 e3_10.1 e3_10.2=true:=by kernel_rfl
def e3_11:List AV×AV:=([iA 0],.tuple [iA 0,iA 30,iA 0])
theorem k3_11:chk tab cfg2 10000 218 e3_11.1 e3_11.2=true:=by kernel_rfl
def e3_12:List AV×AV:=([dA [48,48,48,48] 0 0 [48,51] []],.tuple [.int .u8 2,iA 0])
theorem k3_12:chk tab cfg2 10000 47 e3_12.1 e3_12.2=true:=by kernel_rfl
def e3_13:List AV×AV:=([iA 2],.tuple [iA 60,iA 90,iA 0])
theorem k3_13:chk tab cfg2 10000 218 e3_13.1 e3_13.2=true:=by kernel_rfl
def e3_14:List AV×AV:=([iA 3],.tuple [iA 91,iA 120,iA 0])
theorem k3_14:chk tab cfg2 10000 218 e3_14.1 e3_14.2=true:=by kernel_rfl
def e3_15:List AV×AV:=([.agg [.bool false,.bool false,.str [48,48,48,48],iA 0,iA 0,.str [48,49],.str [],.int .u8 0,.int .u8 0,.int .u8 0,.bool false,.bool false,.bool false,.str [],iA 0,iA 0,.str [],.str [],.int .u8 0,.int .u8 0,.int .u8 0],.int .u8 4],iA 0)
theorem k3_15:chk tab cfg2 10000 199 e3_15.1 e3_15.2=true:=by kernel_rfl
def e3_16:List AV×AV:=([.agg [.bool false,.bool false,.str [48,48,48,48],iA 0,iA 0,.str [48,51],.str [],.int .u8 0,.int .u8 0,.int .u8 0,.bool false,.bool false,.bool false,.str [],iA 0,iA 0,.str [],.str [],.int .u8 0,.int .u8 0,.int .u8 0],.int .u8 4],iA 0)
theorem k3_16:chk tab cfg2 10000 199 e3_16.1 e3_16.2=true:=by kernel_rfl
def e3_17:List AV×AV:=([.agg [iA 0,iA 2,iA 1]],.tuple [iA 31,iA 0])
theorem k3_17:chk tab cfg2 10000 309 e3_17.1 e3_17.2=true:=by kernel_rfl
def e3_18:List AV×AV:=([.agg [iA 0,iA 2,iA 9]],.tuple [iA 39,iA 0])
theorem k3_18:chk tab cfg2 10000 309 e3_18.1 e3_18.2=true:=by kernel_rfl
def e3_19:List AV×AV:=([iA 0],.tuple [iA 0,iA 1,iA 0])
theorem k3_19:chk tab cfg2 10000 217 e3_19.1 e3_19.2=true:=by kernel_rfl
def e3_20:List AV×AV:=([iA 31],.tuple [iA 0,iA 2,iA 0])
theorem k3_20:chk tab cfg2 10000 217 e3_20.1 e3_20.2=true:=by kernel_rfl
noncomputable def memo3:Memo:=(.node none (.node none (.node none (.node none (.node none .nil (.node (some [e3_12]) .nil .nil)) (.node none (.node none (.node none .nil (.node (some [e3_15,e3_16]) .nil .nil)) .nil) .nil)) .nil) (.node none (.node none (.node none .nil (.node none .nil (.node (some [e3_2,e3_3,e3_5]) .nil .nil))) (.node none .nil (.node none (.node none .nil (.node (some [e3_19,e3_20]) .nil .nil)) .nil))) (.node none (.node none .nil (.node none .nil (.node none (.node none (.node (some [e3_17,e3_18]) .nil .nil) .nil) .nil))) (.node none (.node none (.node none (.node (some [e3_8]) .nil .nil) .nil) .nil) (.node none (.node (some [e3_4]) .nil .nil) .nil))))) (.node none (.node none (.node none .nil (.node none .nil (.node none .nil (.node none .nil (.node (some [e3_9,e3_10]) .nil .nil))))) .nil) (.node none (.node none .nil (.node none .nil (.node none (.node none (.node (some [e3_0,e3_6]) .nil .nil) (.node (some [e3_1,e3_7,e3_11,e3_13,e3_14]) .nil .nil)) .nil))) .nil)))
noncomputable def cfg3:Cfg:=cfgM cfg2 memo3
theorem memo3_ok (g:Good Tryz.prog tab cfg2):TbAll (fun f l=>∀e∈l,Fact Tryz.prog cfg2 f e.1 e.2) (fun i=>i) memo3:=⟨none_all,⟨none_all,⟨none_all,⟨none_all,⟨none_all,trivial,⟨(some_all (fact_cons (g.fact 10000 k3_12) fact_nil)),trivial,trivial⟩⟩,⟨none_all,⟨none_all,⟨none_all,trivial,⟨(some_all (fact_cons (g.fact 10000 k3_15) (fact_cons (g.fact 10000 k3_16) fact_nil))),trivial,trivial⟩⟩,trivial⟩,trivial⟩⟩,trivial⟩,⟨none_all,⟨none_all,⟨none_all,trivial,⟨none_all,trivial,⟨(some_all (fact_cons (g.fact 10000 k3_2) (fact_cons (g.fact 10000 k3_3) (fact_cons (g.fact 10000 k3_5) fact_nil)))),trivial,trivial⟩⟩⟩,⟨none_all,trivial,⟨none_all,⟨none_all,trivial,⟨(some_all (fact_cons (g.fact 10000 k3_19) (fact_cons (g.fact 10000 k3_20) fact_nil))),trivial,trivial⟩⟩,trivial⟩⟩⟩,⟨none_all,⟨none_all,trivial,⟨none_all,trivial,⟨none_all,⟨none_all,⟨(some_all (fact_cons (g.fact 10000 k3_17) (fact_cons (g.fact 10000 k3_18) fact_nil))),trivial,trivial⟩,trivial⟩,trivial⟩⟩⟩,⟨none_all,⟨none_all,⟨none_all,⟨(some_all (fact_cons (g.fact 10000 k3_8) fact_nil)),trivial,trivial⟩,trivial⟩,trivial⟩,⟨none_all,⟨(some_all (fact_cons (g.fact 10000 k3_4) fact_nil)),trivial,trivial⟩,trivial⟩⟩⟩⟩⟩,⟨none_all,⟨none_all,⟨none_all,trivial,⟨none_all,trivial,⟨none_all,trivial,⟨none_all,trivial,⟨(some_all (fact_cons (g.fact 10000 k3_9) (fact_cons (g.fact 10000 k3_10) fact_nil))),trivial,trivial⟩⟩⟩⟩⟩,trivial⟩,⟨none_all,⟨none_all,trivial,⟨none_all,trivial,⟨none_all,⟨none_all,⟨(some_all (fact_cons (g.fact 10000 k3_0) (fact_cons (g.fact 10000 k3_6) fact_nil))),trivial,trivial⟩,⟨(some_all (fact_cons (g.fact 10000 k3_1) (fact_cons (g.fact 10000 k3_7) (fact_cons (g.fact 10000 k3_11) (fact_cons (g.fact 10000 k3_13) (fact_cons (g.fact 10000 k3_14) fact_nil)))))),trivial,trivial⟩⟩,trivial⟩⟩⟩,trivial⟩⟩⟩
theorem good3 (g:Good Tryz.prog tab cfg2):Good Tryz.prog tab cfg3:=g.memo fun f l h=>(memo3_ok g).get f l h
end Go.Ev
end
