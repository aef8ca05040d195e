import Derived.Test.YtafekjglclnegaaGreatDoorP27
set_option linter.all false
set_option maxRecDepth 100000
set_option maxHeartbeats 4000000
namespace Go.Ev
open Go Go.Proofs
abbrev relM:List Nat:=[3,4,5,6,7,8,9,10,11,12,53,54,55]
def Lc (D:List Int):Loops:=addL noL 4 (loopE 127 relK (v115c D))
def smB (y cy cm:Int) (mo:List UInt8) (m:Int):Bool:=intEq y cy&&(bytesEq mo [] || intEq m cm)
def mstR (y m:Int) (da:List UInt8):Int:=bif bytesEq da [] then 0 else mlenR y m
def monD (y cy cm cd:Int) (mo da:List UInt8) (D:List Int) (m:Int):Option Int:=
 bif intEq y cy&&(!(bytesEq mo [])&&!(intLe cm m)) then none else firstD (ndaB da) (smB y cy cm mo m) (mstR y m da) cd D
def pickM (y cy cm cd:Int) (mo da:List UInt8) (D:List Int) (m:Int):Bool:=isM (monD y cy cm cd mo da D m)
def firstM (y cy cm cd:Int) (mo da:List UInt8) (M D:List Int):Option Int:=M.find? (pickM y cy cm cd mo da D)
def okM (da:List UInt8) (m:Int):Bool:=bytesEq da [] || (intLe 1 m&&intLe m 12)
def v115b (M D:List Int):LoopV:=fun vs o=>match vs,o with
 | [.ptr 16 0,.ptr 17 0,.ptr 18 0,.ptr 19 0,.bool false,.int .i64 1,.slice 14 0 n1 k1,.slice 15 0 n2 k2,.func 180 [] [.ptr 18 0],.int .i64 y,.slice 14 0 n1' k1',.int .i64 n1'',.int .i64 j],
   ⟨4,[.cells [.int .i64 0,.int .i64 0,.int .i64 0] true none,.cells [.bool true] true none,.cells [.int .i64 cy,.int .i64 cm,.int .i64 cd] true none,
   .cells [.bool ng,.bool lg,.str s,.int .i64 e,.int .i64 g,.str mo,.str da,.int .u8 a,.int .u8 b,.int .u8 c,.slice 14 0 n1a k1a,.slice 15 0 n2a k2a] true none],[]⟩=>
   some (asrts [Nat.ble n1 1000,Nat.beq M.length n1,Nat.beq n1' n1,intEq n1'' (Int.ofNat n1),intEq j 0,Nat.ble n2 1000,Nat.beq D.length n2,intLe (-10000000000000000) y,intLe y 10000000000000000,M.all (okM da)]
    (.test (isM (firstM y cy cm cd mo da M D)) fun x=>bif x then
    .all fun J=>.ret (.ret,[.ptr 16 0,.ptr 17 0,.ptr 18 0,.ptr 19 0,.bool true,.int .i64 1,.slice 14 0 n1 k1,.slice 15 0 n2 k2,.func 180 [] [.ptr 18 0],.int .i64 y,.slice 14 0 n1' k1',.int .i64 n1'',.any (J 0)],
     ⟨4,[.cells [.int .i64 y,.int .i64 (getM (firstM y cy cm cd mo da M D)),.int .i64 (getM (monD y cy cm cd mo da D (getM (firstM y cy cm cd mo da M D))))] true none,.cells [.bool true] true none,.cells [.int .i64 cy,.int .i64 cm,.int .i64 cd] true none,
   .cells [.bool ng,.bool lg,.str s,.int .i64 e,.int .i64 g,.str mo,.str da,.int .u8 a,.int .u8 b,.int .u8 c,.slice 14 0 n1a k1a,.slice 15 0 n2a k2a] true none],[]⟩)
    else .ret (.exit 2,[.ptr 16 0,.ptr 17 0,.ptr 18 0,.ptr 19 0,.bool false,.int .i64 1,.slice 14 0 n1 k1,.slice 15 0 n2 k2,.func 180 [] [.ptr 18 0],.int .i64 y,.slice 14 0 n1' k1',.int .i64 n1'',.int .i64 n1''],o)))
 | _,_=>none
theorem r115b (ng lg:Bool) (s:List UInt8) (e g:Int) (mo da:List UInt8) (a b c:Int) (n1 n2 n1a n2a:Nat) (k1 k2 k1' k1a k2a:Cap) (cy cm cd:Int) (w1 w2:List AV) (D:List Int) (y:Int) (j:Nat) (J:Nat->Value) {Q:VQ->Prop}:askA Q (rT V2 (Lc D) [.cells w1 false none,.cells w2 false none] 115 1 127 relM [.ptr 16 0,.ptr 17 0,.ptr 18 0,.ptr 19 0,.bool false,.int .i64 1,.slice 14 0 n1 k1,.slice 15 0 n2 k2,.func 180 [] [.ptr 18 0],.int .i64 y,.slice 14 0 n1 k1',.int .i64 (Int.ofNat n1),.int .i64 (Int.ofNat j)] J ⟨4,[.cells [.int .i64 0,.int .i64 0,.int .i64 0] true none,.cells [.bool true] true none,.cells [.int .i64 cy,.int .i64 cm,.int .i64 cd] true none,.cells [.bool ng,.bool lg,.str s,.int .i64 e,.int .i64 g,.str mo,.str da,.int .u8 a,.int .u8 b,.int .u8 c,.slice 14 0 n1a k1a,.slice 15 0 n2a k2a] true none],[]⟩) (dtN 111112140273353384422012140273353384006638111214027738220744220121402773822074056338120223000331112140227322022707442201214022732202270740562302000220405207422022404204)=((fun (uc ud ue uf ug uh ui uj uk ul um un uo:AV) (u1 u3 u5 ub:Bool) (u0 u4:Int) (u2 u6 u7 u9 ua up uq ur:Prop)=>(fun (ux uy uz:AV) (us uu:Bool) (uD:Int) (uw uH uI:Option Int) (ut uv uA uB uC uE uF uG:Prop)=>(fun (uK:List AV) (uM uO uP:Option Int) (uJ uL uN:Prop)=>(fun (uQ:Prop)=>(us=true->natLt j n1=true/\(u1=true->(u2->u2/\u2/\u2/\u2/\(ut->ut/\ut/\ut/\ut/\(uJ->uJ/\uJ/\uJ/\uu=false/\ut/\(uv->u2/\u2/\u2/\u2/\u2/\ut/\ut/\ut/\ut/\u2/\u3=false/\u2/\u6/\u7/\u9/\ua/\(isM uw=true->(∀J1:Nat->Value,∀J2:Nat->Value,Q (AX.ret,(uK,{ n:=4,os:=[AObj.cells [uk,uz,AV.int .i64 (getM uw)] true Option.none,AObj.cells [ug] true Option.none,AObj.cells [AV.int .i64 cy,AV.int .i64 cm,AV.int .i64 cd] true Option.none,AObj.cells [AV.bool ng,AV.bool lg,AV.str s,AV.int .i64 e,AV.int .i64 g,AV.str mo,AV.str da,AV.int .u8 a,AV.int .u8 b,AV.int .u8 c,AV.slice 14 0 n1a k1a,AV.slice 15 0 n2a k2a] true Option.none],le:=[] }))))/\(isM uw=false->uQ))/\(uA->up/\uq/\(uB->(uC->u2/\u2/\u2/\u2/\u2/\ut/\ut/\ut/\ut/\u2/\u3=false/\u2/\u6/\u7/\u9/\ua/\(isM uM=true->(∀J1:Nat->Value,∀J2:Nat->Value,Q (AX.ret,(uK,{ n:=4,os:=[AObj.cells [uk,uz,AV.int .i64 (getM uM)] true Option.none,AObj.cells [ug] true Option.none,AObj.cells [AV.int .i64 cy,AV.int .i64 cm,AV.int .i64 cd] true Option.none,AObj.cells [AV.bool ng,AV.bool lg,AV.str s,AV.int .i64 e,AV.int .i64 g,AV.str mo,AV.str da,AV.int .u8 a,AV.int .u8 b,AV.int .u8 c,AV.slice 14 0 n1a k1a,AV.slice 15 0 n2a k2a] true Option.none],le:=[] }))))/\(isM uM=false->uQ))/\uE)/\uF))/\(uN->uN/\uN/\uN/\uu=true/\ut/\uL))/\(uG->uG/\uG/\uG/\uG/\uG/\(uv->u2/\u2/\u2/\u2/\u2/\uG/\uG/\uG/\uG/\u2/\u3=true/\u2/\u6/\u7/\u9/\ua/\(isM uH=true->(∀J1:Nat->Value,∀J2:Nat->Value,Q (AX.ret,(uK,{ n:=4,os:=[AObj.cells [uk,uz,AV.int .i64 (getM uH)] true Option.none,AObj.cells [ug] true Option.none,AObj.cells [AV.int .i64 cy,AV.int .i64 cm,AV.int .i64 cd] true Option.none,AObj.cells [AV.bool ng,AV.bool lg,AV.str s,AV.int .i64 e,AV.int .i64 g,AV.str mo,AV.str da,AV.int .u8 a,AV.int .u8 b,AV.int .u8 c,AV.slice 14 0 n1a k1a,AV.slice 15 0 n2a k2a] true Option.none],le:=[] }))))/\(isM uH=false->uQ))/\(uA->up/\uq/\(uB->(uC->u2/\u2/\u2/\u2/\u2/\uG/\uG/\uG/\uG/\u2/\u3=true/\u2/\u6/\u7/\u9/\ua/\(isM uO=true->(∀J1:Nat->Value,∀J2:Nat->Value,Q (AX.ret,(uK,{ n:=4,os:=[AObj.cells [uk,uz,AV.int .i64 (getM uO)] true Option.none,AObj.cells [ug] true Option.none,AObj.cells [AV.int .i64 cy,AV.int .i64 cm,AV.int .i64 cd] true Option.none,AObj.cells [AV.bool ng,AV.bool lg,AV.str s,AV.int .i64 e,AV.int .i64 g,AV.str mo,AV.str da,AV.int .u8 a,AV.int .u8 b,AV.int .u8 c,AV.slice 14 0 n1a k1a,AV.slice 15 0 n2a k2a] true Option.none],le:=[] }))))/\(isM uO=false->uQ))/\uE)/\uF)))/\(ur->ur/\ur/\ur/\ur/\(uv->ur/\ur/\ur/\ur/\ur/\ur/\ur/\u6/\u7/\u9/\ua/\(isM uI=true->(∀J1:Nat->Value,∀J2:Nat->Value,Q (AX.ret,(uK,{ n:=4,os:=[AObj.cells [uk,uz,AV.int .i64 (getM uI)] true Option.none,AObj.cells [ug] true Option.none,AObj.cells [AV.int .i64 cy,AV.int .i64 cm,AV.int .i64 cd] true Option.none,AObj.cells [AV.bool ng,AV.bool lg,AV.str s,AV.int .i64 e,AV.int .i64 g,AV.str mo,AV.str da,AV.int .u8 a,AV.int .u8 b,AV.int .u8 c,AV.slice 14 0 n1a k1a,AV.slice 15 0 n2a k2a] true Option.none],le:=[] }))))/\(isM uI=false->uQ))/\(uA->up/\uq/\(uB->(uC->ur/\ur/\ur/\ur/\ur/\ur/\ur/\u6/\u7/\u9/\ua/\(isM uP=true->(∀J1:Nat->Value,∀J2:Nat->Value,Q (AX.ret,(uK,{ n:=4,os:=[AObj.cells [uk,uz,AV.int .i64 (getM uP)] true Option.none,AObj.cells [ug] true Option.none,AObj.cells [AV.int .i64 cy,AV.int .i64 cm,AV.int .i64 cd] true Option.none,AObj.cells [AV.bool ng,AV.bool lg,AV.str s,AV.int .i64 e,AV.int .i64 g,AV.str mo,AV.str da,AV.int .u8 a,AV.int .u8 b,AV.int .u8 c,AV.slice 14 0 n1a k1a,AV.slice 15 0 n2a k2a] true Option.none],le:=[] }))))/\(isM uP=false->uQ))/\uE)/\uF)))/\(u1=false->False))/\(us=false->Q (AX.exit 2,([uc,ud,ue,uf,un,uh,ui,uj,ux,uk,ul,um,uy],{ n:=4,os:=[AObj.cells [uo,uo,uo] true Option.none,AObj.cells [ug] true Option.none,AObj.cells [AV.int .i64 cy,AV.int .i64 cm,AV.int .i64 cd] true Option.none,AObj.cells [AV.bool ng,AV.bool lg,AV.str s,AV.int .i64 e,AV.int .i64 g,AV.str mo,AV.str da,AV.int .u8 a,AV.int .u8 b,AV.int .u8 c,AV.slice 14 0 n1a k1a,AV.slice 15 0 n2a k2a] true Option.none],le:=[] })))) (∀J1:Nat->Value,uL)) [uc,ud,ue,uf,ug,uh,ui,uj,ux,uk,ul,um,uy] (firstD ub (intEq u4 cm) uD cd D) (firstD ub true uD cd D) (firstD ub false uD cd D) (not uu=true) (inR .i64 (Int.add u0 1)=true/\Q (AX.normal,([uc,ud,ue,uf,un,uh,ui,uj,ux,uk,ul,um,AV.int .i64 (Int.add u0 1)],{ n:=4,os:=[AObj.cells [uo,uo,uo] true Option.none,AObj.cells [ug] true Option.none,AObj.cells [AV.int .i64 cy,AV.int .i64 cm,AV.int .i64 cd] true Option.none,AObj.cells [AV.bool ng,AV.bool lg,AV.str s,AV.int .i64 e,AV.int .i64 g,AV.str mo,AV.str da,AV.int .u8 a,AV.int .u8 b,AV.int .u8 c,AV.slice 14 0 n1a k1a,AV.slice 15 0 n2a k2a] true Option.none],le:=[] }))) (not uu=false)) (AV.func 180 [] [ue]) (AV.int .i64 u0) (AV.int .i64 u4) (not (intLe (Int.ofNat n1) u0)) (not (intLe cm u4)) (mlenR y u4) (firstD ub (intEq u4 cm) 0 cd D) (firstD ub true 0 cd D) (firstD ub false 0 cd D) (not u3=true) (u5=true) (u5=false) (intLe 1 u4=true) (intLe u4 12=true) (intLe u4 12=false->False) (intLe 1 u4=false->False) (not u3=false)) (AV.ptr 16 0) (AV.ptr 17 0) (AV.ptr 18 0) (AV.ptr 19 0) (AV.bool true) (AV.int .i64 1) (AV.slice 14 0 n1 k1) (AV.slice 15 0 n2 k2) (AV.int .i64 y) (AV.slice 14 0 n1 k1') (AV.int .i64 (Int.ofNat n1)) (AV.bool false) (AV.int .i64 0) (isKA .i64 (List.getD w1 (HAdd.hAdd 0 (HMul.hMul j 1)) (AV.tuple []))) (bytesEq mo []) (bytesEq da []) (ndaB da) (Int.ofNat j) (intOf (List.getD w1 (HAdd.hAdd 0 (HMul.hMul j 1)) (AV.tuple []))) (intEq y cy=true) (Nat.ble n2 1000=true) (Nat.beq (List.length D) n2=true) (Nat.beq n2 n2=true) (intEq (Int.ofNat n2) (Int.ofNat n2)=true) (intLe (Neg.neg 10000000000000000) y=true) (intLe y 10000000000000000=true) (intEq y cy=false)):=by kernel_rfl
theorem inner115:((loopsOf (lb 115 1)).getD 0 (0,.skip)).2=lb 115 2:=by kernel_rfl
theorem inner115i:(loopsOf (lb 115 1)).map (·.1)=[4]:=by kernel_rfl
theorem lok115c (M D:List Int):LOK Tryz.prog (cfgS cfg V2) (Cw cfg [.cells (celL M) false none,.cells (celL D) false none]) (Lc D) (lb 115 1):=by
 refine lok_at inner115i fun i hi e he st Q hw=>?_
 have hi:i=0:=by simp at hi;omega
 subst hi
 cases he
 rw [inner115]
 exact loopE_ok (base0.good V2_ok) (by decide) rfl (lv115c (celL M) D) hw
theorem okM_at {da:List UInt8} {M:List Int} {j:Nat} (h:M.all (okM da)=true) (hj:j<M.length):bytesEq da []=false->1≤M.getD j 0/\M.getD j 0≤12:=by
 intro hd
 have hx:M.getD j 0∈M:=by
  rw [List.getD_eq_getElem?_getD,List.getElem?_eq_getElem hj];exact List.getElem_mem hj
 have:=List.all_eq_true.1 h _ hx
 unfold okM at this
 rw [hd,Bool.false_or,Bool.and_eq_true,q_le_t,q_le_t] at this
 exact this
theorem lv115b (M D:List Int):LoopVOK Tryz.prog (cfgS cfg V2) (Cw cfg [.cells (celL M) false none,.cells (celL D) false none]) (lb 115 1) 127 relM (v115b M D):=by
 intro vs o t Q hv hq J
 unfold v115b at hv
 split at hv
 · rename_i n1 k1 n2 k2 y n1' k1' n1'' j cy cm cd ng lg s e g mo da a b c n1a k1a n2a k2a
   cases hv
   obtain ⟨h1,hq'⟩:=asrts_wp hq;clear hq;have hq:=hq';clear hq'
   obtain ⟨h2,hq'⟩:=asrts_wp hq;clear hq;have hq:=hq';clear hq'
   obtain ⟨h3,hq'⟩:=asrts_wp hq;clear hq;have hq:=hq';clear hq'
   obtain ⟨h4,hq'⟩:=asrts_wp hq;clear hq;have hq:=hq';clear hq'
   obtain ⟨h5,hq'⟩:=asrts_wp hq;clear hq;have hq:=hq';clear hq'
   obtain ⟨h6,hq'⟩:=asrts_wp hq;clear hq;have hq:=hq';clear hq'
   obtain ⟨h7,hq'⟩:=asrts_wp hq;clear hq;have hq:=hq';clear hq'
   obtain ⟨h8,hq'⟩:=asrts_wp hq;clear hq;have hq:=hq';clear hq'
   obtain ⟨h9,hq'⟩:=asrts_wp hq;clear hq;have hq:=hq';clear hq'
   obtain ⟨h10,hq'⟩:=asrts_wp hq;clear hq;have hq:=hq';clear hq'
   rw [q_ble_t] at h1 h6
   rw [q_beq_t] at h2 h3 h7
   rw [q_eq_t] at h4 h5
   rw [q_le_t] at h8 h9
   subst h2 h3 h4 h5 h7
   simp only [asrts,Tr.wp] at hq
   refine lvOK V2_ok rfl rfl (lok115c M D) (ι:={j:Nat // j≤M.length/\∀k,k<j->pickM y cy cm cd mo da D (M.getD k 0)=false}) (fun x=>[.ptr 16 0,.ptr 17 0,.ptr 18 0,.ptr 19 0,.bool false,.int .i64 1,.slice 14 0 M.length k1,.slice 15 0 D.length k2,.func 180 [] [.ptr 18 0],.int .i64 y,.slice 14 0 M.length k1',.int .i64 (Int.ofNat M.length),.int .i64 (Int.ofNat x.1)])
    (fun _=>⟨4,[.cells [.int .i64 0,.int .i64 0,.int .i64 0] true none,.cells [.bool true] true none,.cells [.int .i64 cy,.int .i64 cm,.int .i64 cd] true none,.cells [.bool ng,.bool lg,.str s,.int .i64 e,.int .i64 g,.str mo,.str da,.int .u8 a,.int .u8 b,.int .u8 c,.slice 14 0 n1a k1a,.slice 15 0 n2a k2a] true none],[]⟩) (fun x=>M.length-x.1) 4 (fun _=>Nat.le_refl _) (fun x J=>?_) (Nat.le_refl _) (fun J=>Wk.refl ⟨⟨0,Nat.zero_le _,fun k hk=>absurd hk (Nat.not_lt_zero k)⟩,J,rfl⟩) J
   obtain ⟨j,hj,hp⟩:=x
   dsimp only
   refine wp_gen fun Q' hQ=>askA_wp ((r115b ng lg s e g mo da a b c M.length D.length n1a n2a k1 k2 k1' k1a k2a cy cm cd (celL M) (celL D) D y j J).mpr ?_)
   dsimp only
   have yes:j<M.length->pickM y cy cm cd mo da D (M.getD j 0)=true->∀J:Nat->Value,Q (.ret,[.ptr 16 0,.ptr 17 0,.ptr 18 0,.ptr 19 0,.bool true,.int .i64 1,.slice 14 0 M.length k1,.slice 15 0 D.length k2,.func 180 [] [.ptr 18 0],.int .i64 y,.slice 14 0 M.length k1',.int .i64 (Int.ofNat M.length),.any (J 0)],
    ⟨4,[.cells [.int .i64 y,.int .i64 (M.getD j 0),.int .i64 (getM (monD y cy cm cd mo da D (M.getD j 0)))] true none,.cells [.bool true] true none,.cells [.int .i64 cy,.int .i64 cm,.int .i64 cd] true none,.cells [.bool ng,.bool lg,.str s,.int .i64 e,.int .i64 g,.str mo,.str da,.int .u8 a,.int .u8 b,.int .u8 c,.slice 14 0 n1a k1a,.slice 15 0 n2a k2a] true none],[]⟩):=fun hlt hpick J2=>by
    have hf:firstM y cy cm cd mo da M D=some (M.getD j 0):=find_at hlt hp hpick
    rw [hf] at hq
    exact hq J2
   have no:¬j<M.length->Q (.exit 2,[.ptr 16 0,.ptr 17 0,.ptr 18 0,.ptr 19 0,.bool false,.int .i64 1,.slice 14 0 M.length k1,.slice 15 0 D.length k2,.func 180 [] [.ptr 18 0],.int .i64 y,.slice 14 0 M.length k1',.int .i64 (Int.ofNat M.length),.int .i64 (Int.ofNat M.length)],
    ⟨4,[.cells [.int .i64 0,.int .i64 0,.int .i64 0] true none,.cells [.bool true] true none,.cells [.int .i64 cy,.int .i64 cm,.int .i64 cd] true none,.cells [.bool ng,.bool lg,.str s,.int .i64 e,.int .i64 g,.str mo,.str da,.int .u8 a,.int .u8 b,.int .u8 c,.slice 14 0 n1a k1a,.slice 15 0 n2a k2a] true none],[]⟩):=fun hge=>by
    have hf:firstM y cy cm cd mo da M D=none:=find_none fun k hk=>hp k (by omega)
    rw [hf] at hq
    exact hq
   have next:pickM y cy cm cd mo da D (M.getD j 0)=false->∀k,k<j+1->pickM y cy cm cd mo da D (M.getD k 0)=false:=fun h k hk=>by
    by_cases e:k=j
    · subst e;exact h
    · exact hp k (by omega)
   by_cases hlt:j<M.length
   · rw [celL_at hlt]
     have hok:=okM_at h10 hlt
     have yes:=yes hlt
     clear no hq hp h10
     have hmon:monD y cy cm cd mo da D (M.getD j 0)=(bif intEq y cy&&(!(bytesEq mo [])&&!(intLe cm (M.getD j 0))) then none else firstD (ndaB da) (intEq y cy&&(bytesEq mo [] || intEq (M.getD j 0) cm)) (bif bytesEq da [] then 0 else mlenR y (M.getD j 0)) cd D):=rfl
     rw [show pickM y cy cm cd mo da D (M.getD j 0)=isM (monD y cy cm cd mo da D (M.getD j 0)) from rfl] at yes next
     generalize monD y cy cm cd mo da D (M.getD j 0)=mm at *
     generalize M.getD j 0=m at *
     simp only [isKA,intOf,sameK,ctorK]
     generalize intEq y cy=E at *
     generalize bytesEq mo []=Bm at *
     generalize intLe cm m=Lm at *
     generalize bytesEq da []=Bd at *
     cases E<;>cases Bm<;>cases Lm<;>cases Bd<;>simp only [Bool.not_true,Bool.not_false,Bool.true_and,Bool.false_and,Bool.and_true,Bool.and_false,Bool.true_or,Bool.false_or,cond_true,cond_false] at hmon<;>subst hmon<;>simp only [q_all,reduceCtorEq,loK,hiK,ne_eq]<;>(repeat' first|exact trivial|refine ⟨?_,?_⟩|intro)<;>first|contradiction|omega|assumption|(exfalso;have:=hok rfl;omega)|refine hQ _ ?_
     all_goals first
      | exact ⟨_,_,VW.any (.same (.same (.same (.same (.same (.same (.same (.same (.same (.same (.same (.same (.int .nil))))))))))))) rfl,yes (by assumption) (jv [_])⟩
      | exact ⟨⟨j+1,by omega,next (by first|assumption|rfl)⟩,by dsimp only;omega,VW.of_eq rfl rfl⟩
   · obtain rfl:j=M.length:=by omega
     have no2:=no hlt
     simp only [q_all,reduceCtorEq,loK,hiK,ne_eq]
     (repeat' first|exact trivial|refine ⟨?_,?_⟩|intro)<;>first|omega|assumption|(exfalso;omega)|(refine hQ _ ?_;exact ⟨_,_,VW.refl,no2⟩)
 · cases hv
abbrev relY:List Nat:=[3,4,5,6,7,8,9,10,11,12,13]
def Lb (M D:List Int):Loops:=addL noL 2 (loopE 127 relM (v115b M D))
def seekU (ng:Bool) (s:List UInt8) (e cy cm cd:Int) (mo da:List UInt8) (M D:List Int):Nat->Int->Bool->Option (Int×Int×Int)
 | 0,_,_=>none
 | f+1,y,ok=>bif ok then (match firstM y cy cm cd mo da M D with
   | some m=>some (y,m,getM (monD y cy cm cd mo da D m))
   | none=>seekU ng s e cy cm cd mo da M D f (yV ng s e (y+1) true) (yB ng s e (y+1) true)) else none
def muY (y:Int) (ok:Bool):Nat:=bif ok then (10000000000000001-y).toNat+1 else 0
def seekF (ng:Bool) (s:List UInt8) (e cy cm cd:Int) (mo da:List UInt8) (M D:List Int) (y:Int) (ok:Bool):Option (Int×Int×Int):=seekU ng s e cy cm cd mo da M D (muY y ok+1) y ok
def isP (x:Option (Int×Int×Int)):Bool:=x.isSome
def p1 (x:Option (Int×Int×Int)):Int:=(x.getD (0,0,0)).1
def p2 (x:Option (Int×Int×Int)):Int:=(x.getD (0,0,0)).2.1
def p3 (x:Option (Int×Int×Int)):Int:=(x.getD (0,0,0)).2.2
def v115a (M D:List Int):LoopV:=fun vs o=>match vs,o with
 | [.ptr 16 0,.ptr 17 0,.ptr 18 0,.ptr 19 0,.bool false,.int .i64 1,.slice 14 0 n1 k1,.slice 15 0 n2 k2,.func 180 [] [.ptr 18 0],.int .i64 y,.bool ok],
   ⟨4,[.cells [.int .i64 0,.int .i64 0,.int .i64 0] true none,.cells [.bool true] true none,.cells [.int .i64 cy,.int .i64 cm,.int .i64 cd] true none,.cells [.bool ng,.bool lg,.str s,.int .i64 e,.int .i64 g,.str mo,.str da,.int .u8 a,.int .u8 b,.int .u8 c,.slice 14 0 n1' k1a,.slice 15 0 n2' k2a] true none],[]⟩=>
   some (asrts [Nat.ble n1 1000,Nat.beq M.length n1,Nat.ble n2 1000,Nat.beq D.length n2,M.all (okM da),okY14 ng lg s e g,Nat.ble s.length 1000,okX s,intLe (-10000000000000000) y,intLe y 10000000000000000,Nat.beq n1' n1,Nat.beq n2' n2]
    (.test (isP (seekF ng s e cy cm cd mo da M D y ok)) fun x=>bif x then
    .all fun J=>.ret (.ret,[.ptr 16 0,.ptr 17 0,.ptr 18 0,.ptr 19 0,.bool true,.int .i64 1,.slice 14 0 n1 k1,.slice 15 0 n2 k2,.func 180 [] [.ptr 18 0],.any (J 0),.any (J 1)],
     ⟨4,[.cells [.int .i64 (p1 (seekF ng s e cy cm cd mo da M D y ok)),.int .i64 (p2 (seekF ng s e cy cm cd mo da M D y ok)),.int .i64 (p3 (seekF ng s e cy cm cd mo da M D y ok))] true none,.cells [.bool true] true none,.cells [.int .i64 cy,.int .i64 cm,.int .i64 cd] true none,.cells [.bool ng,.bool lg,.str s,.int .i64 e,.int .i64 g,.str mo,.str da,.int .u8 a,.int .u8 b,.int .u8 c,.slice 14 0 n1' k1a,.slice 15 0 n2' k2a] true none],[]⟩)
    else .all fun J=>.ret (.exit 0,[.ptr 16 0,.ptr 17 0,.ptr 18 0,.ptr 19 0,.bool false,.int .i64 1,.slice 14 0 n1 k1,.slice 15 0 n2 k2,.func 180 [] [.ptr 18 0],.any (J 0),.bool false],o)))
 | _,_=>none
theorem r115a (ng lg:Bool) (s:List UInt8) (e g:Int) (mo da:List UInt8) (a b c:Int) (n1 n2:Nat) (k1 k2 k1a k2a:Cap) (cy cm cd:Int) (w1 w2:List AV) (M D:List Int) (y:Int) (ok:Bool) (J:Nat->Value) {Q:VQ->Prop}:askA Q (rT V2 (Lb M D) [.cells w1 false none,.cells w2 false none] 115 0 127 relY [.ptr 16 0,.ptr 17 0,.ptr 18 0,.ptr 19 0,.bool false,.int .i64 1,.slice 14 0 n1 k1,.slice 15 0 n2 k2,.func 180 [] [.ptr 18 0],.int .i64 y,.bool ok] J ⟨4,[.cells [.int .i64 0,.int .i64 0,.int .i64 0] true none,.cells [.bool true] true none,.cells [.int .i64 cy,.int .i64 cm,.int .i64 cd] true none,.cells [.bool ng,.bool lg,.str s,.int .i64 e,.int .i64 g,.str mo,.str da,.int .u8 a,.int .u8 b,.int .u8 c,.slice 14 0 n1 k1a,.slice 15 0 n2 k2a] true none],[]⟩) (dtN 1111127444020006142270274)=((fun (u1 u2 u3 u4 u5 u6 u7 u9 ua ue uf:AV) (uc ud:Bool) (ub:Int) (u0:Option Int)=>(fun (ug:AV) (ui:Bool) (uh:Prop)=>(ok=true->Nat.ble n1 1000=true/\Nat.beq (List.length M) n1=true/\Nat.beq n1 n1=true/\intEq (Int.ofNat n1) (Int.ofNat n1)=true/\Nat.ble n2 1000=true/\Nat.beq (List.length D) n2=true/\intLe (Neg.neg 10000000000000000) y=true/\intLe y 10000000000000000=true/\List.all M (okM da)=true/\(isM u0=true->(∀J1:Nat->Value,∀J2:Nat->Value,Q (AX.ret,([u1,u2,u3,u4,u5,u6,u7,u9,ug,ua,AV.any (J2 13)],{ n:=4,os:=[AObj.cells [ua,AV.int .i64 (getM u0),AV.int .i64 (getM (monD y cy cm cd mo da D (getM u0)))] true Option.none,AObj.cells [u5] true Option.none,AObj.cells [AV.int .i64 cy,AV.int .i64 cm,AV.int .i64 cd] true Option.none,AObj.cells [AV.bool ng,AV.bool lg,AV.str s,AV.int .i64 e,AV.int .i64 g,AV.str mo,AV.str da,AV.int .u8 a,AV.int .u8 b,AV.int .u8 c,AV.slice 14 0 n1 k1a,AV.slice 15 0 n2 k2a] true Option.none],le:=[] }))))/\(isM u0=false->(∀J1:Nat->Value,uh/\(ui=true->(uc=true->(ud=true->uh/\okY14 ng lg s e g=true/\Nat.ble (List.length s) 1000=true/\okX s=true/\Q (AX.normal,([u1,u2,u3,u4,ue,u6,u7,u9,ug,AV.int .i64 (yV ng s e ub true),AV.bool (yB ng s e ub true)],{ n:=4,os:=[AObj.cells [uf,uf,uf] true Option.none,AObj.cells [u5] true Option.none,AObj.cells [AV.int .i64 cy,AV.int .i64 cm,AV.int .i64 cd] true Option.none,AObj.cells [AV.bool ng,AV.bool lg,AV.str s,AV.int .i64 e,AV.int .i64 g,AV.str mo,AV.str da,AV.int .u8 a,AV.int .u8 b,AV.int .u8 c,AV.slice 14 0 n1 k1a,AV.slice 15 0 n2 k2a] true Option.none],le:=[] })))/\(ud=false->False))/\(uc=false->False))/\(ui=false->False))))/\(ok=false->Q (AX.exit 0,([u1,u2,u3,u4,ue,u6,u7,u9,ug,ua,AV.bool ok],{ n:=4,os:=[AObj.cells [uf,uf,uf] true Option.none,AObj.cells [u5] true Option.none,AObj.cells [AV.int .i64 cy,AV.int .i64 cm,AV.int .i64 cd] true Option.none,AObj.cells [AV.bool ng,AV.bool lg,AV.str s,AV.int .i64 e,AV.int .i64 g,AV.str mo,AV.str da,AV.int .u8 a,AV.int .u8 b,AV.int .u8 c,AV.slice 14 0 n1 k1a,AV.slice 15 0 n2 k2a] true Option.none],le:=[] })))) (AV.func 180 [] [u3]) (and (and true (and (Nat.ble (HAdd.hAdd 0 (HMul.hMul n1 1)) (List.length w1)) uc)) (and (Nat.ble (HAdd.hAdd 0 (HMul.hMul n2 1)) (List.length w2)) ud)) (inR .i64 ub=true)) (AV.ptr 16 0) (AV.ptr 17 0) (AV.ptr 18 0) (AV.ptr 19 0) (AV.bool true) (AV.int .i64 1) (AV.slice 14 0 n1 k1) (AV.slice 15 0 n2 k2) (AV.int .i64 y) (AV.bool false) (AV.int .i64 0) (belowL 14 (winOf w1 0 (HMul.hMul n1 1))) (belowL 14 (winOf w2 0 (HMul.hMul n2 1))) (Int.add y 1) (firstM y cy cm cd mo da M D)):=by kernel_rfl
theorem belowL_celL {M:List Int}:belowL 14 (celL M)=true:=by
 unfold belowL celL
 rw [List.all_map]
 exact List.all_eq_true.2 fun x _=>rfl
theorem winL {M:List Int}:winOf (celL M) 0 (M.length*1)=celL M:=by
 unfold winOf
 rw [List.drop_zero,Nat.mul_one]
 exact List.take_of_length_le (by unfold celL;rw [List.length_map];exact Nat.le_refl _)
theorem celL_len {M:List Int}:(celL M).length=M.length:=by unfold celL;rw [List.length_map]
theorem muY_next {ng:Bool} {s:List UInt8} {e y:Int} (hy:y≤10000000000000000):muY (yV ng s e (y+1) true) (yB ng s e (y+1) true)<muY y true:=by
 unfold muY
 cases h:yB ng s e (y+1) true with
 | true=>have:=yB_up h;simp only [cond_true];omega
 | false=>simp only [cond_true,cond_false];omega
theorem seekU_fuel {ng:Bool} {s:List UInt8} {lg:Bool} {e g cy cm cd:Int} {mo da:List UInt8} {M D:List Int} (ho:okY14 ng lg s e g=true):∀(f f':Nat) (y:Int) (ok:Bool),y≤10000000000000000->muY y ok<f->muY y ok<f'->seekU ng s e cy cm cd mo da M D f y ok=seekU ng s e cy cm cd mo da M D f' y ok
 | 0,_,_,_,_,h,_=>absurd h (Nat.not_lt_zero _)
 | _+1,0,_,_,_,_,h=>absurd h (Nat.not_lt_zero _)
 | f+1,f'+1,y,ok,hy,h1,h2=>by
   unfold seekU
   cases ok with
   | false=>rfl
   | true=>
     rw [cond_true,cond_true]
     have hm:=muY_next (ng:=ng) (s:=s) (e:=e) hy
     cases firstM y cy cm cd mo da M D with
     | some m=>rfl
     | none=>exact seekU_fuel ho f f' _ _ (yV_bnd ho).2 (by omega) (by omega)
theorem seekF_none {ng:Bool} {s:List UInt8} {e cy cm cd:Int} {mo da:List UInt8} {M D:List Int} {y:Int}:seekF ng s e cy cm cd mo da M D y false=none:=rfl
theorem seekF_some {ng:Bool} {s:List UInt8} {e cy cm cd:Int} {mo da:List UInt8} {M D:List Int} {y m:Int} (h:firstM y cy cm cd mo da M D=some m):seekF ng s e cy cm cd mo da M D y true=some (y,m,getM (monD y cy cm cd mo da D m)):=by
 unfold seekF seekU
 rw [h];rfl
theorem seekF_next {ng:Bool} {s:List UInt8} {lg:Bool} {e g cy cm cd:Int} {mo da:List UInt8} {M D:List Int} {y:Int} (ho:okY14 ng lg s e g=true) (hy:y≤10000000000000000) (h:firstM y cy cm cd mo da M D=none):seekF ng s e cy cm cd mo da M D y true=seekF ng s e cy cm cd mo da M D (yV ng s e (y+1) true) (yB ng s e (y+1) true):=by
 have hm:=muY_next (ng:=ng) (s:=s) (e:=e) hy
 unfold seekF
 rw [seekU,h]
 exact seekU_fuel ho _ _ _ _ (yV_bnd ho).2 (by omega) (by omega)
theorem inner115b:((loopsOf (lb 115 0)).getD 0 (0,.skip)).2=lb 115 1:=by kernel_rfl
theorem inner115bi:(loopsOf (lb 115 0)).map (·.1)=[2,4]:=by kernel_rfl
theorem lok115b (M D:List Int):LOK Tryz.prog (cfgS cfg V2) (Cw cfg [.cells (celL M) false none,.cells (celL D) false none]) (Lb M D) (lb 115 0):=by
 refine lok_at inner115bi fun i hi e he st Q hw=>?_
 have hi:i=0∨i=1:=by simp at hi;omega
 rcases hi with rfl|rfl
 · cases he
   rw [inner115b]
   exact loopE_ok (base0.good V2_ok) (by decide) rfl (lv115b M D) hw
 · cases he
theorem lv115a (M D:List Int):LoopVOK Tryz.prog (cfgS cfg V2) (Cw cfg [.cells (celL M) false none,.cells (celL D) false none]) (lb 115 0) 127 relY (v115a M D):=by
 intro vs o t Q hv hq J
 unfold v115a at hv
 split at hv
 · rename_i n1 k1 n2 k2 y ok cy cm cd ng lg s e g mo da a b c n1' k1a n2' k2a
   cases hv
   obtain ⟨h1,hq'⟩:=asrts_wp hq;clear hq;have hq:=hq';clear hq'
   obtain ⟨h2,hq'⟩:=asrts_wp hq;clear hq;have hq:=hq';clear hq'
   obtain ⟨h3,hq'⟩:=asrts_wp hq;clear hq;have hq:=hq';clear hq'
   obtain ⟨h4,hq'⟩:=asrts_wp hq;clear hq;have hq:=hq';clear hq'
   obtain ⟨h5,hq'⟩:=asrts_wp hq;clear hq;have hq:=hq';clear hq'
   obtain ⟨h6,hq'⟩:=asrts_wp hq;clear hq;have hq:=hq';clear hq'
   obtain ⟨h7,hq'⟩:=asrts_wp hq;clear hq;have hq:=hq';clear hq'
   obtain ⟨h8,hq'⟩:=asrts_wp hq;clear hq;have hq:=hq';clear hq'
   obtain ⟨h9,hq'⟩:=asrts_wp hq;clear hq;have hq:=hq';clear hq'
   obtain ⟨h10,hq'⟩:=asrts_wp hq;clear hq;have hq:=hq';clear hq'
   obtain ⟨h11,hq'⟩:=asrts_wp hq;clear hq;have hq:=hq';clear hq'
   obtain ⟨h12,hq'⟩:=asrts_wp hq;clear hq;have hq:=hq';clear hq'
   rw [q_ble_t] at h1 h3 h7
   rw [q_beq_t] at h2 h4 h11 h12
   rw [q_le_t] at h9 h10
   subst h2 h4 h11 h12
   simp only [asrts,Tr.wp] at hq
   refine lvOK V2_ok rfl rfl (lok115b M D) (ι:={x:Int×Bool // (-10000000000000000≤x.1/\x.1≤10000000000000000)/\seekF ng s e cy cm cd mo da M D y ok=seekF ng s e cy cm cd mo da M D x.1 x.2}) (fun x=>[.ptr 16 0,.ptr 17 0,.ptr 18 0,.ptr 19 0,.bool false,.int .i64 1,.slice 14 0 M.length k1,.slice 15 0 D.length k2,.func 180 [] [.ptr 18 0],.int .i64 x.1.1,.bool x.1.2])
    (fun _=>⟨4,[.cells [.int .i64 0,.int .i64 0,.int .i64 0] true none,.cells [.bool true] true none,.cells [.int .i64 cy,.int .i64 cm,.int .i64 cd] true none,.cells [.bool ng,.bool lg,.str s,.int .i64 e,.int .i64 g,.str mo,.str da,.int .u8 a,.int .u8 b,.int .u8 c,.slice 14 0 M.length k1a,.slice 15 0 D.length k2a] true none],[]⟩) (fun x=>muY x.1.1 x.1.2) 4 (fun _=>Nat.le_refl _) (fun x J=>?_) (Nat.le_refl _) (fun J=>Wk.refl ⟨⟨(y,ok),⟨h9,h10⟩,rfl⟩,J,rfl⟩) J
   obtain ⟨⟨z,zk⟩,hz,hs⟩:=x
   dsimp only at hz hs ⊢
   refine wp_gen fun Q' hQ=>askA_wp ((r115a ng lg s e g mo da a b c M.length D.length k1 k2 k1a k2a cy cm cd (celL M) (celL D) M D z zk J).mpr ?_)
   dsimp only
   have hs':=hs
   rw [hs] at hq
   clear hs h9 h10
   cases zk with
   | false=>
     rw [seekF_none] at hq
     have hq:∀J:Nat->Value,Q (.exit 0,[.ptr 16 0,.ptr 17 0,.ptr 18 0,.ptr 19 0,.bool false,.int .i64 1,.slice 14 0 M.length k1,.slice 15 0 D.length k2,.func 180 [] [.ptr 18 0],.any (J 0),.bool false],⟨4,[.cells [.int .i64 0,.int .i64 0,.int .i64 0] true none,.cells [.bool true] true none,.cells [.int .i64 cy,.int .i64 cm,.int .i64 cd] true none,.cells [.bool ng,.bool lg,.str s,.int .i64 e,.int .i64 g,.str mo,.str da,.int .u8 a,.int .u8 b,.int .u8 c,.slice 14 0 M.length k1a,.slice 15 0 D.length k2a] true none],[]⟩):=hq
     simp only [q_all,reduceCtorEq,loK,hiK,ne_eq]
     (repeat' first|exact trivial|refine ⟨?_,?_⟩|intro)<;>first|contradiction|omega|assumption|refine hQ _ ?_
     all_goals exact ⟨_,_,VW.any (.same (.same (.same (.same (.same (.same (.same (.same (.same (.int (.same .nil))))))))))) rfl,hq (jv [_])⟩
   | true=>
     have yes:∀m,firstM z cy cm cd mo da M D=some m->∀J:Nat->Value,Q (.ret,[.ptr 16 0,.ptr 17 0,.ptr 18 0,.ptr 19 0,.bool true,.int .i64 1,.slice 14 0 M.length k1,.slice 15 0 D.length k2,.func 180 [] [.ptr 18 0],.any (J 0),.any (J 1)],⟨4,[.cells [.int .i64 z,.int .i64 m,.int .i64 (getM (monD z cy cm cd mo da D m))] true none,.cells [.bool true] true none,.cells [.int .i64 cy,.int .i64 cm,.int .i64 cd] true none,.cells [.bool ng,.bool lg,.str s,.int .i64 e,.int .i64 g,.str mo,.str da,.int .u8 a,.int .u8 b,.int .u8 c,.slice 14 0 M.length k1a,.slice 15 0 D.length k2a] true none],[]⟩):=fun m hf J2=>by
      rw [seekF_some hf] at hq
      exact hq J2
     have next:firstM z cy cm cd mo da M D=none->seekF ng s e cy cm cd mo da M D y ok=seekF ng s e cy cm cd mo da M D (yV ng s e (z+1) true) (yB ng s e (z+1) true):=fun hf=>hs'.trans (seekF_next h6 hz.2 hf)
     clear hq
     have hmu:=muY_next (ng:=ng) (s:=s) (e:=e) hz.2
     have hbn:=yV_bnd (n:=z+1) (up:=true) h6
     have hb1:belowL 14 (winOf (celL M) 0 (M.length*1))=true:=by rw [winL];exact belowL_celL
     have hb2:belowL 14 (winOf (celL D) 0 (D.length*1))=true:=by rw [winL];exact belowL_celL
     have hc1:Nat.ble (0+M.length*1) (celL M).length=true:=by rw [celL_len];simp
     have hc2:Nat.ble (0+D.length*1) (celL D).length=true:=by rw [celL_len];simp
     simp only [hb1,hb2,hc1,hc2,Bool.and_true,Bool.true_and]
     cases hf:firstM z cy cm cd mo da M D with
     | some m=>
       have yes:=yes m hf
       clear next
       simp only [isM,getM,Option.isSome_some,Option.getD_some]
       simp only [q_all,reduceCtorEq,loK,hiK,ne_eq]
       (repeat' first|exact trivial|refine ⟨?_,?_⟩|intro)<;>first|contradiction|omega|assumption|refine hQ _ ?_
       all_goals exact ⟨_,_,VW.any (.same (.same (.same (.same (.same (.same (.same (.same (.same (.int (.same .nil))))))))))) rfl,yes (jv [_,_])⟩
     | none=>
       have next:=next hf
       clear yes
       simp only [isM,getM,Option.isSome_none]
       simp only [q_all,reduceCtorEq,loK,hiK,ne_eq]
       (repeat' first|exact trivial|refine ⟨?_,?_⟩|intro)<;>first|contradiction|omega|assumption|refine hQ _ ?_
       all_goals exact ⟨⟨(_,_),hbn,next⟩,hmu,VW.of_eq rfl rfl⟩
 · cases hv
def La (M D:List Int):Loops:=addL noL 0 (loopE 127 relY (v115a M D))
theorem b115 (ng lg:Bool) (s:List UInt8) (e g:Int) (mo da:List UInt8) (a b c:Int) (n1 n2:Nat) (k1 k2:Cap) (cy cm cd:Int) (w1 w2:List AV) (M D:List Int) {Q:AV->Prop}:askA Q (pW V2 (La M D) [.cells w1 false none,.cells w2 false none] 115 [.agg [.bool ng,.bool lg,.str s,.int .i64 e,.int .i64 g,.str mo,.str da,.int .u8 a,.int .u8 b,.int .u8 c,.slice 14 0 n1 k1,.slice 15 0 n2 k2],.agg [.int .i64 cy,.int .i64 cm,.int .i64 cd],.bool true]) (dtN 1111110142244777744466)=((fun (u6:AV) (u0 u1:Bool) (u5:Int) (u2 u3 u4:Prop)=>(fun (u7 u9 ua ub:Bool)=>(u7=true->(u0=true->(u1=true->inR .i64 cy=true/\u2/\u3/\u4/\Nat.ble n1 1000=true/\Nat.beq (List.length M) n1=true/\Nat.ble n2 1000=true/\Nat.beq (List.length D) n2=true/\List.all M (okM da)=true/\u2/\u3/\u4/\(u9=true->(ua=true->Nat.beq n1 n1=true/\Nat.beq n2 n2=true/\(ub=true->(∀J1:Nat->Value,∀J2:Nat->Value,Q (AV.tuple [AV.agg [AV.int .i64 (p1 (seekF ng s e cy cm cd mo da M D u5 (yB ng s e cy true))),AV.int .i64 (p2 (seekF ng s e cy cm cd mo da M D u5 (yB ng s e cy true))),AV.int .i64 (p3 (seekF ng s e cy cm cd mo da M D u5 (yB ng s e cy true)))],AV.bool true])))/\(ub=false->(∀J1:Nat->Value,∀J2:Nat->Value,Q (AV.tuple [AV.agg [u6,u6,u6],AV.bool false]))))/\(ua=false->False))/\(u9=false->False))/\(u1=false->False))/\(u0=false->False))/\(u7=false->False)) (and (and true (and (Nat.ble (HAdd.hAdd 0 (HMul.hMul n1 1)) (List.length w1)) u0)) (and (Nat.ble (HAdd.hAdd 0 (HMul.hMul n2 1)) (List.length w2)) u1)) (intLe (Neg.neg 10000000000000000) u5) (intLe u5 10000000000000000) (isP (seekF ng s e cy cm cd mo da M D u5 (yB ng s e cy true)))) (AV.int .i64 0) (belowL 14 (winOf w1 0 (HMul.hMul n1 1))) (belowL 14 (winOf w2 0 (HMul.hMul n2 1))) (yV ng s e cy true) (okY14 ng lg s e g=true) (Nat.ble (List.length s) 1000=true) (okX s=true)):=by kernel_rfl
theorem lok115a (M D:List Int):LOK Tryz.prog (cfgS cfg V2) (Cw cfg [.cells (celL M) false none,.cells (celL D) false none]) (La M D) (codeOf 115):=by
 refine lok_at loops115 fun i hi e he st Q hw=>?_
 have hi:i=0∨i=1∨i=2:=by simp at hi;omega
 rcases hi with rfl|rfl|rfl
 · cases he
   exact loopE_ok (base0.good V2_ok) (by decide) rfl (lv115a M D) hw
 · cases he
 · cases he
theorem isP_f {x:Option (Int×Int×Int)} (h:isP x=false):p1 x=0/\p2 x=0/\p3 x=0:=by
 cases x with
 | none=>exact ⟨rfl,rfl,rfl⟩
 | some u=>cases h
theorem f115 {ng lg:Bool} {s:List UInt8} {e g:Int} {mo da:List UInt8} {a b c:Int} {k1 k2:Cap} {cy cm cd:Int} {M D:List Int} (h1:M.length≤1000) (h2:D.length≤1000) (hA:M.all (okM da)=true) (ho:okY14 ng lg s e g=true) (hs:s.length≤1000) (hx:okX s=true) (hy : -9223372036854775808≤cy/\cy≤9223372036854775807) :
 FactW Tryz.prog cfg 115 [.agg [.bool ng,.bool lg,.str s,.int .i64 e,.int .i64 g,.str mo,.str da,.int .u8 a,.int .u8 b,.int .u8 c,.slice 14 0 M.length k1,.slice 15 0 D.length k2],.agg [.int .i64 cy,.int .i64 cm,.int .i64 cd],.bool true] [.cells (celL M) false none,.cells (celL D) false none] (.tuple [.agg [.int .i64 (p1 (seekF ng s e cy cm cd mo da M D (yV ng s e cy true) (yB ng s e cy true))),.int .i64 (p2 (seekF ng s e cy cm cd mo da M D (yV ng s e cy true) (yB ng s e cy true))),.int .i64 (p3 (seekF ng s e cy cm cd mo da M D (yV ng s e cy true) (yB ng s e cy true)))],.bool (isP (seekF ng s e cy cm cd mo da M D (yV ng s e cy true) (yB ng s e cy true)))]) []:=by
 refine fpwOK V2_ok (L:=La M D) (fun x hx=>?_) body115 (by simp) (lok115a M D) (wp_gen fun Q' hQ=>askA_wp ((b115 ng lg s e g mo da a b c M.length D.length k1 k2 cy cm cd (celL M) (celL D) M D).mpr ?_)) (by simp [idsA,idsL])
 · simp only [List.mem_cons,List.not_mem_nil,or_false] at hx
   rcases hx with rfl|rfl
   · exact low_below belowL_celL
   · exact low_below belowL_celL
 · have hb1:belowL 14 (winOf (celL M) 0 (M.length*1))=true:=by rw [winL];exact belowL_celL
   have hb2:belowL 14 (winOf (celL D) 0 (D.length*1))=true:=by rw [winL];exact belowL_celL
   have hc1:Nat.ble (0+M.length*1) (celL M).length=true:=by rw [celL_len];simp
   have hc2:Nat.ble (0+D.length*1) (celL D).length=true:=by rw [celL_len];simp
   have hbn:=yV_bnd (n:=cy) (up:=true) ho
   simp only [hb1,hb2,hc1,hc2,Bool.and_true,Bool.true_and]
   have fin:∀v,v=(.tuple [.agg [.int .i64 (p1 (seekF ng s e cy cm cd mo da M D (yV ng s e cy true) (yB ng s e cy true))),.int .i64 (p2 (seekF ng s e cy cm cd mo da M D (yV ng s e cy true) (yB ng s e cy true))),.int .i64 (p3 (seekF ng s e cy cm cd mo da M D (yV ng s e cy true) (yB ng s e cy true)))],.bool (isP (seekF ng s e cy cm cd mo da M D (yV ng s e cy true) (yB ng s e cy true)))])->Q' v:=fun v hv=>hQ _ hv
   generalize (seekF ng s e cy cm cd mo da M D (yV ng s e cy true) (yB ng s e cy true))=r at *
   have hf:=@isP_f r
   cases hr:isP r with
   | true=>
     rw [hr] at fin
     simp only [q_all,reduceCtorEq,loK,hiK,ne_eq]
     (repeat' first|exact trivial|refine ⟨?_,?_⟩|intro)<;>first|contradiction|omega|assumption|exact fin _ rfl
   | false=>
     obtain ⟨e1,e2,e3⟩:=hf hr
     rw [hr,e1,e2,e3] at fin
     simp only [q_all,reduceCtorEq,loK,hiK,ne_eq]
     (repeat' first|exact trivial|refine ⟨?_,?_⟩|intro)<;>first|contradiction|omega|assumption|exact fin _ rfl
def unI (w:List AV):List Int:=w.map intOf
theorem celL_unI {w:List AV} (h:w.all (isKA .i64)=true):celL (unI w)=w:=by
 unfold celL unI
 rw [List.map_map]
 refine (List.map_congr_left fun x hx=>?_).trans (List.map_id w)
 have:=List.all_eq_true.1 h x hx
 cases x with
 | int k n=>cases k<;>first|rfl|cases this
 | _=>cases this
theorem unI_len {w:List AV}:(unI w).length=w.length:=by unfold unI;rw [List.length_map]
def allM (da:List UInt8) (M:List Int):Bool:=M.all (okM da)
def w115:WSum:=fun args ws=>match args,ws with
 | [.agg [.bool ng,.bool lg,.str s,.int .i64 e,.int .i64 g,.str mo,.str da,.int .u8 a,.int .u8 b,.int .u8 c,.slice 14 0 n1 k1,.slice 15 0 n2 k2],.agg [.int .i64 cy,.int .i64 cm,.int .i64 cd],.bool true],[.cells w1 false none,.cells w2 false none]=>
   some (asrts [w1.all (isKA .i64),w2.all (isKA .i64),Nat.beq w1.length n1,Nat.beq w2.length n2,Nat.ble n1 1000,Nat.ble n2 1000,allM da (unI w1),inR .i64 cy,okY14 ng lg s e g,Nat.ble s.length 1000,okX s] (.ret ((.tuple [.agg [.int .i64 (p1 (seekF ng s e cy cm cd mo da (unI w1) (unI w2) (yV ng s e cy true) (yB ng s e cy true))),.int .i64 (p2 (seekF ng s e cy cm cd mo da (unI w1) (unI w2) (yV ng s e cy true) (yB ng s e cy true))),.int .i64 (p3 (seekF ng s e cy cm cd mo da (unI w1) (unI w2) (yV ng s e cy true) (yB ng s e cy true)))],.bool (isP (seekF ng s e cy cm cd mo da (unI w1) (unI w2) (yV ng s e cy true) (yB ng s e cy true)))]),[])))
 | _,_=>none
theorem add115 {S:Sums} (hS:SumsOK Tryz.prog cfg S):SumsOK Tryz.prog cfg (addG S 115 (winS 14 [1,1] w115)):=by
 refine sums_addG hS (win_ok good0.lv ro0 fun args ws t r he hr=>?_)
 unfold w115 at he
 split at he
 · rename_i ng lg s e g mo da a b c n1 k1 n2 k2 cy cm cd w1 w2
   cases he
   obtain ⟨h1,hr'⟩:=asrts_run hr;clear hr;have hr:=hr';clear hr'
   obtain ⟨h2,hr'⟩:=asrts_run hr;clear hr;have hr:=hr';clear hr'
   obtain ⟨h3,hr'⟩:=asrts_run hr;clear hr;have hr:=hr';clear hr'
   obtain ⟨h4,hr'⟩:=asrts_run hr;clear hr;have hr:=hr';clear hr'
   obtain ⟨h5,hr'⟩:=asrts_run hr;clear hr;have hr:=hr';clear hr'
   obtain ⟨h6,hr'⟩:=asrts_run hr;clear hr;have hr:=hr';clear hr'
   obtain ⟨h7,hr'⟩:=asrts_run hr;clear hr;have hr:=hr';clear hr'
   obtain ⟨h8,hr'⟩:=asrts_run hr;clear hr;have hr:=hr';clear hr'
   obtain ⟨h9,hr'⟩:=asrts_run hr;clear hr;have hr:=hr';clear hr'
   obtain ⟨h10,hr'⟩:=asrts_run hr;clear hr;have hr:=hr';clear hr'
   obtain ⟨h11,hr'⟩:=asrts_run hr;clear hr;have hr:=hr';clear hr'
   rw [q_beq_t] at h3 h4
   rw [q_ble_t] at h5 h6 h10
   rw [q_i64] at h8
   subst h3 h4
   cases hr
   have key:=f115 (g:=g) (mo:=mo) (da:=da) (a:=a) (b:=b) (c:=c) (k1:=k1) (k2:=k2) (cy:=cy) (cm:=cm) (cd:=cd) (M:=unI w1) (D:=unI w2) (by rw [unI_len];exact h5) (by rw [unI_len];exact h6) h7 h9 h10 h11 h8
   rw [celL_unI h1,celL_unI h2,unI_len,unI_len] at key
   exact ⟨key,fun x hx=>by cases hx⟩
 · cases he
end Go.Ev
