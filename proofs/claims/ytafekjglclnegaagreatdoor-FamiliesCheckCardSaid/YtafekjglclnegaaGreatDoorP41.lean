import Derived.LaidLaws
import Derived.Lib.LaidTab
import Derived.ChangeArms
import Derived.DataReads
import Derived.OpenShut
import Derived.ChangeSame
import Derived.Test.YtafekjglclnegaaGreatDoorP40
set_option linter.all false
section
namespace Go.Ev
open Go Go.Proofs
set_option maxRecDepth 100000
def e4_0:List AV×AV:=([dA [48,48,48,48] 0 0 [48,50] []],.tuple [rA 0 31 0 59,iA 0])
theorem k4_0:chk tab cfg3 10000 95 e4_0.1 e4_0.2=true:=by kernel_rfl
def e4_1:List AV×AV:=([dA [48,48,48,48] 0 0 [] []],.tuple [rA 0 0 0 365,iA 0])
theorem k4_1:chk tab cfg3 10000 197 e4_1.1 e4_1.2=true:=by kernel_rfl
def e4_2:List AV×AV:=([dA [48,48,48,49] 0 0 [48,49] []],.tuple [rA 0 366 0 396,iA 0])
theorem k4_2:chk tab cfg3 10000 197 e4_2.1 e4_2.2=true:=by kernel_rfl
def e4_3:List AV×AV:=([dA [48,48,48,48] 0 0 [] []],.tuple [rA 0 0 0 365,iA 0])
theorem k4_3:chk tab cfg3 10000 95 e4_3.1 e4_3.2=true:=by kernel_rfl
def e4_4:List AV×AV:=([dA [48,48,48,49] 0 0 [48,49] []],.tuple [rA 0 366 0 396,iA 0])
theorem k4_4:chk tab cfg3 10000 95 e4_4.1 e4_4.2=true:=by kernel_rfl
def e4_5:List AV×AV:=([.agg [.int .u8 2,.bool false,.bool false,.str [],iA 0,iA 0,.str [],.str [],.int .u8 0,.int .u8 0,.int .u8 0],.agg [.int .u8 1,.bool false,.bool false,.str [48,48,48,48],iA 0,iA 0,.str [],.str [],.int .u8 0,.int .u8 0,.int .u8 0]],iA 0)
theorem k4_5:chk tab cfg3 10000 141 e4_5.1 e4_5.2=true:=by kernel_rfl
def e4_6:List AV×AV:=([dA [48,48,48,48] 0 0 [48,51] []],.tuple [rA 0 60 0 90,iA 0])
theorem k4_6:chk tab cfg3 10000 197 e4_6.1 e4_6.2=true:=by kernel_rfl
def e4_7:List AV×AV:=([dA [48,48,48,48] 0 0 [48,52] []],.tuple [rA 0 91 0 120,iA 0])
theorem k4_7:chk tab cfg3 10000 197 e4_7.1 e4_7.2=true:=by kernel_rfl
def e4_8:List AV×AV:=([dA [48,48,48,48] 0 0 [48,49] []],.tuple [rA 0 0 0 30,iA 0])
theorem k4_8:chk tab cfg3 10000 95 e4_8.1 e4_8.2=true:=by kernel_rfl
def e4_9:List AV×AV:=([dA [48,48,48,48] 0 0 [48,51] []],.tuple [rA 0 60 0 90,iA 0])
theorem k4_9:chk tab cfg3 10000 95 e4_9.1 e4_9.2=true:=by kernel_rfl
def e4_10:List AV×AV:=([dA [48,48,48,48] 0 0 [48,52] []],.tuple [rA 0 91 0 120,iA 0])
theorem k4_10:chk tab cfg3 10000 95 e4_10.1 e4_10.2=true:=by kernel_rfl
def e4_11:List AV×AV:=([.agg [.bool false,.bool false,.str [48,48,48,48],iA 0,iA 0,.str [],.str [],.int .u8 0,.int .u8 0,.int .u8 0,.bool false,.bool false,.bool false,.str [],iA 0,iA 0,.str [],.str [],.int .u8 0,.int .u8 0,.int .u8 0]],.bool true)
theorem k4_11:chk tab cfg3 10000 202 e4_11.1 e4_11.2=true:=by kernel_rfl
def e4_12:List AV×AV:=([dA [48,48,48,48] 0 0 [48,50] [48,49]],iA 0)
theorem k4_12:chk tab cfg3 10000 59 e4_12.1 e4_12.2=true:=by kernel_rfl
def e4_13:List AV×AV:=([dA [48,48,48,48] 0 0 [48,50] [48,57]],iA 0)
theorem k4_13:chk tab cfg3 10000 59 e4_13.1 e4_13.2=true:=by kernel_rfl
def e4_14:List AV×AV:=([rA 0 0 0 31,.int .u8 2],.bool false)
theorem k4_14:chk tab cfg3 10000 61 e4_14.1 e4_14.2=true:=by kernel_rfl
noncomputable def memo4:Memo:=(.node none (.node none (.node none (.node none (.node none (.node none .nil (.node (some [e4_0,e4_3,e4_4,e4_8,e4_9,e4_10]) .nil .nil)) .nil) .nil) (.node none .nil (.node none .nil (.node (some [e4_12,e4_13]) .nil .nil)))) (.node none .nil (.node none (.node none (.node none (.node none .nil (.node (some [e4_3,e4_4,e4_9,e4_10]) .nil .nil)) .nil) .nil) (.node none (.node none (.node none (.node (some [e4_5]) .nil .nil) .nil) .nil) (.node (some [e4_14]) .nil .nil))))) (.node none .nil (.node none (.node none .nil (.node none (.node none (.node none .nil (.node (some [e4_11]) .nil .nil)) .nil) .nil)) .nil)))
noncomputable def cfg4:Cfg:=cfgM cfg3 memo4
theorem memo4_ok (g:Good Tryz.prog tab cfg3):TbAll (fun f l=>∀e∈l,Fact Tryz.prog cfg3 f e.1 e.2) (fun i=>i) memo4:=⟨none_all,⟨none_all,⟨none_all,⟨none_all,⟨none_all,⟨none_all,trivial,⟨(some_all (fact_cons (g.fact 10000 k4_0) (fact_cons (g.fact 10000 k4_3) (fact_cons (g.fact 10000 k4_4) (fact_cons (g.fact 10000 k4_8) (fact_cons (g.fact 10000 k4_9) (fact_cons (g.fact 10000 k4_10) fact_nil))))))),trivial,trivial⟩⟩,trivial⟩,trivial⟩,⟨none_all,trivial,⟨none_all,trivial,⟨(some_all (fact_cons (g.fact 10000 k4_12) (fact_cons (g.fact 10000 k4_13) fact_nil))),trivial,trivial⟩⟩⟩⟩,⟨none_all,trivial,⟨none_all,⟨none_all,⟨none_all,⟨none_all,trivial,⟨(some_all (fact_cons (g.fact 10000 k4_1) (fact_cons (g.fact 10000 k4_2) (fact_cons (g.fact 10000 k4_6) (fact_cons (g.fact 10000 k4_7) fact_nil))))),trivial,trivial⟩⟩,trivial⟩,trivial⟩,⟨none_all,⟨none_all,⟨none_all,⟨(some_all (fact_cons (g.fact 10000 k4_5) fact_nil)),trivial,trivial⟩,trivial⟩,trivial⟩,⟨(some_all (fact_cons (g.fact 10000 k4_14) fact_nil)),trivial,trivial⟩⟩⟩⟩⟩,⟨none_all,trivial,⟨none_all,⟨none_all,trivial,⟨none_all,⟨none_all,⟨none_all,trivial,⟨(some_all (fact_cons (g.fact 10000 k4_11) fact_nil)),trivial,trivial⟩⟩,trivial⟩,trivial⟩⟩,trivial⟩⟩⟩
theorem good4 (g:Good Tryz.prog tab cfg3):Good Tryz.prog tab cfg4:=g.memo fun f l h=>(memo4_ok g).get f l h
def e5_0:List AV×AV:=([.agg [.int .u8 1,.bool false,.bool false,.str [48,48,48,48],iA 0,iA 0,.str [],.str [],.int .u8 0,.int .u8 0,.int .u8 0],.agg [.int .u8 1,.bool false,.bool false,.str [48,48,48,49],iA 0,iA 0,.str [48,49],.str [],.int .u8 0,.int .u8 0,.int .u8 0]],iA 0)
theorem k5_0:chk tab cfg4 10000 141 e5_0.1 e5_0.2=true:=by kernel_rfl
def e5_1:List AV×AV:=([dA [48,48,48,48] 0 0 [48,51] [],dA [48,48,48,48] 0 0 [48,52] []],.bool true)
theorem k5_1:chk tab cfg4 10000 245 e5_1.1 e5_1.2=true:=by kernel_rfl
def e5_2:List AV×AV:=([dA [48,48,48,48] 0 0 [48,50] [48,49]],.tuple [rA 0 31 0 31,iA 0])
theorem k5_2:chk tab cfg4 10000 197 e5_2.1 e5_2.2=true:=by kernel_rfl
def e5_3:List AV×AV:=([dA [48,48,48,48] 0 0 [48,50] [48,57]],.tuple [rA 0 39 0 39,iA 0])
theorem k5_3:chk tab cfg4 10000 197 e5_3.1 e5_3.2=true:=by kernel_rfl
def e5_4:List AV×AV:=([dA [48,48,48,48] 0 0 [48,50] [48,49]],.tuple [rA 0 31 0 31,iA 0])
theorem k5_4:chk tab cfg4 10000 95 e5_4.1 e5_4.2=true:=by kernel_rfl
def e5_5:List AV×AV:=([dA [48,48,48,48] 0 0 [48,50] [48,57]],.tuple [rA 0 39 0 39,iA 0])
theorem k5_5:chk tab cfg4 10000 95 e5_5.1 e5_5.2=true:=by kernel_rfl
noncomputable def memo5:Memo:=(.node none (.node none (.node none (.node none (.node none (.node none .nil (.node (some [e5_4,e5_5]) .nil .nil)) .nil) .nil) .nil) (.node none .nil (.node none (.node none (.node none (.node none .nil (.node (some [e5_4,e5_5]) .nil .nil)) .nil) (.node none .nil (.node none .nil (.node (some [e5_1]) .nil .nil)))) (.node none (.node none (.node none (.node (some [e5_0]) .nil .nil) .nil) .nil) .nil)))) .nil)
noncomputable def cfg5:Cfg:=cfgM cfg4 memo5
theorem memo5_ok (g:Good Tryz.prog tab cfg4):TbAll (fun f l=>∀e∈l,Fact Tryz.prog cfg4 f e.1 e.2) (fun i=>i) memo5:=⟨none_all,⟨none_all,⟨none_all,⟨none_all,⟨none_all,⟨none_all,trivial,⟨(some_all (fact_cons (g.fact 10000 k5_4) (fact_cons (g.fact 10000 k5_5) fact_nil))),trivial,trivial⟩⟩,trivial⟩,trivial⟩,trivial⟩,⟨none_all,trivial,⟨none_all,⟨none_all,⟨none_all,⟨none_all,trivial,⟨(some_all (fact_cons (g.fact 10000 k5_2) (fact_cons (g.fact 10000 k5_3) fact_nil))),trivial,trivial⟩⟩,trivial⟩,⟨none_all,trivial,⟨none_all,trivial,⟨(some_all (fact_cons (g.fact 10000 k5_1) fact_nil)),trivial,trivial⟩⟩⟩⟩,⟨none_all,⟨none_all,⟨none_all,⟨(some_all (fact_cons (g.fact 10000 k5_0) fact_nil)),trivial,trivial⟩,trivial⟩,trivial⟩,trivial⟩⟩⟩⟩,trivial⟩
theorem good5 (g:Good Tryz.prog tab cfg4):Good Tryz.prog tab cfg5:=g.memo fun f l h=>(memo5_ok g).get f l h
def e6_0:List AV×AV:=([.agg [.bool false,.bool false,.str [48,48,48,48],iA 0,iA 0,.str [48,51],.str [],.int .u8 0,.int .u8 0,.int .u8 0,.bool true,.bool false,.bool false,.str [48,48,48,48],iA 0,iA 0,.str [48,52],.str [],.int .u8 0,.int .u8 0,.int .u8 0],.int .u8 3],iA 0)
theorem k6_0:chk tab cfg5 10000 199 e6_0.1 e6_0.2=true:=by kernel_rfl
def e6_1:List AV×AV:=([dA [48,48,48,48] 0 0 [48,50] [48,49],dA [48,48,48,48] 0 0 [48,50] [48,57]],.bool true)
theorem k6_1:chk tab cfg5 10000 245 e6_1.1 e6_1.2=true:=by kernel_rfl
noncomputable def memo6:Memo:=(.node none (.node none (.node none (.node none .nil (.node none (.node none (.node none .nil (.node (some [e6_0]) .nil .nil)) .nil) .nil)) .nil) (.node none .nil (.node none (.node none .nil (.node none .nil (.node none .nil (.node (some [e6_1]) .nil .nil)))) .nil))) .nil)
noncomputable def cfg6:Cfg:=cfgM cfg5 memo6
theorem memo6_ok (g:Good Tryz.prog tab cfg5):TbAll (fun f l=>∀e∈l,Fact Tryz.prog cfg5 f e.1 e.2) (fun i=>i) memo6:=⟨none_all,⟨none_all,⟨none_all,⟨none_all,trivial,⟨none_all,⟨none_all,⟨none_all,trivial,⟨(some_all (fact_cons (g.fact 10000 k6_0) fact_nil)),trivial,trivial⟩⟩,trivial⟩,trivial⟩⟩,trivial⟩,⟨none_all,trivial,⟨none_all,⟨none_all,trivial,⟨none_all,trivial,⟨none_all,trivial,⟨(some_all (fact_cons (g.fact 10000 k6_1) fact_nil)),trivial,trivial⟩⟩⟩⟩,trivial⟩⟩⟩,trivial⟩
theorem good6 (g:Good Tryz.prog tab cfg5):Good Tryz.prog tab cfg6:=g.memo fun f l h=>(memo6_ok g).get f l h
def e7_0:List AV×AV:=([.agg [.bool false,.bool false,.str [48,48,48,48],iA 0,iA 0,.str [48,50],.str [48,49],.int .u8 0,.int .u8 0,.int .u8 0,.bool true,.bool false,.bool false,.str [48,48,48,48],iA 0,iA 0,.str [48,50],.str [48,57],.int .u8 0,.int .u8 0,.int .u8 0],.int .u8 4],iA 0)
theorem k7_0:chk tab cfg6 10000 199 e7_0.1 e7_0.2=true:=by kernel_rfl
noncomputable def memo7:Memo:=(.node none (.node none (.node none (.node none .nil (.node none (.node none (.node none .nil (.node (some [e7_0]) .nil .nil)) .nil) .nil)) .nil) .nil) .nil)
noncomputable def cfg7:Cfg:=cfgM cfg6 memo7
theorem memo7_ok (g:Good Tryz.prog tab cfg6):TbAll (fun f l=>∀e∈l,Fact Tryz.prog cfg6 f e.1 e.2) (fun i=>i) memo7:=⟨none_all,⟨none_all,⟨none_all,⟨none_all,trivial,⟨none_all,⟨none_all,⟨none_all,trivial,⟨(some_all (fact_cons (g.fact 10000 k7_0) fact_nil)),trivial,trivial⟩⟩,trivial⟩,trivial⟩⟩,trivial⟩,trivial⟩,trivial⟩
theorem good7 (g:Good Tryz.prog tab cfg6):Good Tryz.prog tab cfg7:=g.memo fun f l h=>(memo7_ok g).get f l h
def e8_0:List AV×AV:=([],.bool true)
theorem k8_0:chk tab cfg7 10000 22 e8_0.1 e8_0.2=true:=by kernel_rfl
end Go.Ev
end
section
set_option maxRecDepth 100000
set_option maxHeartbeats 400000
namespace Go.Ev
open Go Go.Proofs
theorem fact_to {cfg':Cfg} {f:FuncId} {args:List AV} {v:AV} (hG:cfg.G=cfg'.G) (hr:cfg.root=cfg'.root) (h:Fact Tryz.prog cfg' f args v):Fact Tryz.prog cfg f args v:=fun C D m o w hi hok=>
 (h C D m o w (Inv.to (cfg:=cfg) (cfg':=cfg') hG.symm hr.symm hi) hok).mono fun V w' ⟨h1,h2,h3,h4⟩=>⟨h1,h2,Ext.to (cfg:=cfg') (cfg':=cfg) hG hr h3,h4⟩
theorem fact22:Fact Tryz.prog cfg 22 [] (.bool true):=fact_to (cfg':=cfg7) rfl rfl ((good7 (good6 (good5 (good4 (good3 (good2 (good1 good0))))))).fact 10000 k8_0)
theorem f22:FactW Tryz.prog cfg 22 [] [] (.bool true) []:=fun D m w hi hok=>(fact22 (Cw cfg []) D m ⟨0,[],[]⟩ w hi hok).mono fun V w' ⟨h1,h2,h3,_⟩=>⟨D,m,h1,h2,h3⟩
theorem add22 {S:Sums} (hS:SumsOK Tryz.prog cfg S):SumsOK Tryz.prog cfg (addP S 22 s22):=sums_addP hS fun args t v he hv=>by
 unfold s22 at he
 split at he
 · cases he
   cases hv
   exact f22
 · cases he
theorem Y6_ok:SumsOK Tryz.prog cfg Y6:=add21 (add20 (add22 sums_nil))
theorem body6:bodyOf tab 6=some (fnOf 6,codeOf 6):=by kernel_rfl
theorem f6s {k:Int} {ng lg:Bool} {s:List UInt8} {e g:Int} {mo da:List UInt8} {x y z p a b c d:Int} {R:List Rn} {K:Cap} (hR:inRs R) (he : -9223372036854775808≤e∧e≤9223372036854775807) (hg : -9223372036854775808≤g∧g≤9223372036854775807) (hb : -9223372036854775808≤b∧b≤9223372036854775807) (hd : -9223372036854775808≤d∧d≤9223372036854775807) (ha : -128≤a∧a≤127) (hc : -128≤c∧c≤127) (hx:0≤x∧x≤255) (hy:0≤y∧y≤255) (hz:0≤z∧z≤255) (hp:0≤p∧p≤255):FactW Tryz.prog cfg 6 [.agg [.int .u8 k,.slice 14 0 R.length K,.bool ng,.bool lg,.str s,.int .i64 e,.int .i64 g,.str mo,.str da,.int .u8 x,.int .u8 y,.int .u8 z,.int .u8 p,.int .i8 a,.int .i64 b,.int .i8 c,.int .i64 d]] [.cells (flat R) false none] (.bool true) []:=by
 by_cases hl:R.length≤8∧s.length≤40∧mo.length≤10∧da.length≤10
 · obtain ⟨hn,hs,hm,hda⟩:=hl
   refine fpwOK Y6_ok (L:=noL) flat_low body6 (by simp) lok_none (wp_gen fun Q' hQ=>askA_wp ((b6s ng lg s e g mo da k x y z p a b c d (flat R) R.length K).mpr ?_)) (by simp [idsA])
   dsimp only
   have hQ:=hQ _ rfl
   have bl:Nat.ble (R.length*4) (R.length*4)=true:=q_ble_t.mpr (Nat.le_refl _)
   have ir:=isRs_flat hR
   have cr:chkS R=refS R:=chk_ref fun i hi=>(hR i hi).2
   simp only [win_flat,unR_flat,belowL_flat,flat_len,Nat.zero_add,bl,ir,cr,Bool.and_true,Bool.true_and]
   generalize refS R=ch at *
   generalize dZ ng lg s e g mo da x y z=dz at *
   generalize sZ a b c d=sz at *
   generalize mZ x y z=mz at *
   generalize hasXB (s++mo++da)=xb at *
   generalize errF ng lg s e g mo da x y z=ef at *
   generalize fitB a b c d p=ft at *
   generalize rChk a b c d=rk at *
   generalize famE k R.length ch dz p sz ef g xb mz ft rk a c=er at *
   simp only [q_all,reduceCtorEq,loK,hiK,ne_eq]
   (repeat' first|exact trivial|refine ⟨?_,?_⟩|intro)<;>first|contradiction|omega|assumption|(exfalso;simp_all;done)
 · refine fpwOK Y6_ok (L:=noL) flat_low body6 (by simp) lok_none (wp_gen fun Q' hQ=>askA_wp ((b6t ng lg s e g mo da k x y z p a b c d (flat R) R.length K).mpr ?_)) (by simp [idsA])
   dsimp only
   have hQ:=hQ _ rfl
   simp only [q_all,reduceCtorEq,loK,hiK,ne_eq]
   (repeat' first|exact trivial|refine ⟨?_,?_⟩|intro)<;>first|contradiction|omega|assumption
theorem f6n {k:Int} {ng lg:Bool} {s:List UInt8} {e g:Int} {mo da:List UInt8} {x y z p a b c d:Int} (he : -9223372036854775808≤e∧e≤9223372036854775807) (hg : -9223372036854775808≤g∧g≤9223372036854775807) (hb : -9223372036854775808≤b∧b≤9223372036854775807) (hd : -9223372036854775808≤d∧d≤9223372036854775807) (ha : -128≤a∧a≤127) (hc : -128≤c∧c≤127) (hx:0≤x∧x≤255) (hy:0≤y∧y≤255) (hz:0≤z∧z≤255) (hp:0≤p∧p≤255):FactW Tryz.prog cfg 6 [.agg [.int .u8 k,.nilslice,.bool ng,.bool lg,.str s,.int .i64 e,.int .i64 g,.str mo,.str da,.int .u8 x,.int .u8 y,.int .u8 z,.int .u8 p,.int .i8 a,.int .i64 b,.int .i8 c,.int .i64 d]] [] (.bool true) []:=by
 by_cases hl:s.length≤40∧mo.length≤10∧da.length≤10
 · obtain ⟨hs,hm,hda⟩:=hl
   refine fpwOK Y6_ok (L:=noL) (fun x hx=>by cases hx) body6 (by simp) lok_none (wp_gen fun Q' hQ=>askA_wp ((b6n ng lg s e g mo da k x y z p a b c d).mpr ?_)) (by simp [idsA])
   dsimp only
   have hQ:=hQ _ rfl
   generalize dZ ng lg s e g mo da x y z=dz at *
   generalize sZ a b c d=sz at *
   generalize mZ x y z=mz at *
   generalize hasXB (s++mo++da)=xb at *
   generalize errF ng lg s e g mo da x y z=ef at *
   generalize fitB a b c d p=ft at *
   generalize rChk a b c d=rk at *
   generalize famE k 0 0 dz p sz ef g xb mz ft rk a c=er at *
   simp only [q_all,reduceCtorEq,loK,hiK,ne_eq]
   (repeat' first|exact trivial|refine ⟨?_,?_⟩|intro)<;>first|contradiction|omega|assumption|(exfalso;simp_all;done)
 · refine fpwOK Y6_ok (L:=noL) (fun x hx=>by cases hx) body6 (by simp) lok_none (wp_gen fun Q' hQ=>askA_wp ((b6u ng lg s e g mo da k x y z p a b c d).mpr ?_)) (by simp [idsA])
   dsimp only
   have hQ:=hQ _ rfl
   simp only [q_all,reduceCtorEq,loK,hiK,ne_eq]
   (repeat' first|exact trivial|refine ⟨?_,?_⟩|intro)<;>first|contradiction|omega|assumption
end Go.Ev
end
section
namespace Go.Ev
open Go Go.Proofs
section
variable {H:Type} {enc:TypeId×Value→H} {P:Program} {w:World} {base:Nat} {sp:Nat→Bool} {held:Bool}
theorem pair_of_trod {fuel:Nat} {e t0 t1:TypeId} {f0 f1:Field} {cs:List Value} {k:IntKind} {d:DataW H} {p:List MemPlace} (he:P.underlying e=some (.struct #[f0,f1])) (e0:f0.type=t0) (e1:f1.type=t1) (h0:P.underlying t0=some (.int k)) (h1:P.underlying t1=some (.int k))
 (o0:f0.offset=0) (o1:f1.offset=1) (c0:P.cellsOf t0=1) (c1:P.cellsOf t1=1) (hc:P.cellsOf e=2) (h:DataW.trod enc P w base sp held fuel e cs=some (d,p)) :
 ∃a b,cs=[.int k a,.int k b]∧d=.agg [.lit (.int k a),.lit (.int k b)]:=by
 cases fuel with
 | zero=>simp [DataW.trod] at h
 | succ fuel=>
   unfold DataW.trod at h
   simp only [he,hc] at h
   split at h
   · rename_i hl
     match cs,hl with
     | [x,y],_=>
       simp only [List.mapM_cons,List.mapM_nil,o0,o1,e0,e1,c0,c1,List.drop_zero,List.drop_succ_cons,List.take_succ_cons,List.take_zero,Option.map_eq_some_iff,Option.bind_eq_bind,Option.bind_eq_some_iff,Option.pure_def,Option.some.injEq] at h
       obtain ⟨xs,⟨r0,hr0,ys,⟨r1,hr1,zs,rfl,rfl⟩,rfl⟩,hx⟩:=h
       obtain ⟨n0,q0,rfl,_⟩:=DataW.trod_int h0 hr0
       obtain ⟨n1,q1,rfl,_⟩:=DataW.trod_int h1 hr1
       simp only [List.cons.injEq,and_true] at q0 q1
       subst q0 q1
       refine ⟨n0,n1,rfl,?_⟩
       have:=congrArg Prod.fst hx
       simpa using this.symm
   · cases h
theorem arr_of_trod {fuel n:Nat} {t e t0 t1:TypeId} {f0 f1:Field} {cs:List Value} {k:IntKind} {ds:List (DataW H)} {p:List MemPlace} (ht:P.underlying t=some (.array n e)) (he:P.underlying e=some (.struct #[f0,f1])) (e0:f0.type=t0) (e1:f1.type=t1) (h0:P.underlying t0=some (.int k)) (h1:P.underlying t1=some (.int k))
 (o0:f0.offset=0) (o1:f1.offset=1) (c0:P.cellsOf t0=1) (c1:P.cellsOf t1=1) (hc:P.cellsOf e=2) (h:DataW.trod enc P w base sp held fuel t cs=some (.agg ds,p)) :
 ∀i d,ds[i]? = some d→∃a b,d=.agg [.lit (.int k a),.lit (.int k b)]∧cs[2*i]? = some (.int k a)∧cs[2*i+1]? = some (.int k b):=by
 cases fuel with
 | zero=>simp [DataW.trod] at h
 | succ fuel=>
   unfold DataW.trod at h
   simp only [ht,hc] at h
   split at h
   · rename_i hl
     obtain ⟨xs,hm,hx⟩:=Option.map_eq_some_iff.1 h
     have hxs:xs.map (·.1)=ds:=by
      have:=congrArg Prod.fst hx
      simpa using this
     intro i d hd
     have hxl:xs.length=n:=by simpa using Lib.mapM_length hm
     have hi:i<n:=by
      have:=(List.getElem?_eq_some_iff.1 hd).1
      rw [←hxs] at this
      simp at this;omega
     obtain ⟨b,hb,hf⟩:=Lib.mapM_at hm i i (by simp [hi])
     obtain ⟨x,y,hc1,hc2⟩:=pair_of_trod (d:=b.1) (p:=b.2) he e0 e1 h0 h1 o0 o1 c0 c1 hc (by rw [hf])
     refine ⟨x,y,?_,?_,?_⟩
     · rw [←hxs] at hd
       simp only [List.getElem?_map,hb,Option.map_some,Option.some.injEq] at hd
       rw [←hd,hc2]
     · have:=congrArg (·[0]?) hc1
       simp only [List.getElem?_take,List.getElem?_drop,List.getElem?_cons_zero] at this
       rw [show 2*i=i*2+0 by omega]
       simpa using this
     · have:=congrArg (·[1]?) hc1
       simp only [List.getElem?_take,List.getElem?_drop] at this
       rw [show 2*i+1=i*2+1 by omega]
       simpa using this
   · cases h
theorem slice_of_trod {fuel:Nat} {t e t0 t1:TypeId} {f0 f1:Field} {cs:List Value} {k:IntKind} {ds:List (DataW H)} {p:List MemPlace} (ht:P.underlying t=some (.slice e)) (he:P.underlying e=some (.struct #[f0,f1])) (e0:f0.type=t0) (e1:f1.type=t1) (h0:P.underlying t0=some (.int k)) (h1:P.underlying t1=some (.int k))
 (o0:f0.offset=0) (o1:f1.offset=1) (c0:P.cellsOf t0=1) (c1:P.cellsOf t1=1) (hc:P.cellsOf e=2) (hne:0<ds.length) (h:DataW.trod enc P w base (fun _=>true) held fuel t cs=some (.slice ds [],p)) :
 ∃b o,cs=[.slice (some ⟨b,o,none⟩) ds.length ds.length]∧∀i d,ds[i]? = some d→∃x y,d=.agg [.lit (.int k x),.lit (.int k y)]∧w.cell? ⟨b,o+2*i,none⟩=some (.int k x)∧w.cell? ⟨b,o+(2*i+1),none⟩=some (.int k y):=by
 rcases DataW.trod_slice ht h with ⟨_,hx⟩|⟨a,len,cap,elems,rest,n,rfl,rfl,hx,hb,hle,hmax,hel,hat,hrest,_⟩
 · cases hx
 · simp only [Prod.mk.injEq,DataW.slice.injEq] at hx
   obtain ⟨⟨hds,hrs⟩,_⟩:=hx
   have hr0:rest.length=0:=by
    have:=congrArg List.length hrs
    simpa using this.symm
   have hcap:cap=len:=by
    have:=(hrest rfl).1
    omega
   have hlen:ds.length=len:=by rw [hds];simpa using hel
   subst hcap
   have main:∀i d,ds[i]? = some d→∃x y,d=.agg [.lit (.int k x),.lit (.int k y)]∧w.cell? (a.add (i*2))=some (.int k x)∧w.cell? ((a.add (i*2)).add 1)=some (.int k y):=by
    intro i d hd
    have hi:i<cap:=by
     have:=(List.getElem?_eq_some_iff.1 hd).1
     omega
    have h3:=hat i hi
    rw [hds,List.getElem?_map] at hd
    obtain ⟨b,hb',rfl⟩:=Option.map_eq_some_iff.1 hd
    rw [hb',hc] at h3
    obtain ⟨cs',hcs,htr⟩:=Option.bind_eq_some_iff.1 h3
    obtain ⟨x,y,rfl,hd2⟩:=pair_of_trod (d:=b.1) (p:=b.2) he e0 e1 h0 h1 o0 o1 c0 c1 hc htr
    obtain ⟨_,_,hcell⟩:=World.cells?_some hcs
    refine ⟨x,y,hd2,?_,?_⟩
    · have:=hcell 0 (by omega)
      simpa [Addr.add] using this
    · exact hcell 1 (by omega)
   obtain ⟨b,o,sp⟩:=a
   have hsp:sp=none:=by
    obtain ⟨x,y,_,hx0,_⟩:=main 0 (ds[0]'hne) (by simp [hne])
    simp only [Nat.zero_mul,Addr.add,if_true] at hx0
    unfold World.cell? at hx0
    cases sp with
    | none=>rfl
    | some v=>split at hx0<;>simp at hx0
   subst hsp
   refine ⟨b,o,by rw [hlen],fun i d hd=>?_⟩
   obtain ⟨x,y,h4,h5,h6⟩:=main i d hd
   refine ⟨x,y,h4,?_,?_⟩
   · by_cases e:i=0
     · subst e;simpa [Addr.add] using h5
     · rw [show o+2*i=o+i*2 by omega]
       have e2:¬i*2=0:=by omega
       rw [Addr.add,if_neg e2] at h5
       exact h5
   · by_cases e:i=0
     · subst e;simpa [Addr.add] using h6
     · rw [show o+(2*i+1)=o+i*2+1 by omega]
       have e2:¬i*2=0:=by omega
       rw [Addr.add,if_neg (by omega),Addr.add,if_neg e2] at h6
       exact h6
end
end Go.Ev
end
section
set_option maxRecDepth 100000
set_option maxHeartbeats 1000000
namespace Go.Ev
open Go Go.Proofs
section
variable {P:Program} {w:World} {r:Reach} {b0:Nat} {t:TypeId} {v:Value}
theorem cell_bool (ht:P.underlying t=some .bool) (h:Cell.okWide P w r b0 t v):∃b,v=.bool b:=by
 unfold Cell.okWide Cell.ok at h
 rw [ht] at h
 cases v<;>first|exact ⟨_,rfl⟩|exact h.elim
theorem cell_str (ht:P.underlying t=some .string) (h:Cell.okWide P w r b0 t v):∃s,v=.string s:=by
 unfold Cell.okWide Cell.ok at h
 rw [ht] at h
 cases v<;>first|exact ⟨_,rfl⟩|exact h.elim
theorem cell_int {k:IntKind} (ht:P.underlying t=some (.int k)) (h:Cell.okWide P w r b0 t v):∃n,v=.int k n∧k.min≤n∧n≤k.max:=by
 unfold Cell.okWide Cell.ok at h
 rw [ht] at h
 cases v<;>first|exact h.elim|skip
 obtain ⟨rfl,h1⟩:=h
 exact ⟨_,rfl,h1⟩
theorem cell_slice {e:TypeId} (ht:P.underlying t=some (.slice e)) (h:Cell.okWide P w r b0 t v):v=.slice none 0 0∨∃b o len cap c el fz,v=.slice (some ⟨b,o,none⟩) len cap∧w.heap[b]? = some (.cells c el fz):=by
 unfold Cell.okWide Cell.ok at h
 rw [ht] at h
 cases v<;>first|exact h.elim|skip
 rename_i a len cap
 cases a with
 | none=>
   left
   cases len<;>cases cap<;>first|rfl|exact h.elim
 | some a=>
   right
   obtain ⟨_,_,_,h4,row,cells,h5,_⟩:=h
   obtain ⟨b,o,sp⟩:=a
   simp only at h4 h5
   subst h4
   unfold World.shape? at h5
   split at h5
   · rename_i c el fz hh
     exact ⟨b,o,len,cap,c,el,fz,rfl,hh⟩
   · cases h5
end
theorem ct62:Tryz.prog.cellTypes Tryz.prog.depth 62=some [5,60,4,4,9,3,3,9,9,5,5,5,5,27,2,27,2]:=by kernel_rfl
theorem co62:Tryz.prog.cellsOf 62=17:=by kernel_rfl
theorem co31:Tryz.prog.cellsOf 31=4:=by kernel_rfl
theorem co29:Tryz.prog.cellsOf 29=2:=by kernel_rfl
theorem co27:Tryz.prog.cellsOf 27=1:=by kernel_rfl
theorem co2:Tryz.prog.cellsOf 2=1:=by kernel_rfl
theorem co60:Tryz.prog.cellsOf 60=1:=by kernel_rfl
theorem array17 {α:Type} {cs:Array α} (h:cs.size=17):∃c0 c1 c2 c3 c4 c5 c6 c7 c8 c9 c10 c11 c12 c13 c14 c15 c16,cs=#[c0,c1,c2,c3,c4,c5,c6,c7,c8,c9,c10,c11,c12,c13,c14,c15,c16]:=by
 obtain ⟨l⟩:=cs
 match l,h with
 | [c0,c1,c2,c3,c4,c5,c6,c7,c8,c9,c10,c11,c12,c13,c14,c15,c16],_=>exact ⟨c0,c1,c2,c3,c4,c5,c6,c7,c8,c9,c10,c11,c12,c13,c14,c15,c16,rfl⟩
theorem shape62 {w:World} {r:Reach} {b0:Nat} {v:Value} (h:Value.okWide Tryz.prog w r b0 62 v):∃k sv ng lg s e g mo da x y z p a b c d,v=.agg #[.int .u8 k,sv,.bool ng,.bool lg,.string s,.int .i64 e,.int .i64 g,.string mo,.string da,.int .u8 x,.int .u8 y,.int .u8 z,.int .u8 p,.int .i8 a,.int .i64 b,.int .i8 c,.int .i64 d]∧Cell.okWide Tryz.prog w r b0 60 sv∧(0≤k∧k≤255)∧(-9223372036854775808≤e∧e≤9223372036854775807)∧(-9223372036854775808≤g∧g≤9223372036854775807)∧(0≤x∧x≤255)∧(0≤y∧y≤255)∧(0≤z∧z≤255)∧(0≤p∧p≤255)∧(-128≤a∧a≤127)∧(-9223372036854775808≤b∧b≤9223372036854775807)∧(-128≤c∧c≤127)∧(-9223372036854775808≤d∧d≤9223372036854775807):=by
 unfold Value.okWide at h
 rw [Tryz.underlying62] at h
 obtain ⟨cs,rfl,hsz,ts,hts,_,hall⟩:=h
 rw [ct62] at hts
 cases hts
 obtain ⟨c0,c1,c2,c3,c4,c5,c6,c7,c8,c9,c10,c11,c12,c13,c14,c15,c16,rfl⟩:=array17 (hsz.trans co62)
 have h0:Cell.okWide Tryz.prog w r b0 5 c0:=by
  obtain ⟨u,hu,hc⟩:=hall 0 c0 rfl
  cases hu
  exact hc
 have h1:Cell.okWide Tryz.prog w r b0 60 c1:=by
  obtain ⟨u,hu,hc⟩:=hall 1 c1 rfl
  cases hu
  exact hc
 have h2:Cell.okWide Tryz.prog w r b0 4 c2:=by
  obtain ⟨u,hu,hc⟩:=hall 2 c2 rfl
  cases hu
  exact hc
 have h3:Cell.okWide Tryz.prog w r b0 4 c3:=by
  obtain ⟨u,hu,hc⟩:=hall 3 c3 rfl
  cases hu
  exact hc
 have h4:Cell.okWide Tryz.prog w r b0 9 c4:=by
  obtain ⟨u,hu,hc⟩:=hall 4 c4 rfl
  cases hu
  exact hc
 have h5:Cell.okWide Tryz.prog w r b0 3 c5:=by
  obtain ⟨u,hu,hc⟩:=hall 5 c5 rfl
  cases hu
  exact hc
 have h6:Cell.okWide Tryz.prog w r b0 3 c6:=by
  obtain ⟨u,hu,hc⟩:=hall 6 c6 rfl
  cases hu
  exact hc
 have h7:Cell.okWide Tryz.prog w r b0 9 c7:=by
  obtain ⟨u,hu,hc⟩:=hall 7 c7 rfl
  cases hu
  exact hc
 have h8:Cell.okWide Tryz.prog w r b0 9 c8:=by
  obtain ⟨u,hu,hc⟩:=hall 8 c8 rfl
  cases hu
  exact hc
 have h9:Cell.okWide Tryz.prog w r b0 5 c9:=by
  obtain ⟨u,hu,hc⟩:=hall 9 c9 rfl
  cases hu
  exact hc
 have h10:Cell.okWide Tryz.prog w r b0 5 c10:=by
  obtain ⟨u,hu,hc⟩:=hall 10 c10 rfl
  cases hu
  exact hc
 have h11:Cell.okWide Tryz.prog w r b0 5 c11:=by
  obtain ⟨u,hu,hc⟩:=hall 11 c11 rfl
  cases hu
  exact hc
 have h12:Cell.okWide Tryz.prog w r b0 5 c12:=by
  obtain ⟨u,hu,hc⟩:=hall 12 c12 rfl
  cases hu
  exact hc
 have h13:Cell.okWide Tryz.prog w r b0 27 c13:=by
  obtain ⟨u,hu,hc⟩:=hall 13 c13 rfl
  cases hu
  exact hc
 have h14:Cell.okWide Tryz.prog w r b0 2 c14:=by
  obtain ⟨u,hu,hc⟩:=hall 14 c14 rfl
  cases hu
  exact hc
 have h15:Cell.okWide Tryz.prog w r b0 27 c15:=by
  obtain ⟨u,hu,hc⟩:=hall 15 c15 rfl
  cases hu
  exact hc
 have h16:Cell.okWide Tryz.prog w r b0 2 c16:=by
  obtain ⟨u,hu,hc⟩:=hall 16 c16 rfl
  cases hu
  exact hc
 obtain ⟨k,rfl,r0⟩:=cell_int Tryz.underlying5 h0
 obtain ⟨ng,rfl⟩:=cell_bool Tryz.underlying4 h2
 obtain ⟨lg,rfl⟩:=cell_bool Tryz.underlying4 h3
 obtain ⟨s,rfl⟩:=cell_str Tryz.underlying9 h4
 obtain ⟨e,rfl,r5⟩:=cell_int Tryz.underlying3 h5
 obtain ⟨g,rfl,r6⟩:=cell_int Tryz.underlying3 h6
 obtain ⟨mo,rfl⟩:=cell_str Tryz.underlying9 h7
 obtain ⟨da,rfl⟩:=cell_str Tryz.underlying9 h8
 obtain ⟨x,rfl,r9⟩:=cell_int Tryz.underlying5 h9
 obtain ⟨y,rfl,r10⟩:=cell_int Tryz.underlying5 h10
 obtain ⟨z,rfl,r11⟩:=cell_int Tryz.underlying5 h11
 obtain ⟨p,rfl,r12⟩:=cell_int Tryz.underlying5 h12
 obtain ⟨a,rfl,r13⟩:=cell_int Tryz.underlying27 h13
 obtain ⟨b,rfl,r14⟩:=cell_int Tryz.underlying2 h14
 obtain ⟨c,rfl,r15⟩:=cell_int Tryz.underlying27 h15
 obtain ⟨d,rfl,r16⟩:=cell_int Tryz.underlying2 h16
 exact ⟨k,c1,ng,lg,s,e,g,mo,da,x,y,z,p,a,b,c,d,rfl,h1,r0,r5,r6,r9,r10,r11,r12,r13,r14,r15,r16⟩
end Go.Ev
end
section
set_option maxRecDepth 100000
set_option maxHeartbeats 1000000
namespace Go.Ev
open Go Go.Proofs Go.ChangeShapes
theorem list_of {α:Type} {d:α} {Q:Nat→α→Prop}:∀{n:Nat},(∀i,i<n→∃a,Q i a)→∃l:List α,l.length=n∧∀i,i<n→Q i (l.getD i d)
 | 0,_=>⟨[],rfl,fun i hi=>absurd hi (Nat.not_lt_zero _)⟩
 | n+1,h=>by
   obtain ⟨l,hl,hq⟩:=list_of (n:=n) (d:=d) fun i hi=>h i (by omega)
   obtain ⟨a,ha⟩:=h n (by omega)
   refine ⟨l++[a],by simp [hl],fun i hi=>?_⟩
   by_cases e:i<n
   · have:=hq i e
     rw [List.getD_eq_getElem?_getD] at this ⊢
     rwa [List.getElem?_append_left (by omega)]
   · obtain rfl:i=n:=by omega
     rw [List.getD_eq_getElem?_getD,List.getElem?_append_right (by omega),hl,Nat.sub_self]
     exact ha
theorem add_eq {b o i:Nat}:(⟨b,o,none⟩:Addr).add i=⟨b,o+i,none⟩:=by
 unfold Addr.add
 split
 · rename_i h;subst h;rfl
 · rfl
section
variable {H:Type} {enc:TypeId×Value→H} {w:World} {sp:Nat→Bool} {held:Bool}
theorem int_of {k:IntKind} {n:Int} (h:(Lit.int k n).wf=true):k.min≤n∧n≤k.max:=by
 unfold Lit.wf at h
 simpa using h
theorem lim_of_trod {fuel:Nat} {cs:List Value} {x:DataW H×List MemPlace} (h:DataW.trod enc Tryz.prog w 0 sp held fuel 29 cs=some x):∃a b,cs=[.int .i8 a,.int .i64 b]∧inL b:=by
 obtain ⟨y0,y1,n,_,hl,h0,h1⟩:=trod_struct2 Tryz.underlying29 h
 rw [co29] at hl
 rw [co27] at h0
 rw [co2] at h1
 match cs,hl with
 | [u,v],_=>
   obtain ⟨a,ha,_,_⟩:=DataW.trod_int Tryz.underlying27 h0
   obtain ⟨b,hb,_,hw⟩:=DataW.trod_int Tryz.underlying2 h1
   cases ha
   cases hb
   exact ⟨a,b,rfl,int_of hw⟩
theorem rn_of_trod {fuel:Nat} {cs:List Value} {x:DataW H×List MemPlace} (h:DataW.trod enc Tryz.prog w 0 sp held fuel 31 cs=some x):∃r:Rn,cs=[.int .i8 r.a,.int .i64 r.b,.int .i8 r.c,.int .i64 r.d]∧inL r.b∧inL r.d:=by
 obtain ⟨y0,y1,n,_,hl,h0,h1⟩:=trod_struct2 Tryz.underlying31 h
 rw [co31] at hl
 rw [co29] at h0 h1
 match cs,hl with
 | [s,t,u,v],_=>
   obtain ⟨a,b,h2,hb⟩:=lim_of_trod h0
   obtain ⟨c,d,h3,hd⟩:=lim_of_trod h1
   cases h2
   cases h3
   exact ⟨⟨a,b,c,d⟩,rfl,hb,hd⟩
theorem runs_of_trod {fuel b o len cap:Nat} {x:DataW H×List MemPlace} (h:DataW.trod enc Tryz.prog w 0 sp held fuel 60 [.slice (some ⟨b,o,none⟩) len cap]=some x) :
 ∃R:List Rn,R.length=len∧inRs R∧∀m i v,(flat R)[i]? = some v→w.cell? ⟨b,o+i,none⟩=some (conc m v):=by
 rcases DataW.trod_slice Tryz.underlying60 h with ⟨h1,_⟩|⟨a,len',cap',elems,rest,n,_,h1,_,_,_,_,hel,hat,_⟩
 · cases h1
 · cases h1
   rw [co31] at hat
   have main:∀i,i<len→∃r:Rn,(inL r.b∧inL r.d)∧w.cell? ⟨b,o+(i*4+0),none⟩=some (.int .i8 r.a)∧w.cell? ⟨b,o+(i*4+1),none⟩=some (.int .i64 r.b)∧w.cell? ⟨b,o+(i*4+2),none⟩=some (.int .i8 r.c)∧w.cell? ⟨b,o+(i*4+3),none⟩=some (.int .i64 r.d):=by
    intro i hi
    have h3:=hat i hi
    rw [List.getElem?_eq_getElem (by omega)] at h3
    obtain ⟨cs',hcs,htr⟩:=Option.bind_eq_some_iff.1 h3
    obtain ⟨r,rfl,hr⟩:=rn_of_trod htr
    obtain ⟨_,_,hcell⟩:=World.cells?_some hcs
    have g:∀j,j<4→w.cell? ⟨b,o+(i*4+j),none⟩=[Value.int .i8 r.a,.int .i64 r.b,.int .i8 r.c,.int .i64 r.d][j]? := fun j hj=>by
     have:=hcell j hj
     rw [add_eq,add_eq,Nat.add_assoc] at this
     exact this
    exact ⟨r,hr,g 0 (by omega),g 1 (by omega),g 2 (by omega),g 3 (by omega)⟩
   obtain ⟨R,hR,hq⟩:=list_of (d:=rn0) main
   refine ⟨R,hR,fun i hi=>(hq i (by omega)).1,fun m i v hv=>?_⟩
   have hi:i<R.length*4:=by
    have:=(List.getElem?_eq_some_iff.1 hv).1
    rwa [flat_len] at this
   have hg:(flat R).getD i (.tuple [])=v:=by rw [List.getD_eq_getElem?_getD,hv];rfl
   obtain ⟨f0,f1,f2,f3⟩:=flat_at (R:=R) (i:=i/4) (by omega)
   obtain ⟨_,q0,q1,q2,q3⟩:=hq (i/4) (by omega)
   have hc:i=i/4*4+0∨i=i/4*4+1∨i=i/4*4+2∨i=i/4*4+3:=by omega
   generalize i/4=q at *
   rcases hc with rfl|rfl|rfl|rfl
   · rw [←hg,Nat.add_zero,f0];exact q0
   · rw [←hg,f1];exact q1
   · rw [←hg,f2];exact q2
   · rw [←hg,f3];exact q3
end
end Go.Ev
end
section
set_option maxRecDepth 100000
set_option maxHeartbeats 1000000
namespace Go.Ev
open Go Go.Proofs
theorem g0_nrw:∀id,id<14→rwO (cfg.root.at id)=false:=by decide
theorem inv_nil {w:World} {m:Nat→Loc} (h:Inv cfg (fun id=>id<14) m C0 ⟨0,[],[]⟩ w):Inv cfg (fun id=>id<14) m (Cw cfg []) ⟨0,[],[]⟩ w:=by
 have e1:∀id,id<14→get (Cw cfg []) ⟨0,[],[]⟩ id=cfg.root.at id:=fun id hid=>(get_cw (ws:=[]) (o1:=⟨0,[],[]⟩) rfl).1 hid
 have e0:∀id,id<14→get C0 ⟨0,[],[]⟩ id=cfg.root.at id:=fun id hid=>(h.root id hid).2
 exact ⟨fun id hid=>(by rw [e1 id hid,←e0 id hid];exact h.obj id hid),fun i j hi hj _ _ hr=>(by rw [e1 j hj,g0_nrw j hj] at hr;cases hr),
  fun id hid=>hid,h.glob,fun id hid=>⟨hid,e1 id hid⟩,fun id hid=>(by cases hid),Nat.le_refl _,rfl⟩
theorem inv_win {w:World} {m:Nat→Loc} (h:Inv cfg (fun id=>id<14) m C0 ⟨0,[],[]⟩ w) {b o:Nat} {R:List Rn} (hb:∃c e fz,w.heap[b]? = some (.cells c e fz)) (hc:∀m i v,(flat R)[i]? = some v→w.cell? ⟨b,o+i,none⟩=some (conc m v)) :
 Inv cfg (fun id=>id<15) (fun id=>if id=14 then ⟨b,o,0⟩ else m id) (Cw cfg [.cells (flat R) false none]) ⟨0,[],[]⟩ w:=by
 have gc:=get_cw (cfg:=cfg) (ws:=[.cells (flat R) false none]) (o1:=⟨0,[],[]⟩) (id:=0) rfl
 have e1:∀id,id<14→get (Cw cfg [.cells (flat R) false none]) ⟨0,[],[]⟩ id=cfg.root.at id:=fun id hid=>(get_cw (ws:=[.cells (flat R) false none]) (o1:=⟨0,[],[]⟩) rfl).1 hid
 have e2:get (Cw cfg [.cells (flat R) false none]) ⟨0,[],[]⟩ 14=.cells (flat R) false none:=gc.2.1 0 _ rfl
 have e0:∀id,id<14→get C0 ⟨0,[],[]⟩ id=cfg.root.at id:=fun id hid=>(h.root id hid).2
 have me:∀id,id<14→(fun id=>if id=14 then (⟨b,o,0⟩:Loc) else m id) id=m id:=fun id hid=>if_neg (by omega)
 refine ⟨fun id hid=>?_,fun i j hi hj _ _ hr=>?_,fun id hid=>hid,fun g hg=>?_,fun id hid=>⟨?_,e1 id hid⟩,fun id hid=>(by cases hid),?_,rfl⟩
 · by_cases e:id=14
   · subst e
     rw [e2]
     simp only [if_true]
     obtain ⟨c,el,fz,hh⟩:=hb
     refine ⟨c,el,fz,hh,⟨fun i v hv=>?_,fun i hi=>?_,fun hf=>(by cases hf),fun s hs=>(by cases hs)⟩⟩
     · have:=hc (fun id=>if id=14 then (⟨b,o,0⟩:Loc) else m id) i v hv
       unfold World.cell? at this
       simp only [hh] at this
       exact this
     · rw [flat_ids] at hi
       cases hi
   · have hid':id<14:=by omega
     rw [e1 id hid',←e0 id hid']
     simp only [if_neg e]
     exact (h.obj id hid').mono (fun i hi=>(by omega)) (fun i hi=>me i hi)
 · exfalso
   by_cases e:j=14
   · subst e;rw [e2] at hr;cases hr
   · have hj':j<14:=by omega
     rw [e1 j hj',g0_nrw j hj'] at hr;cases hr
 · obtain ⟨h1,h2⟩:=h.glob g hg
   refine ⟨by omega,?_⟩
   simp only [if_neg (by omega:¬g=14)]
   exact h2
 · have:id<14:=hid
   omega
 · show 14≤14+1
   omega
end Go.Ev
end
