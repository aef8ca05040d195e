import Derived.Test.YtafekjglclnegaaGreatDoorRows
import Derived.Test.YtafekjglclnegaaGreatDoorCards
import Derived.Test.YtafekjglclnegaaGreatDoorTie
import Derived.ProofKit
import Derived.Deep.DeepHandedRow
import Derived.RowKitTokens
import Derived.WideKeyArgs
import Derived.Deep.DeepWitnessRowRef
import Derived.Test.YtafekjglclnegaaGreatDoorP41
set_option linter.all false
section
namespace Go.Ev
open Go Go.Proofs Go.Proofs.YtafekjglclnegaaGreatDoor
set_option maxRecDepth 100000
theorem LaidVars_get {P:Program} {w:World}:∀{l:List (String×DataW Unit)} {ps:List MemPlace},DataW.LaidVars P w l ps→∀(i:Nat) (n:String) (d:DataW Unit),l[i]? = some (n,d)→
 ∃g t cs fuel p,P.globalNamed n=some g∧(P.globals[g]?).map (·.type)=some t∧w.var? P n=some cs∧DataW.trod (fun _=>()) P w 0 (fun _=>true) false fuel t cs.toList=some (d,p)∧∀x∈MemPlace.row ⟨g,0,none⟩ cs.size,x∈ps
 | [],ps,_,i,n,d,hd=>by simp at hd
 | (n0,d0)::r,ps,h,i,n,d,hd=>by
   obtain ⟨g,t,cs,fuel,p,q,h1,h2,h3,h4,h5,rfl⟩:=h
   cases i with
   | zero=>
     simp only [List.getElem?_cons_zero,Option.some.injEq,Prod.mk.injEq] at hd
     obtain ⟨rfl,rfl⟩:=hd
     exact ⟨g,t,cs,fuel,p,h1,h2,h3,h4,fun x hx=>by simp [hx]⟩
   | succ i=>
     obtain ⟨g',t',cs',fuel',p',k1,k2,k3,k4,k5⟩:=LaidVars_get h5 i n d (by simpa using hd)
     exact ⟨g',t',cs',fuel',p',k1,k2,k3,k4,fun x hx=>by simp [k5 x hx]⟩
def pairD (x y:Int):DataW Unit:=.agg [.lit (.int .i64 x),.lit (.int .i64 y)]
def pairsOf:List Int→List (DataW Unit)
 | x::y::r=>pairD x y::pairsOf r
 | _=>[]
theorem pairD_inj {x y a b:Int} (h:pairD x y=.agg [.lit (.int .i64 a),.lit (.int .i64 b)]):x=a∧y=b:=by
 simpa [pairD] using h
theorem pairsOf_get:∀{l:List Int},l.length%2=0→∀(i:Nat) (v:Int),l[i]? = some v→∃x y,(pairsOf l)[i/2]? = some (pairD x y)∧(i%2=0→v=x)∧(i%2=1→v=y)
 | [],_,i,v,h=>by simp at h
 | [x],h,i,v,_=>by simp at h
 | x::y::r,h,0,v,hv=>⟨x,y,rfl,fun _=>by simpa using hv.symm,fun h=>by simp at h⟩
 | x::y::r,h,1,v,hv=>⟨x,y,rfl,fun h=>by simp at h,fun _=>by simpa using hv.symm⟩
 | x::y::r,h,i+2,v,hv=>by
   obtain ⟨a,b,h1,h2,h3⟩:=pairsOf_get (l:=r) (by simp at h;omega) i v (by simpa using hv)
   refine ⟨a,b,?_,fun e=>h2 (by omega),fun e=>h3 (by omega)⟩
   rw [show (i+2)/2=i/2+1 by omega,pairsOf,List.getElem?_cons_succ]
   exact h1
noncomputable def laidL:List (String×DataW Unit):=Rows.extentsKnownRow.laid
theorem laid_met {w:World} (h:laidMetH Tryz.prog laidL w):laidMet Tryz.prog laidL w:=by
 unfold laidMetH at h
 have e:(laidL.filter fun x=>x.2.handleName?.isSome)=[]:=by kernel_rfl
 rw [e] at h
 exact h
theorem lens_of {w:World} (h:laidMet Tryz.prog laidL w):∀i v,ln0[i]? = some v→w.cell? ⟨1,i,none⟩=some (.int .i64 v):=by
 obtain ⟨ps,hv,_,_⟩:=h
 obtain ⟨g,t,cs,fuel,p,h1,h2,h3,h4,_⟩:=LaidVars_get hv 7 "circa/months.lengths" Rows.laid_circa_months_lengths rfl
 obtain rfl:1=g:=Option.some.inj ((show Tryz.prog.globalNamed "circa/months.lengths" = some 1 by kernel_rfl).symm.trans h1)
 obtain rfl:340=t:=Option.some.inj ((show (Tryz.prog.globals[1]?).map (·.type)=some 340 by kernel_rfl).symm.trans h2)
 have hc:=Lib.cells_of_tab (zs:=ln0) (k:=.i64) Tryz.underlying340 Tryz.underlying3 (by kernel_rfl) (by kernel_rfl) h4
 intro i v hi
 rw [World.var?_cell (by kernel_rfl:Tryz.prog.globalNamed "circa/months.lengths" = some 1) h3 i,←Array.getElem?_toList,hc,List.getElem?_map,hi]
 rfl
theorem spans_of {w:World} (h:laidMet Tryz.prog laidL w):∀i v,sp0[i]? = some v→w.cell? ⟨2,i,none⟩=some (.int .i64 v):=by
 obtain ⟨ps,hv,_,_⟩:=h
 obtain ⟨g,t,cs,fuel,p,h1,h2,h3,h4,_⟩:=LaidVars_get hv 8 "circa/seasons.spans" Rows.laid_circa_seasons_spans rfl
 obtain rfl:2=g:=Option.some.inj ((show Tryz.prog.globalNamed "circa/seasons.spans" = some 2 by kernel_rfl).symm.trans h1)
 obtain rfl:343=t:=Option.some.inj ((show (Tryz.prog.globals[2]?).map (·.type)=some 343 by kernel_rfl).symm.trans h2)
 have h4:DataW.trod (fun _=>()) Tryz.prog w 0 (fun _=>true) false fuel 343 cs.toList=some (.agg (pairsOf sp0),p):=h4
 have hc:=arr_of_trod Tryz.underlying343 Tryz.underlying342 rfl rfl Tryz.underlying3 Tryz.underlying3 rfl rfl (by kernel_rfl) (by kernel_rfl) (by kernel_rfl) h4
 intro i v hi
 rw [World.var?_cell (by kernel_rfl:Tryz.prog.globalNamed "circa/seasons.spans" = some 2) h3 i,←Array.getElem?_toList]
 obtain ⟨x,y,hd,hx,hy⟩:=pairsOf_get rfl i v hi
 obtain ⟨a,b,he,ha,hb⟩:=hc _ _ hd
 obtain ⟨rfl,rfl⟩:=pairD_inj he
 rcases Nat.mod_two_eq_zero_or_one i with h2|h2
 · rw [hx h2,←ha,show 2*(i/2)=i by omega]
 · rw [hy h2,←hb,show 2*(i/2)+1=i by omega]
theorem steps_of {w:World} (h:laidMet Tryz.prog laidL w):∃b o,w.cell? ⟨5,0,none⟩=some (.slice (some ⟨b,o,none⟩) 3 3)∧∀i v,st0[i]? = some v→w.cell? ⟨b,o+i,none⟩=some (.int .i64 v):=by
 obtain ⟨ps,hv,_,_⟩:=h
 obtain ⟨g,t,cs,fuel,p,h1,h2,h3,h4,_⟩:=LaidVars_get hv 6 "circa/years.steps" Rows.laid_circa_years_steps rfl
 obtain rfl:5=g:=Option.some.inj ((show Tryz.prog.globalNamed "circa/years.steps" = some 5 by kernel_rfl).symm.trans h1)
 obtain rfl:358=t:=Option.some.inj ((show (Tryz.prog.globals[5]?).map (·.type)=some 358 by kernel_rfl).symm.trans h2)
 have h4:DataW.trod (fun _=>()) Tryz.prog w 0 (fun _=>true) false fuel 358 cs.toList=some (.slice (pairsOf st0) [],p):=h4
 obtain ⟨b,o,hcs,hc⟩:=slice_of_trod Tryz.underlying358 Tryz.underlying359 rfl rfl Tryz.underlying2 Tryz.underlying2 rfl rfl (by kernel_rfl) (by kernel_rfl) (by kernel_rfl) (by decide) h4
 refine ⟨b,o,?_,fun i v hi=>?_⟩
 · rw [World.var?_cell (by kernel_rfl:Tryz.prog.globalNamed "circa/years.steps" = some 5) h3 0,←Array.getElem?_toList,hcs];rfl
 · obtain ⟨x,y,hd,hx,hy⟩:=pairsOf_get rfl i v hi
   obtain ⟨a,b',he,ha,hb⟩:=hc _ _ hd
   obtain ⟨rfl,rfl⟩:=pairD_inj he
   rcases Nat.mod_two_eq_zero_or_one i with h2|h2
   · rw [hx h2,←ha,show 2*(i/2)=i by omega]
   · rw [hy h2,←hb,show 2*(i/2)+1=i by omega]
theorem err_of {w:World} (h:laidMet Tryz.prog laidL w) {i g:Nat} {n:String} {text:List UInt8} (hi:laidL[i]? = some (n,.iface "*errors.errorString" (.ptr (.agg [.lit (.string text)])))) (hg:Tryz.prog.globalNamed n=some g) (ht:(Tryz.prog.globals[g]?).map (·.type)=some 251) :
 (∃b o,w.cell? ⟨g,0,none⟩=some (.iface 367 (.pointer (some ⟨b,o,none⟩))))∧∀c e fz,w.heap[g]? = some (.cells c e fz)→c.size=1:=by
 obtain ⟨ps,hv,_,hps⟩:=h
 obtain ⟨g',t,cs,fuel,p,h1,h2,h3,h4,h5⟩:=LaidVars_get hv i n _ hi
 obtain rfl:g=g':=Option.some.inj (hg.symm.trans h1)
 obtain rfl:251=t:=Option.some.inj (ht.symm.trans h2)
 obtain ⟨a,s,hcs,hcell,_⟩:=errorString_of_trod Tryz.underlying251 (fun u hu=>typeName_ptr_named (nm := "errors.errorString") (by kernel_rfl) (by kernel_rfl) (by decide) u hu) Tryz.underlying367 Tryz.underlying369 rfl rfl Tryz.underlying9 (by kernel_rfl) (by kernel_rfl) h4 (fun u v e=>by
  have hc0:w.cell? ⟨g,0,none⟩=some (.iface u v):=by
   rw [World.var?_cell hg h3 0,←Array.getElem?_toList,e];rfl
  have hsz:cs.size=1:=by
   have:=congrArg List.length e
   simpa using this
  exact (hps g 0 (h5 _ (by rw [hsz];simp [MemPlace.row]))).2 u v hc0)
 obtain ⟨b,o,sp⟩:=a
 have hsp:sp=none:=by
  unfold World.cell? at hcell
  cases sp with
  | none=>rfl
  | some v=>split at hcell<;>simp at hcell
 subst hsp
 refine ⟨⟨b,o,by rw [World.var?_cell hg h3 0,←Array.getElem?_toList,hcs];rfl⟩,fun c e fz hb=>?_⟩
 have h3':=h3
 unfold World.var? at h3'
 rw [hg] at h3'
 simp only [Option.bind_some,hb,Option.some.injEq] at h3'
 have:=congrArg List.length hcs
 rw [h3']
 simpa using this
theorem rootW_of {w:World} (h:laidMetH Tryz.prog laidL w):RootW w:=by
 have h:=laid_met h
 have hS:=err_of h (i:=5) (g:=3) (n := "strconv.ErrSyntax") rfl (by kernel_rfl) (by kernel_rfl)
 have hR:=err_of h (i:=4) (g:=4) (n := "strconv.ErrRange") rfl (by kernel_rfl) (by kernel_rfl)
 exact ⟨steps_of h,lens_of h,spans_of h,hS.1,hR.1,hS.2,hR.2⟩
end Go.Ev
end
section
set_option maxRecDepth 100000
set_option maxHeartbeats 1000000
namespace Go.Ev
open Go Go.Proofs
theorem own_none {ws:List AObj} {i:Nat} (h:i<14+ws.length):(own? (Cw cfg ws) ⟨0,[],[]⟩ i).isSome=true→False:=by
 intro hs
 unfold own? at hs
 have:(Cw cfg ws).lo=14+ws.length:=rfl
 rw [bleF (by omega),cond_false] at hs
 cases hs
theorem calls_of {f:FuncId} {fn:Func} {av:List AV} {ws:List AObj} {m:Nat→Loc} {w:World} (hfn:Tryz.prog.funcs[f]? = some fn) (h4:(fn.name == "runtime.NumGoroutine")=false) (h5:fn.body.isNone=false) (hf:FactW Tryz.prog cfg f av ws (.bool true) []) (hi:Inv cfg (fun id=>id<14+ws.length) m (Cw cfg ws) ⟨0,[],[]⟩ w) (ho:okL (fun id=>id<14+ws.length) m av) :
 Calls Tryz.prog f (concL m av).toArray w fun e w'=>e=.returned (.bool true)∧RowKit.Below w.heap.size w w':=by
 rcases hf _ m w hi ho with ⟨_,h⟩|⟨v,w',hv,_⟩
 · refine h.mono ?_
   rintro e w' ⟨v,rfl,D',m',rfl,_,he⟩
   exact ⟨rfl,he.os,he.tape,he.output,he.size,fun k hk=>he.frame k hk fun i hi ho=>(own_none hi ho).elim⟩
 · exfalso
   have h6:¬fn.name = "runtime.NumGoroutine" := by simpa using h4
   have h7:¬fn.body=none:=fun e=>by rw [e] at h5;cases h5
   simp [callFunc,hfn,h6,h7] at hv
theorem calls6 {H:Type} {enc:TypeId×Value→H} {w:World} {r:Reach} {b0:Nat} {v:Value} {d:DataW H} {p:List MemPlace} (hL:laidMetH Tryz.prog laidL w) (hv:Value.okWide Tryz.prog w r b0 62 v) (ht:DataW.Trod enc Tryz.prog w 0 (fun _=>true) true 62 v d p) :
 Calls Tryz.prog 6 #[v] w fun e w'=>e=.returned (.bool true)∧RowKit.Below w.heap.size w w':=by
 obtain ⟨m,hi⟩:=root_inv (rootW_of hL)
 obtain ⟨k,sv,ng,lg,s,e,g,mo,da,x,y,z,q,a,b,c,d',rfl,hs,_,he,hg,hx,hy,hz,hp,ha,hb,hc,hd⟩:=shape62 hv
 obtain ⟨⟨s⟩⟩:=s
 obtain ⟨⟨mo⟩⟩:=mo
 obtain ⟨⟨da⟩⟩:=da
 rcases cell_slice Tryz.underlying60 hs with rfl|⟨bk,o,len,cap,cc,el,fz,rfl,hh⟩
 · have:=calls_of Tryz.func6 (by kernel_rfl) (by kernel_rfl) (f6n (k:=k) (ng:=ng) (lg:=lg) (s:=s) (e:=e) (g:=g) (mo:=mo) (da:=da) (x:=x) (y:=y) (z:=z) (p:=q) (a:=a) (b:=b) (c:=c) (d:=d') he hg hb hd ha hc hx hy hz hp) (inv_nil hi) (by simp [okL,idsL,idsA])
   simpa only [concL,conc] using this
 · obtain ⟨fuel,ht⟩:=ht
   obtain ⟨xs,n,_,_,_,hlen,hf⟩:=DataW.trod_struct Tryz.underlying62 ht
   have h1:=hf 1 _ rfl
   have hxl:xs.length=5:=hlen
   rw [List.getElem?_eq_getElem (by omega)] at h1
   change DataW.trod enc Tryz.prog w 0 (fun _=>true) true n 60 (List.take (Tryz.prog.cellsOf 60) _)=_ at h1
   rw [co60] at h1
   obtain ⟨R,hR,hin,hcell⟩:=runs_of_trod h1
   have:=calls_of Tryz.func6 (by kernel_rfl) (by kernel_rfl) (f6s (K:=.known cap) (R:=R) (k:=k) (ng:=ng) (lg:=lg) (s:=s) (e:=e) (g:=g) (mo:=mo) (da:=da) (x:=x) (y:=y) (z:=z) (p:=q) (a:=a) (b:=b) (c:=c) (d:=d') hin he hg hb hd ha hc hx hy hz hp) (inv_win hi ⟨cc,el,fz,hh⟩ hcell) (by simp [okL,idsL,idsA,needC])
   rw [hR] at this
   simpa only [concL,conc,capC,if_true,Nat.add_zero] using this
end Go.Ev
end
section
namespace Go.Proofs.YtafekjglclnegaaGreatDoor.fnFamiliesCheck
open Go.ChangeShapes Go.WideShapes Go.ChangeAt Go.RowKit
set_option maxRecDepth 100000
theorem post_of_below {H:Type} {enc:TypeId×Value→H} {P:Program} {f:Func} {s:ChangeSpec} {apart fresh handsOn again:Bool} {W W':World} {args:Array Value} {v:Value} {ds gs:List (DataW H)} {before pa pv:List MemPlace}
 (hW:DataW.Whole enc P f.params.toList s.vars apart W args.toList ds gs before)
 (hres:∀(b:Nat) (sp:Nat→Bool) (hd:Bool),DataW.TrodAll enc P W' b sp hd f.resultTypes.toList (v.resultList f.resultTypes.size) (s.fn H (ds++gs)).results [])
 (hargs:∀sp:Nat→Bool,(∀p∈before,sp p.block=true)→DataW.TrodAll enc P W' 0 sp true f.params.toList args.toList (s.fn H (ds++gs)).args pa)
 (hvars:∀sp:Nat→Bool,(∀p∈before,sp p.block=true)→DataW.TrodVars enc P W' sp s.vars (s.fn H (ds++gs)).vars pv)
 (hps:before=pa++pv) (hb:Below W.heap.size W W')
 (hok:∀(j:Nat) (t:TypeId) (r:Value),f.resultTypes[j]? = some t→(v.resultList f.resultTypes.size)[j]? = some r→Value.okWide P W' .any 0 t r) :
 s.post enc P f apart fresh handsOn again W args v W':=by
 have hold:∀p∈before,(fun b=>decide (b<W.heap.size)) p.block=true:=fun p hp=>by simpa using hW.lt p hp
 have hlt:∀p∈before,p.block<W.heap.size:=fun p hp=>hW.lt p hp
 refine ⟨ds,gs,before,[],pa,pv,hW,hres _ _ _,hargs _ hold,hvars _ hold,World.keptBut_mono (fun p hp=>⟨hp,?_⟩) (hb.frame (·∈before)),fun _=>?_⟩
 · rw [hps,List.mem_append] at hp
   exact Or.inr hp
 · obtain ⟨_,_,_,_,_,hz,hn⟩:=hW
   refine ⟨hok,_,_,([]++pa)++pv,⟨[]++pa,pv,trodAll_append (hargs _ (fun _ _=>rfl)) (hres _ _ true),hvars _ (fun _ _=>rfl),rfl,?_,?_⟩,?_⟩
   · intro b off hp
     have hp':MemPlace.cell b off∈before:=by rw [hps];simpa using hp
     have e:W'.frozen? ⟨b,off,none⟩=W.frozen? ⟨b,off,none⟩:=by
      unfold World.frozen?
      rw [hb.block b (hlt _ hp')]
     rw [e]
     exact hz b off hp'
   · intro ha
     have:=hn ha
     rw [hps] at this
     simpa using this
   · intro p hp _
     rw [hps]
     simpa using hp
theorem own:ownKnob Tryz.prog.godebug=none:=by kernel_rfl
theorem laidOut:laidOutB Tryz.prog=true:=by kernel_rfl
theorem rec62:Tryz.prog.readableRec 62=true:=by kernel_rfl
theorem row62:62 < Tryz.prog.types.size:=of_decide_eq_true (by kernel_rfl)
theorem laid_eq:Rows.familiesCheckRow.laid=Go.Ev.laidL:=rfl
theorem contract (H:Type) (enc:TypeId×Value→H) (W:World) (args:Array Value) (ds gs:List (DataW H)) (before:List MemPlace) (r:Reach) (b0:Nat)
 (hval:∀(j:Nat) (t:TypeId) (v:Value),Tryz.f6.params[j]? = some t→args[j]? = some v→Value.okWide Tryz.prog W r b0 t v)
 (hW:DataW.Whole enc Tryz.prog Tryz.f6.params.toList Rows.familiesCheckSpec.vars false W args.toList ds gs before) (hL:laidMetH Tryz.prog Rows.familiesCheckRow.laid W) :
 Calls Tryz.prog 6 args W fun e W'=>∃v,e=.returned v∧Rows.familiesCheckSpec.post enc Tryz.prog Tryz.f6 false true false false W args v W':=by
 have hW':=hW
 obtain ⟨p,q,hA0,hV,rfl,hfz,hnd⟩:=hW
 have hA:DataW.TrodAll enc Tryz.prog W 0 (fun _=>true) true Tryz.f6.params.toList args.toList ds p:=hA0
 rw [Tryz.params6] at hA hval
 obtain ⟨v,d,rfl,rfl,hd⟩:=trodAll_one hA
 obtain ⟨rfl,rfl⟩:=trodVars_none hV
 clear hA0
 refine (Go.Ev.calls6 (laid_eq▸hL) (hval 0 62 v rfl rfl) hd).mono fun e W' ⟨he,hb⟩=>?_
 subst he
 refine ⟨_,rfl,post_of_below (pa:=p) (pv:=[]) hW' (fun _ _ _=>trodAll_cons_mk (shut_bool Tryz.underlying4 _) trodAll_mk0) (fun sp hsp=>?_) (fun _ _=>rfl) rfl hb (ok_one (by kernel_rfl) rfl (okWide_bool_mk Tryz.underlying4 _))⟩
 rw [Tryz.params6]
 refine trodAll_mk1 (Go.WideElems.Trod_stays laidOut rec62 row62 hd (fun x hx=>?_) fun x hx=>hsp x (by simpa using hx))
 have hlt:x.block<W.heap.size:=hW'.lt x (by simpa using hx)
 cases x with
 | cell b off=>show W'.cell? _=W.cell? _;unfold World.cell?;rw [hb.block b hlt]
 | map b=>exact hb.block b hlt
theorem fact0:(fun (P:Program) (f:FuncId) (fn:Func) (s:ChangeSpec) (c:OpenClaim)=>(c.wf (OpenSpec.ofChange s):Bool)) Tryz.prog 6 Tryz.f6 Rows.familiesCheckSpec Rows.familiesCheckRow=true:=by kernel_rfl
theorem fact1:(fun (P:Program) (f:FuncId) (fn:Func) (s:ChangeSpec) (c:OpenClaim)=>(laidOutB P:Bool)) Tryz.prog 6 Tryz.f6 Rows.familiesCheckSpec Rows.familiesCheckRow=true:=by kernel_rfl
theorem fact2:(fun (P:Program) (f:FuncId) (fn:Func) (s:ChangeSpec) (c:OpenClaim)=>(mapsRowed P:Bool)) Tryz.prog 6 Tryz.f6 Rows.familiesCheckSpec Rows.familiesCheckRow=true:=by kernel_rfl
theorem fact3:(fun (P:Program) (f:FuncId) (fn:Func) (s:ChangeSpec) (c:OpenClaim)=>(fn.params.all (P.readableRec ·):Bool)) Tryz.prog 6 Tryz.f6 Rows.familiesCheckSpec Rows.familiesCheckRow=true:=by kernel_rfl
theorem fact4:(fun (P:Program) (f:FuncId) (fn:Func) (s:ChangeSpec) (c:OpenClaim)=>(namedTie P c.named s.vars:Bool)) Tryz.prog 6 Tryz.f6 Rows.familiesCheckSpec Rows.familiesCheckRow=true:=by kernel_rfl
theorem fact5:(fun (P:Program) (f:FuncId) (fn:Func) (s:ChangeSpec) (c:OpenClaim)=>((c.stops==[]):Bool)) Tryz.prog 6 Tryz.f6 Rows.familiesCheckSpec Rows.familiesCheckRow=true:=by kernel_rfl
theorem fact6:(fun (P:Program) (f:FuncId) (fn:Func) (s:ChangeSpec) (c:OpenClaim)=>((P.stops==[]):Bool)) Tryz.prog 6 Tryz.f6 Rows.familiesCheckSpec Rows.familiesCheckRow=true:=by kernel_rfl
theorem fact7:(fun (P:Program) (f:FuncId) (fn:Func) (s:ChangeSpec) (c:OpenClaim)=>((c.knobs==[]):Bool)) Tryz.prog 6 Tryz.f6 Rows.familiesCheckSpec Rows.familiesCheckRow=true:=by kernel_rfl
theorem fact8:(fun (P:Program) (f:FuncId) (fn:Func) (s:ChangeSpec) (c:OpenClaim)=>((P.stopKnobs==[]):Bool)) Tryz.prog 6 Tryz.f6 Rows.familiesCheckSpec Rows.familiesCheckRow=true:=by kernel_rfl
theorem fact9:(fun (P:Program) (f:FuncId) (fn:Func) (s:ChangeSpec) (c:OpenClaim)=>((c.inPlace==P.inPlace f):Bool)) Tryz.prog 6 Tryz.f6 Rows.familiesCheckSpec Rows.familiesCheckRow=true:=by kernel_rfl
theorem fact10:(fun (P:Program) (f:FuncId) (fn:Func) (s:ChangeSpec) (c:OpenClaim)=>((c.unfollowed==P.unfollowed f):Bool)) Tryz.prog 6 Tryz.f6 Rows.familiesCheckSpec Rows.familiesCheckRow=true:=by kernel_rfl
theorem fact11:(fun (P:Program) (f:FuncId) (fn:Func) (s:ChangeSpec) (c:OpenClaim)=>((c.recurses==P.recurses f):Bool)) Tryz.prog 6 Tryz.f6 Rows.familiesCheckSpec Rows.familiesCheckRow=true:=by kernel_rfl
theorem fact12:(fun (P:Program) (f:FuncId) (fn:Func) (s:ChangeSpec) (c:OpenClaim)=>((c.named==P.varsNamed f):Bool)) Tryz.prog 6 Tryz.f6 Rows.familiesCheckSpec Rows.familiesCheckRow=true:=by kernel_rfl
theorem fact13:(fun (P:Program) (f:FuncId) (fn:Func) (s:ChangeSpec) (c:OpenClaim)=>((c.maps==(fn.params.toList++s.plain.varTypes P).any (P.mapsRec ·)):Bool)) Tryz.prog 6 Tryz.f6 Rows.familiesCheckSpec Rows.familiesCheckRow=true:=by kernel_rfl
theorem fact14:(fun (P:Program) (f:FuncId) (fn:Func) (s:ChangeSpec) (c:OpenClaim)=>((c.ifaces==(fn.params.toList++s.plain.varTypes P).any (P.ifacesRec ·)):Bool)) Tryz.prog 6 Tryz.f6 Rows.familiesCheckSpec Rows.familiesCheckRow=true:=by kernel_rfl
theorem fact15:(fun (P:Program) (f:FuncId) (fn:Func) (s:ChangeSpec) (c:OpenClaim)=>((c.mapsOut==P.mapsAmong fn.resultTypes.toList):Bool)) Tryz.prog 6 Tryz.f6 Rows.familiesCheckSpec Rows.familiesCheckRow=true:=by kernel_rfl
theorem fact16:(fun (P:Program) (f:FuncId) (fn:Func) (s:ChangeSpec) (c:OpenClaim)=>((c.loops==(fn.params.toList++s.plain.varTypes P).any (P.loopsFrom ·)):Bool)) Tryz.prog 6 Tryz.f6 Rows.familiesCheckSpec Rows.familiesCheckRow=true:=by kernel_rfl
theorem fact17:(fun (P:Program) (f:FuncId) (fn:Func) (s:ChangeSpec) (c:OpenClaim)=>((c.wideKeys==(fn.params.toList++s.plain.varTypes P++fn.resultTypes.toList).any (P.wideKeysFrom ·)):Bool)) Tryz.prog 6 Tryz.f6 Rows.familiesCheckSpec Rows.familiesCheckRow=true:=by kernel_rfl
theorem fact18:(fun (P:Program) (f:FuncId) (fn:Func) (s:ChangeSpec) (c:OpenClaim)=>(s.vars.all (P.varReadable ·):Bool)) Tryz.prog 6 Tryz.f6 Rows.familiesCheckSpec Rows.familiesCheckRow=true:=by kernel_rfl
theorem fact19:(fun (P:Program) (f:FuncId) (fn:Func) (s:ChangeSpec) (c:OpenClaim)=>(fn.resultTypes.all (fun t=>P.readableRec t&&decide (t<P.types.size)):Bool)) Tryz.prog 6 Tryz.f6 Rows.familiesCheckSpec Rows.familiesCheckRow=true:=by kernel_rfl
theorem fact20:(fun (P:Program) (f:FuncId) (fn:Func) (s:ChangeSpec) (c:OpenClaim)=>((c.ifacesOut==fn.resultTypes.toList.any (P.ifacesRec ·)):Bool)) Tryz.prog 6 Tryz.f6 Rows.familiesCheckSpec Rows.familiesCheckRow=true:=by kernel_rfl
theorem fact21:(fun (P:Program) (f:FuncId) (fn:Func) (s:ChangeSpec) (c:OpenClaim)=>((c.loopsOut==fn.resultTypes.toList.any (P.loopsFrom ·)):Bool)) Tryz.prog 6 Tryz.f6 Rows.familiesCheckSpec Rows.familiesCheckRow=true:=by kernel_rfl
theorem fact22:(fun (P:Program) (f:FuncId) (fn:Func) (s:ChangeSpec) (c:OpenClaim)=>((c.plainKeys==P.plainKeys):Bool)) Tryz.prog 6 Tryz.f6 Rows.familiesCheckSpec Rows.familiesCheckRow=true:=by kernel_rfl
theorem fact23:(fun (P:Program) (f:FuncId) (fn:Func) (s:ChangeSpec) (c:OpenClaim)=>(c.shortTexts.isNone:Bool)) Tryz.prog 6 Tryz.f6 Rows.familiesCheckSpec Rows.familiesCheckRow=true:=by kernel_rfl
theorem fact24:(fun (P:Program) (f:FuncId) (fn:Func) (s:ChangeSpec) (c:OpenClaim)=>(P.stopsHeard:Bool)) Tryz.prog 6 Tryz.f6 Rows.familiesCheckSpec Rows.familiesCheckRow=true:=by kernel_rfl
theorem fact25:(fun (P:Program) (f:FuncId) (fn:Func) (s:ChangeSpec) (c:OpenClaim)=>(P.mayEnter:Bool)) Tryz.prog 6 Tryz.f6 Rows.familiesCheckSpec Rows.familiesCheckRow=true:=by kernel_rfl
theorem fact26:(fun (P:Program) (f:FuncId) (fn:Func) (s:ChangeSpec) (c:OpenClaim)=>((c.lifted==P.liftsFinal):Bool)) Tryz.prog 6 Tryz.f6 Rows.familiesCheckSpec Rows.familiesCheckRow=true:=by kernel_rfl
theorem fact27:(fun (P:Program) (f:FuncId) (fn:Func) (s:ChangeSpec) (c:OpenClaim)=>((P.make==some c.make):Bool)) Tryz.prog 6 Tryz.f6 Rows.familiesCheckSpec Rows.familiesCheckRow=true:=by kernel_rfl
theorem fact28:(fun (P:Program) (f:FuncId) (fn:Func) (s:ChangeSpec) (c:OpenClaim)=>((c.kinds==(if c.domain.isEmpty then [] else fn.params.toList.map fun t=>match P.underlying t with|some (.int k)=>some k|_=>none)):Bool)) Tryz.prog 6 Tryz.f6 Rows.familiesCheckSpec Rows.familiesCheckRow=true:=by kernel_rfl
theorem fact29:(fun (P:Program) (f:FuncId) (fn:Func) (s:ChangeSpec) (c:OpenClaim)=>((c.pinned==c.pinnedBy):Bool)) Tryz.prog 6 Tryz.f6 Rows.familiesCheckSpec Rows.familiesCheckRow=true:=by kernel_rfl
theorem fact30:(fun (P:Program) (f:FuncId) (fn:Func) (s:ChangeSpec) (c:OpenClaim)=>((c.veiled==(fn.params.toList++s.plain.varTypes P++fn.resultTypes.toList).any (P.veiledRec ·)):Bool)) Tryz.prog 6 Tryz.f6 Rows.familiesCheckSpec Rows.familiesCheckRow=true:=by kernel_rfl
theorem fact31:(fun (P:Program) (f:FuncId) (fn:Func) (s:ChangeSpec) (c:OpenClaim)=>(c.veiledFits P fn.params.toList (fn.params.toList++s.plain.varTypes P++fn.resultTypes.toList):Bool)) Tryz.prog 6 Tryz.f6 Rows.familiesCheckSpec Rows.familiesCheckRow=true:=by kernel_rfl
theorem facts:joinedFacts Tryz.prog 6 Tryz.f6 Rows.familiesCheckSpec Rows.familiesCheckRow=true:=by
 unfold joinedFacts
 simp only [Bool.and_eq_true]
 exact ⟨⟨⟨⟨⟨⟨⟨⟨⟨⟨⟨⟨⟨⟨⟨⟨⟨⟨⟨⟨⟨⟨⟨⟨⟨⟨⟨⟨⟨⟨⟨fact0,fact1⟩,fact2⟩,fact3⟩,fact4⟩,fact5⟩,fact6⟩,fact7⟩,fact8⟩,fact9⟩,fact10⟩,fact11⟩,fact12⟩,fact13⟩,fact14⟩,fact15⟩,fact16⟩,fact17⟩,fact18⟩,fact19⟩,fact20⟩,fact21⟩,fact22⟩,fact23⟩,fact24⟩,fact25⟩,fact26⟩,fact27⟩,fact28⟩,fact29⟩,fact30⟩,fact31⟩
def flat:Nat→DataW Unit→List Value
 | 0,_=>[]
 | d+1,.agg xs=>xs.flatMap (flat d)
 | _,.lit (.int k n)=>[.int k n]
 | _,_=>[]
def setC (h:Array Obj) (b:Nat) (c:List Value):Array Obj:=h.modify b fun
 | .cells _ t frozen=>.cells c.toArray t frozen
 | o=>o
def tabs (B:Nat):List (Nat×List Value):=[(9,[.int .u8 (0),.int .u8 (1),.int .u8 (28),.int .u8 (2),.int .u8 (29),.int .u8 (14),.int .u8 (24),.int .u8 (3),.int .u8 (30),.int .u8 (22),.int .u8 (20),.int .u8 (15),.int .u8 (25),.int .u8 (17),.int .u8 (4),.int .u8 (8),.int .u8 (31),.int .u8 (27),.int .u8 (13),.int .u8 (23),.int .u8 (21),.int .u8 (19),.int .u8 (16),.int .u8 (7),.int .u8 (26),.int .u8 (12),.int .u8 (18),.int .u8 (6),.int .u8 (11),.int .u8 (5),.int .u8 (10),.int .u8 (9)]),
 (10,[.int .u8 (0),.int .u8 (1),.int .u8 (56),.int .u8 (2),.int .u8 (57),.int .u8 (49),.int .u8 (28),.int .u8 (3),.int .u8 (61),.int .u8 (58),.int .u8 (42),.int .u8 (50),.int .u8 (38),.int .u8 (29),.int .u8 (17),.int .u8 (4),.int .u8 (62),.int .u8 (47),.int .u8 (59),.int .u8 (36),.int .u8 (45),.int .u8 (43),.int .u8 (51),.int .u8 (22),.int .u8 (53),.int .u8 (39),.int .u8 (33),.int .u8 (30),.int .u8 (24),.int .u8 (18),.int .u8 (12),.int .u8 (5),.int .u8 (63),.int .u8 (55),.int .u8 (48),.int .u8 (27),.int .u8 (60),.int .u8 (41),.int .u8 (37),.int .u8 (16),.int .u8 (46),.int .u8 (35),.int .u8 (44),.int .u8 (21),.int .u8 (52),.int .u8 (32),.int .u8 (23),.int .u8 (11),.int .u8 (54),.int .u8 (26),.int .u8 (40),.int .u8 (15),.int .u8 (34),.int .u8 (20),.int .u8 (31),.int .u8 (10),.int .u8 (25),.int .u8 (14),.int .u8 (19),.int .u8 (9),.int .u8 (13),.int .u8 (8),.int .u8 (7),.int .u8 (6)]),
 (8,[.int .u64 (1),.int .u64 (10),.int .u64 (100),.int .u64 (1000),.int .u64 (10000),.int .u64 (100000),.int .u64 (1000000),.int .u64 (10000000),.int .u64 (100000000),.int .u64 (1000000000),.int .u64 (10000000000),.int .u64 (100000000000),.int .u64 (1000000000000),.int .u64 (10000000000000),.int .u64 (100000000000000),.int .u64 (1000000000000000),.int .u64 (10000000000000000),.int .u64 (100000000000000000),.int .u64 (1000000000000000000),.int .u64 (10000000000000000000)]),
 (7,[.int .u8 (128),.int .u8 (191),.int .u8 (160),.int .u8 (191),.int .u8 (128),.int .u8 (159),.int .u8 (144),.int .u8 (191),.int .u8 (128),.int .u8 (143),.int .u8 (0),.int .u8 (0),.int .u8 (0),.int .u8 (0),.int .u8 (0),.int .u8 (0),.int .u8 (0),.int .u8 (0),.int .u8 (0),.int .u8 (0),.int .u8 (0),.int .u8 (0),.int .u8 (0),.int .u8 (0),.int .u8 (0),.int .u8 (0),.int .u8 (0),.int .u8 (0),.int .u8 (0),.int .u8 (0),.int .u8 (0),.int .u8 (0)]),
 (4,[.iface 367 (.pointer (some ⟨B+0,0,none⟩))]),
 (3,[.iface 367 (.pointer (some ⟨B+1,0,none⟩))]),
 (5,[.slice (some ⟨B+2,0,none⟩) 3 3]),
 (1,[.int .i64 (31),.int .i64 (28),.int .i64 (31),.int .i64 (30),.int .i64 (31),.int .i64 (30),.int .i64 (31),.int .i64 (31),.int .i64 (30),.int .i64 (31),.int .i64 (30),.int .i64 (31)]),
 (2,[.int .i64 (3),.int .i64 (3),.int .i64 (6),.int .i64 (3),.int .i64 (9),.int .i64 (3),.int .i64 (12),.int .i64 (3),.int .i64 (3),.int .i64 (3),.int .i64 (6),.int .i64 (3),.int .i64 (9),.int .i64 (3),.int .i64 (12),.int .i64 (3),.int .i64 (9),.int .i64 (3),.int .i64 (12),.int .i64 (3),.int .i64 (3),.int .i64 (3),.int .i64 (6),.int .i64 (3),.int .i64 (1),.int .i64 (3),.int .i64 (4),.int .i64 (3),.int .i64 (7),.int .i64 (3),.int .i64 (10),.int .i64 (3),.int .i64 (1),.int .i64 (4),.int .i64 (5),.int .i64 (4),.int .i64 (9),.int .i64 (4),.int .i64 (1),.int .i64 (6),.int .i64 (7),.int .i64 (6)]),
 (6,flat 9 Go.Pinned.utf8First)]
def more (B:Nat):List Obj:=[.cells #[.string ⟨#[118,97,108,117,101,32,111,117,116,32,111,102,32,114,97,110,103,101]⟩] 369 (0,0),.cells #[.string ⟨#[105,110,118,97,108,105,100,32,115,121,110,116,97,120]⟩] 369 (0,0),.cells #[.int .i64 (4),.int .i64 (1),.int .i64 (100),.int .i64 (-1),.int .i64 (400),.int .i64 (1)] 359 (0,0)]
noncomputable def laidHeap (h:Array Obj):Array Obj:=((tabs h.size).foldl (fun h p=>setC h p.1 p.2) h)++(more h.size).toArray
noncomputable def laidWorld (os:Os):World:={ World.holding Tryz.prog os ⟨#[],#[],[]⟩ with heap:=laidHeap (World.holding Tryz.prog os ⟨#[],#[],[]⟩).heap }
def zero:Value:=.agg #[.int .u8 0,.slice none 0 0,.bool false,.bool false,.string ⟨#[]⟩,.int .i64 0,.int .i64 0,.string ⟨#[]⟩,.string ⟨#[]⟩,.int .u8 0,.int .u8 0,.int .u8 0,.int .u8 0,.int .i8 0,.int .i64 0,.int .i8 0,.int .i64 0]
theorem laid_met (os:Os):laidMet Tryz.prog Rows.familiesCheckRow.laid ((laidWorld os).forCall (fun _ _=>0) ⟨#[],#[zero],[]⟩).memory:=
 laidMet_of_run' 8 (by kernel_rfl) (by kernel_rfl)
theorem reads (os:Os) {H:Type} (enc:TypeId×Value→H):∃x,DataW.whole enc Tryz.prog ((laidWorld os).forCall (fun _ _=>0) ⟨#[],#[zero],[]⟩).memory Tryz.f6.params.toList Rows.familiesCheckSpec.vars false (#[zero]:Array Value).toList 8=some x:=
 Option.isSome_iff_exists.1 (by kernel_rfl)
theorem shaped (os:Os):((laidWorld os).forCall (fun _ _=>0) ⟨#[],#[zero],[]⟩).variablesRefB Tryz.checked.prog=true:=by kernel_rfl
theorem restB (os:Os):(((laidWorld os).forCall (fun _ _=>0) ⟨#[],#[zero],[]⟩).heap.toList.drop Tryz.checked.prog.globals.size).take ((begin Tryz.checked.prog (fun _ _=>0) default).world.heap.size - Tryz.checked.prog.globals.size) =
      (begin Tryz.checked.prog (fun _ _=>0) default).world.heap.toList.drop Tryz.checked.prog.globals.size:=by kernel_rfl
theorem argsB (os:Os):Input.okWideB Tryz.checked.prog ((laidWorld os).forCall (fun _ _=>0) ⟨#[],#[zero],[]⟩) 6 ⟨#[],#[zero],[]⟩=true:=by kernel_rfl
theorem lifted (os:Os) (started:os.Started) (H:Type) (enc:TypeId×Value→H) (F:Stop.Interp) :
 ReturnsInHanded {} Tryz.checked os 6 .any ((OpenSpec.ofChange Rows.familiesCheckSpec).preRow enc Tryz.prog Tryz.f6 Rows.familiesCheckRow.domain false Rows.familiesCheckRow.laid) (((OpenSpec.ofChange Rows.familiesCheckSpec).at F).post enc Tryz.prog Tryz.f6 false true false false):=by
 obtain ⟨x,hx⟩:=reads os enc
 refine returnsInHanded_of_row (C:=Tryz.checked) (s:=OpenSpec.ofChange Rows.familiesCheckSpec) own started (by kernel_rfl) Tryz.func6
  (witness_row_atRef (enc:=enc) (C:=Tryz.checked) false (laidWorld os) #[zero] rfl (shaped os) (restB os) (argsB os)
    (OpenSpec.preRow_of_cond 8 hx (by kernel_rfl) (fun k hk=>by cases hk) (by kernel_rfl) (laid_met os))) ?_
 intro W base args ds gs before hval hW _ _ _ hL _ _
 exact contract H enc W args ds gs before .any base hval hW hL
theorem said:Rows.FamiliesCheckSaid:=
 OpenClaim.holds_of_cond 6 Tryz.f6 rfl rfl rfl rfl rfl rfl rfl ⟨rfl,rfl,rfl,rfl,rfl⟩ rfl rfl rfl rfl rfl (by kernel_rfl) Tryz.func6 facts
  (of_decide_eq_true (by kernel_rfl)) (by unfold Func.isWrapper;first|(rw [if_pos (by decide +kernel)];kernel_rfl)|(rw [if_neg (by decide +kernel)];exact ⟨rfl,rfl⟩))
  (fun os started H enc _ F=>by rw [OpenClaim.pre_eq_preRow];exact lifted os started H enc F)
theorem plain (f:FuncId) (fn:Func) (hf:Tryz.pinned.checked.prog.funcNamed "circa/circalaw24.FamiliesCheck" = some f) (hfn:Tryz.pinned.checked.prog.funcs[f]? = some fn) :
 true=Tryz.pinned.checked.prog.looks []∧∀(j:Nat) t,fn.params[j]? = some t→Tryz.pinned.checked.prog.wantsStandIn t=false:=by
 obtain rfl:f=6:=Option.some.inj ((show Tryz.prog.funcNamed "circa/circalaw24.FamiliesCheck" = some 6 by kernel_rfl).symm.trans hf) |>.symm
 obtain rfl:fn=Tryz.f6:=(Option.some.inj (Tryz.func6.symm.trans hfn)).symm
 refine ⟨by kernel_rfl,fun j t ht=>?_⟩
 rw [Tryz.params6] at ht
 have e:t=62:=by
  cases j with
  | zero=>exact (Option.some.inj ht).symm
  | succ j=>cases j<;>cases ht
 rw [e]
 exact (show Tryz.prog.wantsStandIn 62=false by kernel_rfl)
theorem card:Rows.FamiliesCheckCardSaid:=
 Claim7.holds_tied_plain_at .later [] _ _ _ _ said (fun _ h=>by cases h) (by kernel_rfl) (fun _ h=>by cases h) familiesCheck_row_tie rfl ⟨rfl,rfl⟩ (by kernel_rfl) rfl plain (by kernel_rfl)
#print axioms card
end Go.Proofs.YtafekjglclnegaaGreatDoor.fnFamiliesCheck
end
