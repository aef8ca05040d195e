import Derived.OpenShut
import Derived.ChangeSame
import Derived.Test.YtafekjglclnegaaGreatDoorRows
import Derived.Test.YtafekjglclnegaaGreatDoorP37
set_option linter.all false
section
set_option maxRecDepth 100000
set_option maxHeartbeats 1000000
namespace Go.Ev
open Go Go.Proofs
section
variable {P:Program} {w:World} {r:Reach} {b0:Nat} {t:TypeId} {v:Value}
theorem cell_bool (ht:P.underlying t=some .bool) (h:Cell.okWide P w r b0 t v):∃b,v=.bool b:=by
 unfold Cell.okWide Cell.ok at h
 rw [ht] at h
 cases v<;>first|exact ⟨_,rfl⟩|exact h.elim
theorem cell_str (ht:P.underlying t=some .string) (h:Cell.okWide P w r b0 t v):∃s,v=.string s:=by
 unfold Cell.okWide Cell.ok at h
 rw [ht] at h
 cases v<;>first|exact ⟨_,rfl⟩|exact h.elim
theorem cell_int {k:IntKind} (ht:P.underlying t=some (.int k)) (h:Cell.okWide P w r b0 t v):∃n,v=.int k n/\k.min≤n/\n≤k.max:=by
 unfold Cell.okWide Cell.ok at h
 rw [ht] at h
 cases v<;>first|exact h.elim|skip
 obtain ⟨rfl,h1⟩:=h
 exact ⟨_,rfl,h1⟩
end
theorem g0_nrw:∀id,id<14->rwO (cfg.root.at id)=false:=by decide
theorem inv_nil {w:World} {m:Nat->Loc} (h:Inv cfg (fun id=>id<14) m C0 ⟨0,[],[]⟩ w):Inv cfg (fun id=>id<14) m (Cw cfg []) ⟨0,[],[]⟩ w:=by
 have e1:∀id,id<14->get (Cw cfg []) ⟨0,[],[]⟩ id=cfg.root.at id:=fun id hid=>(get_cw (ws:=[]) (o1:=⟨0,[],[]⟩) rfl).1 hid
 have e0:∀id,id<14->get C0 ⟨0,[],[]⟩ id=cfg.root.at id:=fun id hid=>(h.root id hid).2
 exact ⟨fun id hid=>(by rw [e1 id hid,←e0 id hid];exact h.obj id hid),fun i j hi hj _ _ hr=>(by rw [e1 j hj,g0_nrw j hj] at hr;cases hr),
  fun id hid=>hid,h.glob,fun id hid=>⟨hid,e1 id hid⟩,fun id hid=>(by cases hid),Nat.le_refl _,rfl⟩
end Go.Ev
end
section
namespace Go.Ev
open Go Go.Proofs Go.Proofs.YtafekjglclnegaaGreatDoor
set_option maxRecDepth 100000
theorem LaidVars_get {P:Program} {w:World}:∀{l:List (String×DataW Unit)} {ps:List MemPlace},DataW.LaidVars P w l ps->∀(i:Nat) (n:String) (d:DataW Unit),l[i]? = some (n,d)->
 ∃g t cs fuel p,P.globalNamed n=some g/\(P.globals[g]?).map (·.type)=some t/\w.var? P n=some cs/\DataW.trod (fun _=>()) P w 0 (fun _=>true) false fuel t cs.toList=some (d,p)/\∀x∈MemPlace.row ⟨g,0,none⟩ cs.size,x∈ps
 | [],ps,_,i,n,d,hd=>by simp at hd
 | (n0,d0)::r,ps,h,i,n,d,hd=>by
   obtain ⟨g,t,cs,fuel,p,q,h1,h2,h3,h4,h5,rfl⟩:=h
   cases i with
   | zero=>
     simp only [List.getElem?_cons_zero,Option.some.injEq,Prod.mk.injEq] at hd
     obtain ⟨rfl,rfl⟩:=hd
     exact ⟨g,t,cs,fuel,p,h1,h2,h3,h4,fun x hx=>by simp [hx]⟩
   | succ i=>
     obtain ⟨g',t',cs',fuel',p',k1,k2,k3,k4,k5⟩:=LaidVars_get h5 i n d (by simpa using hd)
     exact ⟨g',t',cs',fuel',p',k1,k2,k3,k4,fun x hx=>by simp [k5 x hx]⟩
def pairD (x y:Int):DataW Unit:=.agg [.lit (.int .i64 x),.lit (.int .i64 y)]
def pairsOf:List Int->List (DataW Unit)
 | x::y::r=>pairD x y::pairsOf r
 | _=>[]
theorem pairD_inj {x y a b:Int} (h:pairD x y=.agg [.lit (.int .i64 a),.lit (.int .i64 b)]):x=a/\y=b:=by
 simpa [pairD] using h
theorem pairsOf_get:∀{l:List Int},l.length%2=0->∀(i:Nat) (v:Int),l[i]? = some v->∃x y,(pairsOf l)[i/2]? = some (pairD x y)/\(i%2=0->v=x)/\(i%2=1->v=y)
 | [],_,i,v,h=>by simp at h
 | [x],h,i,v,_=>by simp at h
 | x::y::r,h,0,v,hv=>⟨x,y,rfl,fun _=>by simpa using hv.symm,fun h=>by simp at h⟩
 | x::y::r,h,1,v,hv=>⟨x,y,rfl,fun h=>by simp at h,fun _=>by simpa using hv.symm⟩
 | x::y::r,h,i+2,v,hv=>by
   obtain ⟨a,b,h1,h2,h3⟩:=pairsOf_get (l:=r) (by simp at h;omega) i v (by simpa using hv)
   refine ⟨a,b,?_,fun e=>h2 (by omega),fun e=>h3 (by omega)⟩
   rw [show (i+2)/2=i/2+1 by omega,pairsOf,List.getElem?_cons_succ]
   exact h1
noncomputable def laidL:List (String×DataW Unit):=Rows.extentsKnownRow.laid
theorem laid_met {w:World} (h:laidMetH Tryz.prog laidL w):laidMet Tryz.prog laidL w:=by
 unfold laidMetH at h
 have e:(laidL.filter fun x=>x.2.handleName?.isSome)=[]:=by kernel_rfl
 rw [e] at h
 exact h
theorem lens_of {w:World} (h:laidMet Tryz.prog laidL w):∀i v,ln0[i]? = some v->w.cell? ⟨1,i,none⟩=some (.int .i64 v):=by
 obtain ⟨ps,hv,_,_⟩:=h
 obtain ⟨g,t,cs,fuel,p,h1,h2,h3,h4,_⟩:=LaidVars_get hv 7 "circa/months.lengths" Rows.laid_circa_months_lengths rfl
 obtain rfl:1=g:=Option.some.inj ((show Tryz.prog.globalNamed "circa/months.lengths" = some 1 by kernel_rfl).symm.trans h1)
 obtain rfl:340=t:=Option.some.inj ((show (Tryz.prog.globals[1]?).map (·.type)=some 340 by kernel_rfl).symm.trans h2)
 have hc:=Lib.cells_of_tab (zs:=ln0) (k:=.i64) Tryz.underlying340 Tryz.underlying3 (by kernel_rfl) (by kernel_rfl) h4
 intro i v hi
 rw [World.var?_cell (by kernel_rfl:Tryz.prog.globalNamed "circa/months.lengths" = some 1) h3 i,←Array.getElem?_toList,hc,List.getElem?_map,hi]
 rfl
theorem spans_of {w:World} (h:laidMet Tryz.prog laidL w):∀i v,sp0[i]? = some v->w.cell? ⟨2,i,none⟩=some (.int .i64 v):=by
 obtain ⟨ps,hv,_,_⟩:=h
 obtain ⟨g,t,cs,fuel,p,h1,h2,h3,h4,_⟩:=LaidVars_get hv 8 "circa/seasons.spans" Rows.laid_circa_seasons_spans rfl
 obtain rfl:2=g:=Option.some.inj ((show Tryz.prog.globalNamed "circa/seasons.spans" = some 2 by kernel_rfl).symm.trans h1)
 obtain rfl:343=t:=Option.some.inj ((show (Tryz.prog.globals[2]?).map (·.type)=some 343 by kernel_rfl).symm.trans h2)
 have h4:DataW.trod (fun _=>()) Tryz.prog w 0 (fun _=>true) false fuel 343 cs.toList=some (.agg (pairsOf sp0),p):=h4
 have hc:=arr_of_trod Tryz.underlying343 Tryz.underlying342 rfl rfl Tryz.underlying3 Tryz.underlying3 rfl rfl (by kernel_rfl) (by kernel_rfl) (by kernel_rfl) h4
 intro i v hi
 rw [World.var?_cell (by kernel_rfl:Tryz.prog.globalNamed "circa/seasons.spans" = some 2) h3 i,←Array.getElem?_toList]
 obtain ⟨x,y,hd,hx,hy⟩:=pairsOf_get rfl i v hi
 obtain ⟨a,b,he,ha,hb⟩:=hc _ _ hd
 obtain ⟨rfl,rfl⟩:=pairD_inj he
 rcases Nat.mod_two_eq_zero_or_one i with h2|h2
 · rw [hx h2,←ha,show 2*(i/2)=i by omega]
 · rw [hy h2,←hb,show 2*(i/2)+1=i by omega]
theorem steps_of {w:World} (h:laidMet Tryz.prog laidL w):∃b o,w.cell? ⟨5,0,none⟩=some (.slice (some ⟨b,o,none⟩) 3 3)/\∀i v,st0[i]? = some v->w.cell? ⟨b,o+i,none⟩=some (.int .i64 v):=by
 obtain ⟨ps,hv,_,_⟩:=h
 obtain ⟨g,t,cs,fuel,p,h1,h2,h3,h4,_⟩:=LaidVars_get hv 6 "circa/years.steps" Rows.laid_circa_years_steps rfl
 obtain rfl:5=g:=Option.some.inj ((show Tryz.prog.globalNamed "circa/years.steps" = some 5 by kernel_rfl).symm.trans h1)
 obtain rfl:358=t:=Option.some.inj ((show (Tryz.prog.globals[5]?).map (·.type)=some 358 by kernel_rfl).symm.trans h2)
 have h4:DataW.trod (fun _=>()) Tryz.prog w 0 (fun _=>true) false fuel 358 cs.toList=some (.slice (pairsOf st0) [],p):=h4
 obtain ⟨b,o,hcs,hc⟩:=slice_of_trod Tryz.underlying358 Tryz.underlying359 rfl rfl Tryz.underlying2 Tryz.underlying2 rfl rfl (by kernel_rfl) (by kernel_rfl) (by kernel_rfl) (by decide) h4
 refine ⟨b,o,?_,fun i v hi=>?_⟩
 · rw [World.var?_cell (by kernel_rfl:Tryz.prog.globalNamed "circa/years.steps" = some 5) h3 0,←Array.getElem?_toList,hcs];rfl
 · obtain ⟨x,y,hd,hx,hy⟩:=pairsOf_get rfl i v hi
   obtain ⟨a,b',he,ha,hb⟩:=hc _ _ hd
   obtain ⟨rfl,rfl⟩:=pairD_inj he
   rcases Nat.mod_two_eq_zero_or_one i with h2|h2
   · rw [hx h2,←ha,show 2*(i/2)=i by omega]
   · rw [hy h2,←hb,show 2*(i/2)+1=i by omega]
theorem err_of {w:World} (h:laidMet Tryz.prog laidL w) {i g:Nat} {n:String} {text:List UInt8} (hi:laidL[i]? = some (n,.iface "*errors.errorString" (.ptr (.agg [.lit (.string text)])))) (hg:Tryz.prog.globalNamed n=some g) (ht:(Tryz.prog.globals[g]?).map (·.type)=some 251) :
 (∃b o,w.cell? ⟨g,0,none⟩=some (.iface 367 (.pointer (some ⟨b,o,none⟩))))/\∀c e fz,w.heap[g]? = some (.cells c e fz)->c.size=1:=by
 obtain ⟨ps,hv,_,hps⟩:=h
 obtain ⟨g',t,cs,fuel,p,h1,h2,h3,h4,h5⟩:=LaidVars_get hv i n _ hi
 obtain rfl:g=g':=Option.some.inj (hg.symm.trans h1)
 obtain rfl:251=t:=Option.some.inj (ht.symm.trans h2)
 obtain ⟨a,s,hcs,hcell,_⟩:=errorString_of_trod Tryz.underlying251 (fun u hu=>typeName_ptr_named (nm := "errors.errorString") (by kernel_rfl) (by kernel_rfl) (by decide) u hu) Tryz.underlying367 Tryz.underlying369 rfl rfl Tryz.underlying9 (by kernel_rfl) (by kernel_rfl) h4 (fun u v e=>by
  have hc0:w.cell? ⟨g,0,none⟩=some (.iface u v):=by
   rw [World.var?_cell hg h3 0,←Array.getElem?_toList,e];rfl
  have hsz:cs.size=1:=by
   have:=congrArg List.length e
   simpa using this
  exact (hps g 0 (h5 _ (by rw [hsz];simp [MemPlace.row]))).2 u v hc0)
 obtain ⟨b,o,sp⟩:=a
 have hsp:sp=none:=by
  unfold World.cell? at hcell
  cases sp with
  | none=>rfl
  | some v=>split at hcell<;>simp at hcell
 subst hsp
 refine ⟨⟨b,o,by rw [World.var?_cell hg h3 0,←Array.getElem?_toList,hcs];rfl⟩,fun c e fz hb=>?_⟩
 have h3':=h3
 unfold World.var? at h3'
 rw [hg] at h3'
 simp only [Option.bind_some,hb,Option.some.injEq] at h3'
 have:=congrArg List.length hcs
 rw [h3']
 simpa using this
theorem rootW_of {w:World} (h:laidMetH Tryz.prog laidL w):RootW w:=by
 have h:=laid_met h
 have hS:=err_of h (i:=5) (g:=3) (n := "strconv.ErrSyntax") rfl (by kernel_rfl) (by kernel_rfl)
 have hR:=err_of h (i:=4) (g:=4) (n := "strconv.ErrRange") rfl (by kernel_rfl) (by kernel_rfl)
 exact ⟨steps_of h,lens_of h,spans_of h,hS.1,hR.1,hS.2,hR.2⟩
end Go.Ev
end
section
set_option maxRecDepth 100000
set_option maxHeartbeats 1000000
namespace Go.Ev
open Go Go.Proofs
theorem own_none {ws:List AObj} {i:Nat} (h:i<14+ws.length):(own? (Cw cfg ws) ⟨0,[],[]⟩ i).isSome=true->False:=by
 intro hs
 unfold own? at hs
 have:(Cw cfg ws).lo=14+ws.length:=rfl
 rw [bleF (by omega),cond_false] at hs
 cases hs
theorem calls_of {f:FuncId} {fn:Func} {av:List AV} {ws:List AObj} {m:Nat->Loc} {w:World} (hfn:Tryz.prog.funcs[f]? = some fn) (h4:(fn.name == "runtime.NumGoroutine")=false) (h5:fn.body.isNone=false) (hf:FactW Tryz.prog cfg f av ws (.bool true) []) (hi:Inv cfg (fun id=>id<14+ws.length) m (Cw cfg ws) ⟨0,[],[]⟩ w) (ho:okL (fun id=>id<14+ws.length) m av) :
 Calls Tryz.prog f (concL m av).toArray w fun e w'=>e=.returned (.bool true)/\RowKit.Below w.heap.size w w':=by
 rcases hf _ m w hi ho with ⟨_,h⟩|⟨v,w',hv,_⟩
 · refine h.mono ?_
   rintro e w' ⟨v,rfl,D',m',rfl,_,he⟩
   exact ⟨rfl,he.os,he.tape,he.output,he.size,fun k hk=>he.frame k hk fun i hi ho=>(own_none hi ho).elim⟩
 · exfalso
   have h6:¬fn.name = "runtime.NumGoroutine" := by simpa using h4
   have h7:¬fn.body=none:=fun e=>by rw [e] at h5;cases h5
   simp [callFunc,hfn,h6,h7] at hv
end Go.Ev
end
section
set_option maxRecDepth 100000
set_option maxHeartbeats 4000000
namespace Go.Ev
open Go Go.Proofs
def v107a:LoopV:=fun vs o=>match vs,o with
 | [.ptr 14 0,.int .i64 z,.int .i64 n,.int .i64 i],⟨1,[.cells [.bool ng,.bool lg,.str s,.int .i64 e,.int .i64 g] true none],[]⟩=>some (asrts [intEq z 0,intEq n 0,intEq i 0,Nat.ble s.length 1000,digL s,magOk s 0] (.ret (.exit 0,[.ptr 14 0,.int .i64 0,.int .i64 (Int.ofNat (numL s)),.int .i64 (Int.ofNat s.length)],o)))
 | _,_=>none
def v107b:LoopV:=fun vs o=>match vs,o with
 | [.ptr 14 0,.int .i64 z,.int .i64 n,.int .i64 i],⟨1,[.cells [.bool ng,.bool lg,.str s,.int .i64 e,.int .i64 g] true none],[]⟩=>some (asrts [intEq z 0,intEq n (Int.ofNat (numL s)),intEq i 0,intLe 0 e,intLe e 1000,magOk s e.toNat] (.ret (.exit 2,[.ptr 14 0,.int .i64 0,.int .i64 (Int.ofNat (magV s e.toNat)),.int .i64 e],o)))
 | _,_=>none
def L107:Loops:=addL (addL noL 0 (loopE 35 [1,2,3,4] v107a)) 2 (loopE 35 [1,2,3,5] v107b)
def s107:Sum:=fun args=>match args with
 | [.agg [.bool ng,.bool lg,.str s,.int .i64 e,.int .i64 g]]=>some (asrts [Nat.ble s.length 1000,digL s,intLe 0 e,intLe e 1000,magOk s e.toNat] (.ret (.int .i64 (valR ng s e))))
 | _=>none
def dg2 (a b:UInt8):Int:=10*(Int.ofNat a.toNat-48)+(Int.ofNat b.toNat-48)
def nuR (l:List UInt8):Int:=match l with
 | [a,b]=>dg2 a b
 | _=>0
def okNu (l:List UInt8):Bool:=match l with
 | []=>true
 | [a,b]=>dB a&&dB b
 | _=>false
def s108:Sum:=fun args=>match args with
 | [.str l]=>some (asrts [okNu l] (.ret (.int .i64 (nuR l))))
 | _=>none
theorem r107a (ng lg:Bool) (s:List UInt8) (e g n:Int) (i:Nat) (J:Nat->Value) {Q:VQ->Prop}:askA Q (rT nilS noL [] 107 0 35 [1,2,3,4] [.ptr 14 0,.int .i64 0,.int .i64 n,.int .i64 (Int.ofNat i)] J ⟨1,[.cells [.bool ng,.bool lg,.str s,.int .i64 e,.int .i64 g] true none],[]⟩) (dtN 1121241212441212412244200240)=((fun (u3 u4:AV) (u0 u1 u2:Int)=>(fun (u8:AV) (u5:Bool) (u6 u9:Int) (u7:Prop)=>(fun (ua ub uc ud:Int)=>(u5=true->inR .i64 u1=true/\natLt i (List.length s)=true/\(inR .i64 u2=true->(inR .i64 u6=true->inR .i64 ua=true/\u7/\Q (AX.normal,([u3,u4,AV.int .i64 ua,u8],{ n:=1,os:=[AObj.cells [AV.bool ng,AV.bool lg,AV.str s,AV.int .i64 e,AV.int .i64 g] true Option.none],le:=[] })))/\(inR .i64 u6=false->(inR .i64 ub=true->u7/\Q (AX.normal,([u3,u4,AV.int .i64 ub,u8],{ n:=1,os:=[AObj.cells [AV.bool ng,AV.bool lg,AV.str s,AV.int .i64 e,AV.int .i64 g] true Option.none],le:=[] })))/\(inR .i64 ub=false->u7/\Q (AX.normal,([u3,u4,AV.int .i64 (IntKind.wrap .i64 ub),u8],{ n:=1,os:=[AObj.cells [AV.bool ng,AV.bool lg,AV.str s,AV.int .i64 e,AV.int .i64 g] true Option.none],le:=[] })))))/\(inR .i64 u2=false->(inR .i64 u9=true->(inR .i64 uc=true->u7/\Q (AX.normal,([u3,u4,AV.int .i64 uc,u8],{ n:=1,os:=[AObj.cells [AV.bool ng,AV.bool lg,AV.str s,AV.int .i64 e,AV.int .i64 g] true Option.none],le:=[] })))/\(inR .i64 uc=false->u7/\Q (AX.normal,([u3,u4,AV.int .i64 (IntKind.wrap .i64 uc),u8],{ n:=1,os:=[AObj.cells [AV.bool ng,AV.bool lg,AV.str s,AV.int .i64 e,AV.int .i64 g] true Option.none],le:=[] }))))/\(inR .i64 u9=false->(inR .i64 ud=true->u7/\Q (AX.normal,([u3,u4,AV.int .i64 ud,u8],{ n:=1,os:=[AObj.cells [AV.bool ng,AV.bool lg,AV.str s,AV.int .i64 e,AV.int .i64 g] true Option.none],le:=[] })))/\(inR .i64 ud=false->u7/\Q (AX.normal,([u3,u4,AV.int .i64 (IntKind.wrap .i64 ud),u8],{ n:=1,os:=[AObj.cells [AV.bool ng,AV.bool lg,AV.str s,AV.int .i64 e,AV.int .i64 g] true Option.none],le:=[] }))))))/\(u5=false->Q (AX.exit 0,([u3,u4,AV.int .i64 n,AV.int .i64 u0],{ n:=1,os:=[AObj.cells [AV.bool ng,AV.bool lg,AV.str s,AV.int .i64 e,AV.int .i64 g] true Option.none],le:=[] })))) (Int.sub u6 48) (Int.sub (IntKind.wrap .i64 u6) 48) (Int.sub u9 48) (Int.sub (IntKind.wrap .i64 u9) 48)) (AV.int .i64 (Int.add u0 1)) (not (intLe (Int.ofNat (List.length s)) u0)) (Int.add u1 u2) (Int.add u1 (IntKind.wrap .i64 u2)) (inR .i64 (Int.add u0 1)=true)) (AV.ptr 14 0) (AV.int .i64 0) (Int.ofNat i) (Int.mul 10 n) (Int.ofNat (UInt8.toNat (List.getD s i (UInt8.ofNat 0))))):=by kernel_rfl
theorem r107b (ng lg:Bool) (s:List UInt8) (e g n:Int) (i:Nat) (J:Nat->Value) {Q:VQ->Prop}:askA Q (rT nilS noL [] 107 1 35 [1,2,3,5] [.ptr 14 0,.int .i64 0,.int .i64 n,.int .i64 (Int.ofNat i)] J ⟨1,[.cells [.bool ng,.bool lg,.str s,.int .i64 e,.int .i64 g] true none],[]⟩) (dtN 112240)=((fun (u0:Int)=>(fun (u1:Bool)=>(u1=true->inR .i64 (Int.mul 10 n)=true/\inR .i64 (Int.add u0 1)=true/\Q (AX.normal,([AV.ptr 14 0,AV.int .i64 0,AV.int .i64 (Int.mul 10 n),AV.int .i64 (Int.add u0 1)],{ n:=1,os:=[AObj.cells [AV.bool ng,AV.bool lg,AV.str s,AV.int .i64 e,AV.int .i64 g] true Option.none],le:=[] })))/\(u1=false->Q (AX.exit 2,([AV.ptr 14 0,AV.int .i64 0,AV.int .i64 n,AV.int .i64 u0],{ n:=1,os:=[AObj.cells [AV.bool ng,AV.bool lg,AV.str s,AV.int .i64 e,AV.int .i64 g] true Option.none],le:=[] })))) (not (intLe e u0))) (Int.ofNat i)):=by kernel_rfl
theorem b107 (ng lg:Bool) (s:List UInt8) (e g:Int) {Q:AV->Prop}:askA Q (pT nilS L107 107 [.agg [.bool ng,.bool lg,.str s,.int .i64 e,.int .i64 g]]) (dtN 1112407020422000)=((fun (u0 u1:Int)=>Nat.ble (List.length s) 1000=true/\digL s=true/\(magOk s 0=true->(∀J1:Nat->Value,intEq u0 u0=true/\intLe 0 e=true/\intLe e 1000=true/\magOk s (Int.toNat e)=true/\(∀J2:Nat->Value,(ng=true->inR .i64 (Int.sub 0 u1)=true/\Q (AV.int .i64 (Int.sub 0 u1)))/\(ng=false->Q (AV.int .i64 u1)))))/\(magOk s 0=false->False)) (Int.ofNat (numL s)) (Int.ofNat (magV s (Int.toNat e)))):=by kernel_rfl
theorem b108a {Q:AV->Prop}:askA Q (pT nilS noL 108 [.str []]) (.e .z)=(Q (AV.int .i64 0)):=by kernel_rfl
theorem b108b (a b:UInt8) {Q:AV->Prop}:askA Q (pT nilS noL 108 [.str [a,b]]) (dtN 10070020075)=((fun (u0 u1:Int)=>(fun (u2:Int)=>(fun (u3:Int)=>(fun (u4:Int)=>(fun (u5:Int)=>inR .i64 u0=true/\inR .i64 (Int.add 0 u0)=true/\inR .i64 u2=true/\inR .i64 u3=true/\inR .i64 u1=true/\inR .i64 u4=true/\inR .i64 u5=true/\Q (AV.int .i64 u5)) (Int.sub u4 48)) (Int.add u3 u1)) (Int.mul 10 u2)) (Int.sub (Int.add 0 u0) 48)) (Int.ofNat (UInt8.toNat a)) (Int.ofNat (UInt8.toNat b))):=by kernel_rfl
theorem body107:bodyOf tab 107=some (fnOf 107,codeOf 107):=by kernel_rfl
theorem body108:bodyOf tab 108=some (fnOf 108,codeOf 108):=by kernel_rfl
theorem loops107:(loopsOf (codeOf 107)).map (·.1)=[0,2]:=by kernel_rfl
theorem lv107a:LoopVOK Tryz.prog (cfgS cfg nilS) (Cw cfg []) (lb 107 0) 35 [1,2,3,4] v107a:=by
 intro vs o t Q hv hq J
 unfold v107a at hv
 split at hv
 · rename_i z n i ng lg s e g
   cases hv
   obtain ⟨h1,hq'⟩:=asrts_wp hq;clear hq;have hq:=hq';clear hq'
   obtain ⟨h2,hq'⟩:=asrts_wp hq;clear hq;have hq:=hq';clear hq'
   obtain ⟨h3,hq'⟩:=asrts_wp hq;clear hq;have hq:=hq';clear hq'
   obtain ⟨h4,hq'⟩:=asrts_wp hq;clear hq;have hq:=hq';clear hq'
   obtain ⟨h5,hq'⟩:=asrts_wp hq;clear hq;have hq:=hq';clear hq'
   obtain ⟨h6,hq'⟩:=asrts_wp hq;clear hq;have hq:=hq';clear hq'
   rw [q_eq_t] at h1 h2 h3
   rw [q_ble_t] at h4
   subst h1 h2 h3
   have hm:magV s 0≤10000000000000000:=by unfold magOk at h6;rw [q_ble_t] at h6;exact h6
   have hpe:=partN_end s 0
   rw [Nat.add_zero] at hpe
   have hnl:magV s 0=numL s:=by unfold magV;omega
   simp only [asrts,Tr.wp] at hq
   refine lvOK sums_nil rfl rfl lok_none (ι:={i:Nat // i≤s.length}) (fun x=>[.ptr 14 0,.int .i64 0,.int .i64 (Int.ofNat (partN s x.1)),.int .i64 (Int.ofNat x.1)]) (fun _=>⟨1,[.cells [.bool ng,.bool lg,.str s,.int .i64 e,.int .i64 g] true none],[]⟩) (fun x=>s.length-x.1) 1 (fun _=>Nat.le_refl _) (fun x J=>?_) (Nat.le_refl _) (fun J=>Wk.refl ⟨⟨0,Nat.zero_le _⟩,J,by simp [partN,numL]⟩) J
   obtain ⟨i,hi⟩:=x
   dsimp only
   have hlt:=@partN_lt s i
   have hdi:=@digL_at s h5 i
   have hp:partN s i≤10000000000000000:=by
    have:=@partN_mono s i s.length hi
    omega
   refine wp_gen fun Q' hQ=>askA_wp ((r107a ng lg s e g _ i J).mpr ?_)
   simp only [q_all,reduceCtorEq,loK,hiK,ne_eq]
   (repeat' first|exact trivial|refine ⟨?_,?_⟩|intro)<;>first|omega|refine hQ _ ?_
   · have h:=hlt (by omega)
     exact ⟨⟨i+1,by omega⟩,by dsimp only;omega,VW.of_eq (by dsimp only;rw [h];congr 4;simp only [q_ofNat];omega) rfl⟩
   · obtain rfl:i=s.length:=by omega
     refine ⟨_,_,VW.refl,?_⟩
     rw [hpe,hnl]
     exact hq
 · cases hv
theorem lv107b:LoopVOK Tryz.prog (cfgS cfg nilS) (Cw cfg []) (lb 107 1) 35 [1,2,3,5] v107b:=by
 intro vs o t Q hv hq J
 unfold v107b at hv
 split at hv
 · rename_i z n i ng lg s e g
   cases hv
   obtain ⟨h1,hq'⟩:=asrts_wp hq;clear hq;have hq:=hq';clear hq'
   obtain ⟨h2,hq'⟩:=asrts_wp hq;clear hq;have hq:=hq';clear hq'
   obtain ⟨h3,hq'⟩:=asrts_wp hq;clear hq;have hq:=hq';clear hq'
   obtain ⟨h4,hq'⟩:=asrts_wp hq;clear hq;have hq:=hq';clear hq'
   obtain ⟨h5,hq'⟩:=asrts_wp hq;clear hq;have hq:=hq';clear hq'
   obtain ⟨h6,hq'⟩:=asrts_wp hq;clear hq;have hq:=hq';clear hq'
   rw [q_eq_t] at h1 h2 h3
   rw [q_le_t] at h4 h5
   subst h1 h2 h3
   obtain ⟨k,rfl⟩:∃k:Nat,e=k:=⟨e.toNat,by omega⟩
   have hm:magV s k≤10000000000000000:=by unfold magOk at h6;rw [q_ble_t] at h6;exact h6
   simp only [asrts,Tr.wp] at hq
   refine lvOK sums_nil rfl rfl lok_none (ι:={i:Nat // i≤k}) (fun x=>[.ptr 14 0,.int .i64 0,.int .i64 (Int.ofNat (magV s x.1)),.int .i64 (Int.ofNat x.1)]) (fun _=>⟨1,[.cells [.bool ng,.bool lg,.str s,.int .i64 k,.int .i64 g] true none],[]⟩) (fun x=>k-x.1) 1 (fun _=>Nat.le_refl _) (fun x J=>?_) (Nat.le_refl _) (fun J=>Wk.refl ⟨⟨0,Nat.zero_le _⟩,J,by simp [magV]⟩) J
   obtain ⟨i,hi⟩:=x
   dsimp only
   have hs:magV s (i+1)=10*magV s i:=by unfold magV;rw [Nat.pow_succ,←Nat.mul_assoc];omega
   have hp:magV s i≤10000000000000000:=Nat.le_trans (Nat.mul_le_mul_left _ (Nat.pow_le_pow_right (by decide) hi)) hm
   refine wp_gen fun Q' hQ=>askA_wp ((r107b ng lg s k g _ i J).mpr ?_)
   simp only [q_all,reduceCtorEq,loK,hiK,ne_eq]
   (repeat' first|exact trivial|refine ⟨?_,?_⟩|intro)<;>first|omega|refine hQ _ ?_
   · exact ⟨⟨i+1,by omega⟩,by dsimp only;omega,VW.of_eq (by dsimp only;rw [hs];rfl) rfl⟩
   · obtain rfl:i=k:=by omega
     exact ⟨_,_,VW.refl,hq⟩
 · cases hv
theorem addVal {S:Sums} (hS:SumsOK Tryz.prog cfg S):SumsOK Tryz.prog cfg (addP (addP S 107 s107) 108 s108):=by
 refine sums_addP (sums_addP hS fun args t v he hv=>?_) fun args t v he hv=>?_
 · unfold s107 at he
   split at he
   · rename_i ng lg s e g
     cases he
     obtain ⟨h1,hv'⟩:=asrts_run hv;clear hv;have hv:=hv';clear hv'
     obtain ⟨h2,hv'⟩:=asrts_run hv;clear hv;have hv:=hv';clear hv'
     obtain ⟨h3,hv'⟩:=asrts_run hv;clear hv;have hv:=hv';clear hv'
     obtain ⟨h4,hv'⟩:=asrts_run hv;clear hv;have hv:=hv';clear hv'
     obtain ⟨h5,hv'⟩:=asrts_run hv;clear hv;have hv:=hv';clear hv'
     rw [q_ble_t] at h1
     rw [q_le_t] at h3 h4
     cases hv
     have hm:magV s e.toNat≤10000000000000000:=by have:=h5;unfold magOk at this;rw [q_ble_t] at this;exact this
     have hm0:magOk s 0=true:=by
      unfold magOk;rw [q_ble_t]
      exact Nat.le_trans (Nat.mul_le_mul_left _ (Nat.pow_le_pow_right (by decide) (Nat.zero_le _))) hm
     refine fpOK sums_nil (L:=L107) body107 (by simp) (lok_at loops107 fun i hi e he st Q hw=>?_) (wp_gen fun Q' hQ=>askA_wp ((b107 ng lg s e g).mpr ?_)) (by simp [idsA])
     · have hi:i=0∨i=1:=by simp at hi;omega
       rcases hi with rfl|rfl
       · cases he
         exact loopE_ok (base0.good sums_nil) (by decide) rfl lv107a hw
       · cases he
         exact loopE_ok (base0.good sums_nil) (by decide) rfl lv107b hw
     · unfold valR at hQ
       rw [hm0]
       generalize magV s e.toNat=M at *
       generalize numL s=N at *
       cases ng<;>simp only [q_all,reduceCtorEq,loK,hiK,ne_eq]<;>(repeat' first|exact trivial|refine ⟨?_,?_⟩|intro)<;>first|contradiction|omega|assumption|exact hQ _ rfl|exact hQ _ (by rw [cond_true,Int.zero_sub])
   · cases he
 · unfold s108 at he
   split at he
   · rename_i l
     cases he
     obtain ⟨h1,hv'⟩:=asrts_run hv;clear hv;have hv:=hv';clear hv'
     cases hv
     match l,h1 with
     | [],_=>exact fpOK sums_nil (L:=noL) body108 (by simp) lok_none (wp_gen fun Q' hQ=>askA_wp (b108a.mpr (hQ _ rfl))) (by simp [idsA])
     | [a,b],h1=>
       unfold okNu dB at h1
       simp only [Bool.and_eq_true,decide_eq_true_eq] at h1
       refine fpOK sums_nil (L:=noL) body108 (by simp) lok_none (wp_gen fun Q' hQ=>askA_wp ((b108b a b).mpr ?_)) (by simp [idsA])
       dsimp only
       have fin:∀x:Int,x=dg2 a b->Q' (.int .i64 x):=fun x h=>hQ _ (by rw [h];rfl)
       clear hQ
       unfold dg2 at fin
       simp only [q_all,reduceCtorEq,loK,hiK,ne_eq] at fin ⊢
       (repeat' first|exact trivial|refine ⟨?_,?_⟩|intro)<;>first|omega|exact fin _ (by omega)
     | [_],h1=>exact absurd h1 (by simp [okNu])
     | _::_::_::_,h1=>exact absurd h1 (by simp [okNu])
   · cases he
end Go.Ev
end
