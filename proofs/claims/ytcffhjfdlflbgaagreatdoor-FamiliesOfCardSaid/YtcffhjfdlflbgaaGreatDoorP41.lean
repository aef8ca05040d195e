import Derived.Test.YtcffhjfdlflbgaaGreatDoorRows
import Derived.Deep.DeepWitnessRowRef
import Derived.Test.YtcffhjfdlflbgaaGreatDoorP40
set_option linter.all false
open Option.some renaming inj->ν
open Array renaming getElem?_toList->ξ
open List renaming take->ο
set_option linter.all false
set_option maxRecDepth 100000
set_option maxHeartbeats 4000000
section
namespace Go.Ev
open Go Go.Proofs
def MC:List AV×AV:=([dA [48,48,48,48] 0 0 [48,51] [],dA [48,48,48,48] 0 0 [48,52] []],.e true)
def Vx:pR eS DB 10000 262 MC.1 MC.2=true:=by kernel_rfl
def JJ:List AV×AV:=([dA [48,48,48,48] 0 0 [48,50] [48,49]],.c [MX 0 31 0 31,iA 0])
def UG:pR eS DB 10000 205 JJ.1 JJ.2=true:=by kernel_rfl
def ajE:List AV×AV:=([dA [48,48,48,48] 0 0 [48,50] [48,57]],.c [MX 0 39 0 39,iA 0])
def Xg:pR eS DB 10000 205 ajE.1 ajE.2=true:=by kernel_rfl
def age:List AV×AV:=([dA [48,48,48,48] 0 0 [48,50] [48,49]],.c [MX 0 31 0 31,iA 0])
def amH:pR eS DB 10000 75 age.1 age.2=true:=by kernel_rfl
def afM:List AV×AV:=([dA [48,48,48,48] 0 0 [48,50] [48,57]],.c [MX 0 39 0 39,iA 0])
def amF:pR eS DB 10000 75 afM.1 afM.2=true:=by kernel_rfl
def ag9:List AV×AV:=([MX 0 0 0 31,.a .u8 2],.e false)
def anJ:pR eS DB 10000 44 ag9.1 ag9.2=true:=by kernel_rfl
noncomputable def Pw:EU:=(.a0 none (.a0 none (.a0 none .b0 (.a0 none .b0 (.a0 none (.a0 none (.a0 (some [age,afM]) .b0 .b0) .b0) .b0))) (.a0 none .b0 (.a0 none .b0 (.a0 none (.a0 none (.a0 none .b0 (.a0 (some [age,afM]) .b0 .b0)) .b0) .b0)))) (.a0 none (.a0 none .b0 (.a0 none .b0 (.a0 none (.a0 (some [ag9]) .b0 .b0) .b0))) (.a0 none .b0 (.a0 none (.a0 none (.a0 none (.a0 none (.a0 none (.a0 (some [MC]) .b0 .b0) .b0) .b0) .b0) .b0) .b0))))
noncomputable def Qz:cL:=EN DB Pw
theorem LD(g:nG Tryz.prog eS DB):nL (λf l=>∀e∈l,gM Tryz.prog DB f e.1 e.2) (λi=>i) Pw:=⟨aZ,⟨aZ,⟨aZ,trivial,⟨aZ,trivial,⟨aZ,⟨aZ,⟨(g7 (bD (g.a0 10000 amH) (bD (g.a0 10000 amF) g_))),trivial,trivial⟩,trivial⟩,trivial⟩⟩⟩,⟨aZ,trivial,⟨aZ,trivial,⟨aZ,⟨aZ,⟨aZ,trivial,⟨(g7 (bD (g.a0 10000 UG) (bD (g.a0 10000 Xg) g_))),trivial,trivial⟩⟩,trivial⟩,trivial⟩⟩⟩⟩,⟨aZ,⟨aZ,trivial,⟨aZ,trivial,⟨aZ,⟨(g7 (bD (g.a0 10000 anJ) g_)),trivial,trivial⟩,trivial⟩⟩⟩,⟨aZ,trivial,⟨aZ,⟨aZ,⟨aZ,⟨aZ,⟨aZ,⟨(g7 (bD (g.a0 10000 Vx) g_)),trivial,trivial⟩,trivial⟩,trivial⟩,trivial⟩,trivial⟩,trivial⟩⟩⟩⟩
theorem UV(g:nG Tryz.prog eS DB):nG Tryz.prog eS Qz:=g.e0 λf l h=>(LD g).a0 f l h
def Pk:List AV×AV:=([dA [48,48,48,48] 0 0 [48,50] [48,49],dA [48,48,48,48] 0 0 [48,50] [48,57]],.e true)
def Xd:pR eS Qz 10000 262 Pk.1 Pk.2=true:=by kernel_rfl
noncomputable def ajU:EU:=(.a0 none .b0 (.a0 none .b0 (.a0 none .b0 (.a0 none (.a0 none (.a0 none (.a0 none (.a0 none (.a0 (some [Pk]) .b0 .b0) .b0) .b0) .b0) .b0) .b0))))
noncomputable def als:cL:=EN Qz ajU
theorem aht(g:nG Tryz.prog eS Qz):nL (λf l=>∀e∈l,gM Tryz.prog Qz f e.1 e.2) (λi=>i) ajU:=⟨aZ,trivial,⟨aZ,trivial,⟨aZ,trivial,⟨aZ,⟨aZ,⟨aZ,⟨aZ,⟨aZ,⟨(g7 (bD (g.a0 10000 Xd) g_)),trivial,trivial⟩,trivial⟩,trivial⟩,trivial⟩,trivial⟩,trivial⟩⟩⟩⟩
theorem ang(g:nG Tryz.prog eS Qz):nG Tryz.prog eS als:=g.e0 λf l h=>(aht g).a0 f l h
def ajJ:List AV×AV:=([],.e true)
def amy:pR eS als 10000 12 ajJ.1 ajJ.2=true:=by kernel_rfl
end Go.Ev
end
section
namespace Go.Ev
open Go Go.Proofs Go.Proofs.YtcffhjfdlflbgaaGreatDoor
variable{w:World}
theorem iN{P:Program}{w:World}:∀{l:List (String×DataW Unit)} {ps:List MemPlace},DataW.LaidVars P w l ps->∀(i:Nat) (n:String) (d:DataW Unit),l[i]? = some (n,d)->
 ∃g t cs fuel p,P.globalNamed n=some g/\(P.globals[g]?).map (·.type)=some t/\w.var? P n=some cs/\DataW.trod (λ_=>()) P w 0 (λ_=>true) false fuel t cs.toList=some (d,p)/\∀x∈MemPlace.row ⟨g,0,none⟩ cs.size,x∈ps
 | [],ps,_,i,n,d,hd=>by simp at hd
 | (n0,d0)::r,ps,h,i,n,d,hd=>by
   obtain⟨g,t,cs,fuel,p,q,h1,h2,h3,h4,h5,rfl⟩:=h;cases i with
   | zero=>
     simp only[List.getElem?_cons_zero,zAb,Prod.mk.injEq]at hd;obtain⟨rfl,rfl⟩:=hd;exact⟨g,t,cs,fuel,p,h1,h2,h3,h4,λx hx=>by simp[hx]⟩
   | succ i=>
     obtain⟨g',t',cs',fuel',p',k1,k2,k3,k4,k5⟩:=iN h5 i n d (by simpa using hd);exact⟨g',t',cs',fuel',p',k1,k2,k3,k4,λx hx=>by simp[k5 x hx]⟩
def GU(x y:Int):DataW Unit:=.agg [.lit (.int .i64 x),.lit (.int .i64 y)]
def ab9:List Int->List (DataW Unit)
 | x::y::r=>GU x y::ab9 r
 | _=>[]
theorem AJ{x y a b:Int}(h:GU x y=.agg [.lit (.int .i64 a),.lit (.int .i64 b)]):x=a/\y=b:=by
 simpa [GU]using h
theorem oq:∀{l:List Int},l.length%2=0->∀(i:Nat) (v:Int),l[i]? = some v->∃x y,(ab9 l)[i/2]? = some (GU x y)/\(i%2=0->v=x)/\(i%2=1->v=y)
 | [],_,i,v,h=>by simp at h
 | [x],h,i,v,_=>by simp at h
 | x::y::r,h,0,v,hv=>⟨x,y,rfl,λ_=>by simpa using hv.symm,λh=>by simp at h⟩
 | x::y::r,h,1,v,hv=>⟨x,y,rfl,λh=>by simp at h,λ_=>by simpa using hv.symm⟩
 | x::y::r,h,i+2,v,hv=>by
   obtain⟨a,b,h1,h2,h3⟩:=oq (l:=r) (by simp at h;omega) i v (by simpa using hv);refine⟨a,b,?_,λe=>h2 (by omega),λe=>h3 (by omega)⟩;rw[show(i+2)/2=i/2+1 by omega,ab9,List.getElem?_cons_succ];exact h1
noncomputable def abA:List (String×DataW Unit):=Rows.familiesOfRow.laid
theorem laid_met(h:laidMetH Tryz.prog abA w):laidMet Tryz.prog abA w:=by
 unfold laidMetH at h;have e:(abA.filter λx=>x.2.handleName?.isSome)=[]:=by kernel_rfl
 rw[e]at h;exact h
theorem N0(h:laidMet Tryz.prog abA w):∀i v,XQ[i]? = some v->w.cell? ⟨1,i,none⟩=some (.int .i64 v):=by
 obtain⟨ps,hv,_,_⟩:=h;obtain⟨g,t,cs,fuel,p,h1,h2,h3,h4,_⟩:=iN hv 7 "circa/months.lengths" Rows.laid_circa_months_lengths rfl;obtain rfl:1=g:=ν ((show Tryz.prog.globalNamed "circa/months.lengths" = some 1 by kernel_rfl).symm.trans h1);obtain rfl:349=t:=ν ((show(Tryz.prog.globals[1]?).map (·.type)=some 349 by kernel_rfl).symm.trans h2);have hc:=Lib.cells_of_tab (zs:=XQ) (k:=.i64) Tryz.underlying349 Tryz.underlying3 (by kernel_rfl) (by kernel_rfl) h4;intro i v hi;rw[World.var?_cell (by kernel_rfl:Tryz.prog.globalNamed "circa/months.lengths" = some 1) h3 i,<-ξ,hc,List.getElem?_map,hi];rfl
theorem KT(h:laidMet Tryz.prog abA w):∀i v,XU[i]? = some v->w.cell? ⟨2,i,none⟩=some (.int .i64 v):=by
 obtain⟨ps,hv,_,_⟩:=h;obtain⟨g,t,cs,fuel,p,h1,h2,h3,h4,_⟩:=iN hv 8 "circa/seasons.spans" Rows.laid_circa_seasons_spans rfl;obtain rfl:2=g:=ν ((show Tryz.prog.globalNamed "circa/seasons.spans" = some 2 by kernel_rfl).symm.trans h1);obtain rfl:352=t:=ν ((show(Tryz.prog.globals[2]?).map (·.type)=some 352 by kernel_rfl).symm.trans h2);have h4:DataW.trod (λ_=>()) Tryz.prog w 0 (λ_=>true) false fuel 352 cs.toList=some (.agg (ab9 XU),p):=h4;have hc:=D8 Tryz.underlying352 Tryz.underlying351 rfl rfl Tryz.underlying3 Tryz.underlying3 rfl rfl (by kernel_rfl) (by kernel_rfl) (by kernel_rfl) h4;intro i v hi;rw[World.var?_cell (by kernel_rfl:Tryz.prog.globalNamed "circa/seasons.spans" = some 2) h3 i,<-ξ];obtain⟨x,y,hd,hx,hy⟩:=oq rfl i v hi;obtain⟨a,b,he,ha,hb⟩:=hc _ _ hd;obtain⟨rfl,rfl⟩:=AJ he;rcases Nat.mod_two_eq_zero_or_one i with h2|h2
 . rw[hx h2,<-ha,show 2*(i/2)=i by omega]
 . rw[hy h2,<-hb,show 2*(i/2)+1=i by omega]
theorem My(h:laidMet Tryz.prog abA w):∃b o,w.cell? ⟨5,0,none⟩=some (.slice (some ⟨b,o,none⟩) 3 3)/\∀i v,XP[i]? = some v->w.cell? ⟨b,o+i,none⟩=some (.int .i64 v):=by
 obtain⟨ps,hv,_,_⟩:=h;obtain⟨g,t,cs,fuel,p,h1,h2,h3,h4,_⟩:=iN hv 6 "circa/years.steps" Rows.laid_circa_years_steps rfl;obtain rfl:5=g:=ν ((show Tryz.prog.globalNamed "circa/years.steps" = some 5 by kernel_rfl).symm.trans h1);obtain rfl:367=t:=ν ((show(Tryz.prog.globals[5]?).map (·.type)=some 367 by kernel_rfl).symm.trans h2);have h4:DataW.trod (λ_=>()) Tryz.prog w 0 (λ_=>true) false fuel 367 cs.toList=some (.slice (ab9 XP) [],p):=h4;obtain⟨b,o,hcs,hc⟩:=zK Tryz.underlying367 Tryz.underlying368 rfl rfl Tryz.underlying2 Tryz.underlying2 rfl rfl (by kernel_rfl) (by kernel_rfl) (by kernel_rfl) (by decide) h4;refine⟨b,o,?_,λi v hi=>?_⟩
 . rw[World.var?_cell (by kernel_rfl:Tryz.prog.globalNamed "circa/years.steps" = some 5) h3 0,<-ξ,hcs];rfl
 . obtain⟨x,y,hd,hx,hy⟩:=oq rfl i v hi;obtain⟨a,b',he,ha,hb⟩:=hc _ _ hd;obtain⟨rfl,rfl⟩:=AJ he;rcases Nat.mod_two_eq_zero_or_one i with h2|h2
   . rw[hx h2,<-ha,show 2*(i/2)=i by omega]
   . rw[hy h2,<-hb,show 2*(i/2)+1=i by omega]
theorem Mh(h:laidMet Tryz.prog abA w){i g:Nat}{n:String}{text:List UInt8}(hi:abA[i]? = some (n,.iface "*errors.errorString" (.ptr (.agg [.lit (.string text)]))))(hg:Tryz.prog.globalNamed n=some g)(ht:(Tryz.prog.globals[g]?).map (·.type)=some 259) :
 (∃b o,w.cell? ⟨g,0,none⟩=some (.iface 376 (.pointer (some ⟨b,o,none⟩))))/\∀c e fz,w.heap[g]? = some (.cells c e fz)->c.size=1:=by
 obtain⟨ps,hv,_,hps⟩:=h;obtain⟨g',t,cs,fuel,p,h1,h2,h3,h4,h5⟩:=iN hv i n _ hi;obtain rfl:g=g':=ν (hg.symm.trans h1);obtain rfl:259=t:=ν (ht.symm.trans h2);obtain⟨a,s,hcs,hcell,_⟩:=errorString_of_trod Tryz.underlying259 (λu hu=>typeName_ptr_named (nm := "errors.errorString") (by kernel_rfl) (by kernel_rfl) (by decide) u hu) Tryz.underlying376 Tryz.underlying378 rfl rfl Tryz.underlying9 (by kernel_rfl) (by kernel_rfl) h4 (λu v e=>by
  have hc0:w.cell? ⟨g,0,none⟩=some (.iface u v):=by
   rw[World.var?_cell hg h3 0,<-ξ,e];rfl
  have hsz:cs.size=1:=by
   have:=congrArg List.length e;simpa using this
  exact(hps g 0 (h5 _ (by rw[hsz];simp[MemPlace.row]))).2 u v hc0)
 obtain⟨b,o,sp⟩:=a;have hsp:sp=none:=by
  unfold World.cell? at hcell;cases sp with
  | none=>rfl
  | some v=>split at hcell<;>simp at hcell
 subst hsp;refine⟨⟨b,o,by rw[World.var?_cell hg h3 0,<-ξ,hcs];rfl⟩,λc e fz hb=>?_⟩;have h3':=h3;unfold World.var? at h3';rw[hg]at h3';simp only[Option.bind_some,hb,zAb]at h3';have:=congrArg List.length hcs;rw[h3'];simpa using this
theorem JA(h:laidMetH Tryz.prog abA w):Pr w:=by
 have h:=laid_met h;have hS:=Mh h (i:=5) (g:=3) (n := "strconv.ErrSyntax") rfl (by kernel_rfl) (by kernel_rfl);have hR:=Mh h (i:=4) (g:=4) (n := "strconv.ErrRange") rfl (by kernel_rfl) (by kernel_rfl);exact⟨My h,N0 h,KT h,hS.1,hR.1,hS.2,hR.2⟩
end Go.Ev
end
section
namespace Go.Ev
open Go Go.Proofs Go.ChangeShapes
variable{i len cap:Nat}{ws:List cD}{m:Nat->bv}{w:World}
theorem GT{α:Type}{d:α}{Q:Nat->α->Prop}:∀{n:Nat},(∀i,i<n->∃a,Q i a)->∃l:List α,l.length=n/\∀i,i<n->Q i (l.getD i d)
 | 0,_=>⟨[],rfl,λi hi=>absurd hi (Nat.not_lt_zero _)⟩
 | n+1,h=>by
   obtain⟨l,hl,hq⟩:=GT (n:=n) (d:=d) λi hi=>h i (by omega);obtain⟨a,ha⟩:=h n (by omega);refine⟨l++[a],by grind,λi hi=>?_⟩;grind
theorem K3{b o:Nat}:(⟨b,o,none⟩:Addr).add i=⟨b,o+i,none⟩:=by
 grind [Addr.add]
theorem Ka{k:IntKind}{n:Int}(h:(Lit.int k n).wf):k.min<=n/\n<=k.max:=by
 grind [Lit.wf]
theorem KR(h:i<14+ws.length):(dQ (Cw cfg ws) ⟨0,[],[]⟩ i).isSome->False:=by
 intro hs;unfold dQ at hs;have:(Cw cfg ws).lo=14+ws.length:=rfl;rw[jT (by omega),cond_false]at hs;cases hs
theorem Dk{f:FuncId}{fn:Func}{av:List AV}(hfn:Tryz.prog.funcs[f]? = some fn)(h4:(fn.name == "runtime.NumGoroutine")=false)(h5:fn.body.isNone=false)(hf:bu Tryz.prog cfg f av ws (.e true) [])(hi:dX cfg (λid=>id<14+ws.length) m (Cw cfg ws) ⟨0,[],[]⟩ w)(ho:fM (λid=>id<14+ws.length) m av) :
 Calls Tryz.prog f (ap m av).toArray w λe w'=>e=.returned (.bool true)/\RowKit.Below w.heap.size w w':=by
 rcases hf _ m w hi ho with⟨_,h⟩|⟨v,w',hv,_⟩
 . refine h.mono ?_;rintro e w' ⟨v,rfl,D',m',rfl,_,he⟩;exact⟨rfl,he.os,he.j0,he.c0,he.i0,λk hk=>he.f0 k hk λi hi ho=>(KR hi ho).elim⟩
 . exfalso;have h6:¬fn.name = "runtime.NumGoroutine" := by grind
   have h7:¬fn.body=none:=λe=>by grind
   simp_all [callFunc]
theorem JZ(hi:dX cfg (λid=>id<14) m C0 ⟨0,[],[]⟩ w){L:List bv}(hL:M0 cfg.a0.n (λid=>id<14) m w L ws):dX cfg (λid=>id<14+ws.length) (mL cfg.a0.n m L) (Cw cfg ws) ⟨0,[],[]⟩ w:=by
 have h:=Lk dI.lv Az hi hL;have e:DL cfg.a0.n (λid=>id<14) L=λid=>id<14+ws.length:=by
  funext id
  unfold DL;have:=hL.1;have h14:cfg.a0.n=14:=rfl;grind
 grind
theorem SM{l:bv}{L:List bv}:mL cfg.a0.n m (l::L) 14=l:=rfl
theorem vY:Tryz.prog.cellsOf 5=1:=by rfl
theorem P8:Tryz.prog.cellsOf 4=1:=by rfl
theorem apZ:Tryz.prog.cellsOf 66=1:=by rfl
theorem apY:Tryz.prog.cellsOf 23=2:=by rfl
theorem ap1:Tryz.prog.cellsOf 28=3:=by rfl
theorem apT:Tryz.prog.cellsOf 68=5:=by rfl
theorem ant:Tryz.prog.cellsOf 70=10:=by rfl
theorem anR:Tryz.prog.cellsOf 72=21:=by rfl
theorem aoI:Tryz.prog.cellsOf 22=1:=by rfl
theorem aoB:Tryz.prog.cellsOf 25=5:=by rfl
theorem apw:Tryz.prog.cellTypes Tryz.prog.depth 25=some [5,22,5,5,5]:=by rfl
def Dp.vs(D:Dp):List Value:=[.int .u8 D.f,.bool D.ng,.int .u16 D.n,.int .u8 D.z0,.int .u8 D.z1,.int .u8 D.m,.int .u8 D.d,.int .u8 D.x,.int .u8 D.y,.int .u8 D.z]
section
variable{H:Type}{enc:TypeId×Value->H}{w:World}{sp:Nat->Bool}{held:Bool}{fuel:Nat}{cs:List Value}{x:DataW H×List MemPlace}
theorem qm(h:DataW.trod enc Tryz.prog w 0 sp held fuel 5 cs=some x):∃n,cs=[.int .u8 n]/\0<=n/\n<=255:=by
 obtain⟨n,hn,_,hw⟩:=DataW.trod_int Tryz.underlying5 h;exact⟨n,hn,Ka hw⟩
theorem md{α:Type}{l:List α}{n:Nat}{y:Option α}(h:y=l[i]?)(hl:l.length=n)(hi:i<n):∃a,y=some a:=⟨_,h.trans (List.getElem?_eq_getElem (by omega))⟩
theorem Ll(h:DataW.trod enc Tryz.prog w 0 sp held fuel 70 cs=some x):∃D:Dp,D.ok/\cs=D.vs:=by
 obtain⟨xs,n,_,_,hl,hxl,hf⟩:=DataW.trod_struct Tryz.underlying70 h;rw[ant]at hl;have hxl:xs.length=4:=hxl
 match cs,hl with
 | [c0,c1,c2,c3,c4,c5,c6,c7,c8,c9],_=>
   obtain⟨aY,hY⟩:=md (hf 0 _ rfl) hxl (by decide);obtain⟨aM,hM⟩:=md (hf 1 _ rfl) hxl (by decide);obtain⟨aD,hD⟩:=md (hf 2 _ rfl) hxl (by decide);obtain⟨aK,hK⟩:=md (hf 3 _ rfl) hxl (by decide);change DataW.trod enc Tryz.prog w 0 sp held n 68 (ο (Tryz.prog.cellsOf 68) _)=_ at hY;change DataW.trod enc Tryz.prog w 0 sp held n 5 (ο (Tryz.prog.cellsOf 5) _)=_ at hM hD;change DataW.trod enc Tryz.prog w 0 sp held n 28 (ο (Tryz.prog.cellsOf 28) _)=_ at hK;rw[apT]at hY;rw[vY]at hM hD;rw[ap1]at hK;obtain⟨m5,e5,r5⟩:=qm hM;obtain⟨m6,e6,r6⟩:=qm hD;obtain⟨ks,k,_,_,_,hkl,hk⟩:=DataW.trod_array Tryz.underlying28 hK;rw[vY]at hk;obtain⟨_,h7⟩:=md (hk 0 (by decide)) hkl (by decide);obtain⟨_,h8⟩:=md (hk 1 (by decide)) hkl (by decide);obtain⟨_,h9⟩:=md (hk 2 (by decide)) hkl (by decide);obtain⟨m7,e7,r7⟩:=qm h7;obtain⟨m8,e8,r8⟩:=qm h8;obtain⟨m9,e9,r9⟩:=qm h9;obtain⟨ys,j,_,_,_,hyl,hy⟩:=DataW.trod_struct Tryz.underlying68 hY;have hyl:ys.length=4:=hyl;obtain⟨_,h0⟩:=md (hy 0 _ rfl) hyl (by decide);obtain⟨_,h1⟩:=md (hy 1 _ rfl) hyl (by decide);obtain⟨_,h2⟩:=md (hy 2 _ rfl) hyl (by decide);obtain⟨_,h3⟩:=md (hy 3 _ rfl) hyl (by decide);change DataW.trod enc Tryz.prog w 0 sp held j 5 (ο (Tryz.prog.cellsOf 5) _)=_ at h0;change DataW.trod enc Tryz.prog w 0 sp held j 4 (ο (Tryz.prog.cellsOf 4) _)=_ at h1;change DataW.trod enc Tryz.prog w 0 sp held j 66 (ο (Tryz.prog.cellsOf 66) _)=_ at h2;change DataW.trod enc Tryz.prog w 0 sp held j 23 (ο (Tryz.prog.cellsOf 23) _)=_ at h3;rw[vY]at h0;rw[P8]at h1;rw[apZ]at h2;rw[apY]at h3;obtain⟨m0,e0,r0⟩:=qm h0;obtain⟨m1,e1,_⟩:=DataW.trod_bool Tryz.underlying4 h1;obtain⟨m2,e2,_,w2⟩:=DataW.trod_int Tryz.underlying66 h2;have r2:0<=m2/\m2<=65535:=Ka w2;obtain⟨zs,q,_,_,_,hzl,hz⟩:=DataW.trod_array Tryz.underlying23 h3;rw[vY]at hz;obtain⟨_,h31⟩:=md (hz 0 (by decide)) hzl (by decide);obtain⟨_,h32⟩:=md (hz 1 (by decide)) hzl (by decide);obtain⟨m3,e3,r3⟩:=qm h31;obtain⟨m4,e4,r4⟩:=qm h32;cases e0;cases e1;cases e2;cases e3;cases e4;cases e5;cases e6;cases e7;cases e8;cases e9;exact⟨⟨m0,m1,m2,m3,m4,m5,m6,m7,m8,m9⟩,Dp.a0.2 ⟨r0,r2,r3,r4,r5,r6,r7,r8,r9⟩,rfl⟩
def Ip.vs(x:Ip):List Value:=x.D.vs++.int .u8 x.r::x.T.vs
theorem SR(h:DataW.trod enc Tryz.prog w 0 sp held fuel 72 cs=some x):∃X:Ip,X.ok/\cs=X.vs:=by
 obtain⟨xs,n,_,_,hl,hxl,hf⟩:=DataW.trod_struct Tryz.underlying72 h;rw[anR]at hl;have hxl:xs.length=3:=hxl
 match cs,hl with
 | [c0,c1,c2,c3,c4,c5,c6,c7,c8,c9,c10,c11,c12,c13,c14,c15,c16,c17,c18,c19,c20],_=>
   obtain⟨_,h1⟩:=md (hf 0 _ rfl) hxl (by decide);obtain⟨_,h2⟩:=md (hf 1 _ rfl) hxl (by decide);obtain⟨_,h3⟩:=md (hf 2 _ rfl) hxl (by decide);change DataW.trod enc Tryz.prog w 0 sp held n 70 (ο (Tryz.prog.cellsOf 70) _)=_ at h1 h3;change DataW.trod enc Tryz.prog w 0 sp held n 5 (ο (Tryz.prog.cellsOf 5) _)=_ at h2;rw[ant]at h1 h3;rw[vY]at h2;obtain⟨D,d1,d2⟩:=Ll h1;obtain⟨r,e,r0⟩:=qm h2;obtain⟨T,t1,t2⟩:=Ll h3;refine⟨⟨D,r,T⟩,?_,?_⟩
   . grind [Ip.ok,aai]
   . cases e;have e1:[c0,c1,c2,c3,c4,c5,c6,c7,c8,c9]=D.vs:=d2;have e3:[c11,c12,c13,c14,c15,c16,c17,c18,c19,c20]=T.vs:=t2;show[c0,c1,c2,c3,c4,c5,c6,c7,c8,c9]++.int .u8 r::[c11,c12,c13,c14,c15,c16,c17,c18,c19,c20]=_;rw[e1,e3];rfl
end
theorem anM{X:Ip}:X.vs=X.cs.map (aj m):=rfl
theorem afU{m:Nat->bv}:∀{G:List Ip} {f:Nat->Option Value},(∀q,q<G.length->∀j,j<21->f (q*21+j)=(G.getD q qe).vs[j]?)->∀i v,(eP G)[i]? = some v->f i=some (aj m v)
 | [],_,_,i,v,hv=>by simp[eP]at hv
 | x::xs,f,h,i,v,hv=>by
   have hl:x.cs.length=21:=rfl;by_cases hi:i<21
   . have h1:=h 0 (by simp) i hi;grind [eP,anM]
   . unfold eP at hv;rw[List.getElem?_append_right (by omega),hl]at hv;have:=afU (m:=m) (f:=λn=>f (n+21)) (λq hq j hj=>by
      have:=h (q+1) (by grind) j hj;grind) (i-21) v hv
     grind
section
variable{H:Type}{enc:TypeId×Value->H}{w:World}{sp:Nat->Bool}{held:Bool}
theorem agp{fuel b o:Nat}{x:DataW H×List MemPlace}(h:DataW.trod enc Tryz.prog w 0 sp held fuel 22 [.slice (some ⟨b,o,none⟩) len cap]=some x) :
 ∃G:List Ip,G.length=len/\len<=cap/\(∀i,i<G.length->(G.getD i qe).ok=true)/\∀m i v,(eP G)[i]? = some v->w.cell? ⟨b,o+i,none⟩=some (aj m v):=by
 rcases DataW.trod_slice Tryz.underlying22 h with⟨h1,_⟩|⟨a,len',cap',elems,rest,n,_,h1,_,_,hcap,_,hel,hat,_⟩
 . grind
 . cases h1;rw[anR]at hat;have main:∀i,i<len->∃X:Ip,X.ok/\∀j,j<21->w.cell? ⟨b,o+(i*21+j),none⟩=X.vs[j]? := by
    intro i hi;have h3:=hat i hi;rw[List.getElem?_eq_getElem (by omega)]at h3;obtain⟨cs',hcs,htr⟩:=Option.bind_eq_some_iff.1 h3;obtain⟨X,hX,rfl⟩:=SR htr;obtain⟨_,_,hcell⟩:=World.cells?_some hcs;grind [K3]
   obtain⟨G,hR,hq⟩:=GT (d:=qe) main;refine⟨G,hR,?_,λi hi=>(hq i (by omega)).1,λm=>afU (f:=λi=>w.cell? ⟨b,o+i,none⟩) λq h=>(hq q (by omega)).2⟩;omega
end
theorem M9{cfg':cL}{f:FuncId}{args:List AV}{v:AV}(hG:cfg.G=cfg'.G)(hr:cfg.a0=cfg'.a0)(h:gM Tryz.prog cfg' f args v):gM Tryz.prog cfg f args v:=λC D m o w hi hok=>
 (h C D m o w (dX.to (cfg:=cfg) (cfg':=cfg') hG.symm hr.symm hi) hok).a0 λV w' ⟨h1,h2,h3,h4⟩=>⟨h1,h2,dw.to (cfg:=cfg') (cfg':=cfg) hG hr h3,h4⟩
theorem akg:gM Tryz.prog cfg 12 [] (.e true):=M9 (cfg':=als) rfl rfl ((ang (UV (WA (Uz dI)))).a0 10000 amy)
theorem bJ:bu Tryz.prog cfg 12 [] [] (.e true) []:=λD m w hi hok=>(akg (Cw cfg []) D m ⟨0,[],[]⟩ w hi hok).a0 λV w' ⟨h1,h2,h3,_⟩=>⟨D,m,h1,h2,h3⟩
section
variable{P:Program}{w:World}{r:Reach}{b0:Nat}{t:TypeId}{v:Value}
theorem ab3{k:IntKind}(ht:P.underlying t=some (.int k))(h:Cell.okWide P w r b0 t v):∃n,v=.int k n/\k.min<=n/\n<=k.max:=by
 unfold Cell.okWide Cell.ok at h;rw[ht]at h;cases v<;>first|exact h.elim|skip
 obtain⟨rfl,h1⟩:=h;exact⟨_,rfl,h1⟩
theorem EP{e:TypeId}(ht:P.underlying t=some (.slice e))(h:Cell.okWide P w r b0 t v):v=.slice none 0 0\/∃b o len cap c el fz,v=.slice (some ⟨b,o,none⟩) len cap/\w.heap[b]? = some (.cells c el fz):=by
 unfold Cell.okWide Cell.ok at h;rw[ht]at h;cases v<;>first|exact h.elim|skip
 rename_i a len cap;cases a with
 | none=>
   grind
 | some a=>
   right
   obtain⟨_,_,_,h4,row,cells,h5,_⟩:=h;obtain⟨b,o,sp⟩:=a;simp only at h4 h5;subst h4;grind [World.shape?]
end
def kV(k:Int)(sv:Value)(e0 e1 b:Int):Value:=.agg #[.int .u8 k,sv,.int .u8 e0,.int .u8 e1,.int .u8 b]
theorem alh{r:Reach}{b0:Nat}{v:Value}(h:Value.okWide Tryz.prog w r b0 25 v):∃k sv e0 e1 b,v=kV k sv e0 e1 b/\(0<=k/\k<=255)/\af .u8 e0/\af .u8 e1/\(0<=b/\b<=255)/\Cell.okWide Tryz.prog w r b0 22 sv:=by
 obtain⟨l,rfl,hl⟩:=IH Tryz.underlying25 apw aoB h
 match l,hl with
 | [c0,c1,c2,c3,c4],⟨h0,h1,h2,h3,h4,_⟩=>
   obtain⟨k,rfl,rk⟩:=ab3 Tryz.underlying5 h0;obtain⟨e0,rfl,r0⟩:=ab3 Tryz.underlying5 h2;obtain⟨e1,rfl,r1⟩:=ab3 Tryz.underlying5 h3;obtain⟨b,rfl,rb⟩:=ab3 Tryz.underlying5 h4;exact⟨k,c1,e0,e1,b,rfl,rk,aai r0,aai r1,rb,h1⟩
theorem ah1{H:Type}{enc:TypeId×Value->H}{k e0 e1 bb:Int}{b o:Nat}{d:DataW H}{p:List MemPlace}(ht:DataW.Trod enc Tryz.prog w 0 (λ_=>true) true 25 (kV k (.slice (some ⟨b,o,none⟩) len cap) e0 e1 bb) d p) :
 ∃G:List Ip,G.length=len/\len<=cap/\(∀i,i<G.length->(G.getD i qe).ok=true)/\∀m i v,(eP G)[i]? = some v->w.cell? ⟨b,o+i,none⟩=some (aj m v):=by
 obtain⟨fuel,ht⟩:=ht;obtain⟨xs,n,_,_,_,hlen,hf⟩:=DataW.trod_struct Tryz.underlying25 ht;have hxl:xs.length=4:=hlen;obtain⟨_,h1⟩:=md (hf 1 _ rfl) hxl (by decide);change DataW.trod enc Tryz.prog w 0 (λ_=>true) true n 22 (ο (Tryz.prog.cellsOf 22) _)=_ at h1;rw[aoI]at h1;exact agp h1
theorem ag2{b o:Nat}{G:List Ip}(hb:∃c e fz,w.heap[b]? = some (.cells c e fz))(hc:∀m i v,(eP G)[i]? = some v->w.cell? ⟨b,o+i,none⟩=some (aj m v)):JU cfg.a0.n (λid=>id<14) m w (.a (eP G) false none) ⟨b,o,0⟩:=by
 obtain⟨c,el,fz,hh⟩:=hb;refine⟨_,rfl,abe,?_,c,el,fz,hh,λi v hv=>?_⟩
 . intro i hi;grind [acv]
 grind [World.cell?]
theorem calls3{H:Type}{enc:TypeId×Value->H}{r:Reach}{b0:Nat}{v0:Value}{d0:DataW H}{p0:List MemPlace}(hL:laidMetH Tryz.prog abA w)(h0:Value.okWide Tryz.prog w r b0 25 v0)(t0:DataW.Trod enc Tryz.prog w 0 (λ_=>true) true 25 v0 d0 p0) :
 Calls Tryz.prog 3 #[v0] w λe w'=>e=.returned (.bool true)/\RowKit.Below w.heap.size w w':=by
 obtain⟨m,hi⟩:=Jn (JA hL);obtain⟨k,sv,e0,e1,b,rfl,hk,r0,r1,hb,hs⟩:=alh h0;rcases EP Tryz.underlying22 hs with rfl|⟨bk,o,len,cap,cc,el,fz,rfl,hh⟩
 . have hB:∃bk:Nat,∃c e fz,w.heap[bk]? = some (Obj.cells c e fz):=by
    obtain⟨_,_,h⟩:=(JA hL).a0;grind [Dc]
   obtain⟨bk,hB⟩:=hB;have:=Dk Tryz.func3 (by rfl) (by rfl) (ans bJ hk r0 r1 hb) (JZ (L:=[⟨bk,0,0⟩]) hi ⟨rfl,λj x l hx hl=>by
    grind [ag2,eP]⟩) (by nofun)
   grind [kE,kV,ap,aj]
 . obtain⟨G,hg,hle,hin,hc⟩:=ah1 t0;have:=Dk Tryz.func3 (by rfl) (by rfl) (ank (c:=cap) bJ hk r0 r1 hb (by omega) hin) (JZ (L:=[⟨bk,o,0⟩]) hi ⟨rfl,λj x l hx hl=>by
    match j with
    | 0=>cases hx;cases hl;exact ag2 ⟨cc,el,fz,hh⟩ hc
    | j+1=>grind⟩) (by simp[kE,fM,bw,aC,fi])
   grind [kE,kV,ap,aj,iR,SM]
end Go.Ev
end
section
namespace Go.Ev.Wit
open Go Go.Proofs
def bh:Nat->DataW Unit->List Value
 | 0,_=>[]
 | d+1,.agg xs=>xs.flatMap (bh d)
 | _,.lit (.int k n)=>[.int k n]
 | _,_=>[]
def Y_(h:Array Obj)(b:Nat)(c:List Value):Array Obj:=h.modify b λ
 | .cells _ t frozen=>.cells c.toArray t frozen
 | o=>o
def Zd(B:Nat):List (Nat×List Value):=[(9,[.int .u8 (0),.int .u8 (1),.int .u8 (28),.int .u8 (2),.int .u8 (29),.int .u8 (14),.int .u8 (24),.int .u8 (3),.int .u8 (30),.int .u8 (22),.int .u8 (20),.int .u8 (15),.int .u8 (25),.int .u8 (17),.int .u8 (4),.int .u8 (8),.int .u8 (31),.int .u8 (27),.int .u8 (13),.int .u8 (23),.int .u8 (21),.int .u8 (19),.int .u8 (16),.int .u8 (7),.int .u8 (26),.int .u8 (12),.int .u8 (18),.int .u8 (6),.int .u8 (11),.int .u8 (5),.int .u8 (10),.int .u8 (9)]),
 (10,[.int .u8 (0),.int .u8 (1),.int .u8 (56),.int .u8 (2),.int .u8 (57),.int .u8 (49),.int .u8 (28),.int .u8 (3),.int .u8 (61),.int .u8 (58),.int .u8 (42),.int .u8 (50),.int .u8 (38),.int .u8 (29),.int .u8 (17),.int .u8 (4),.int .u8 (62),.int .u8 (47),.int .u8 (59),.int .u8 (36),.int .u8 (45),.int .u8 (43),.int .u8 (51),.int .u8 (22),.int .u8 (53),.int .u8 (39),.int .u8 (33),.int .u8 (30),.int .u8 (24),.int .u8 (18),.int .u8 (12),.int .u8 (5),.int .u8 (63),.int .u8 (55),.int .u8 (48),.int .u8 (27),.int .u8 (60),.int .u8 (41),.int .u8 (37),.int .u8 (16),.int .u8 (46),.int .u8 (35),.int .u8 (44),.int .u8 (21),.int .u8 (52),.int .u8 (32),.int .u8 (23),.int .u8 (11),.int .u8 (54),.int .u8 (26),.int .u8 (40),.int .u8 (15),.int .u8 (34),.int .u8 (20),.int .u8 (31),.int .u8 (10),.int .u8 (25),.int .u8 (14),.int .u8 (19),.int .u8 (9),.int .u8 (13),.int .u8 (8),.int .u8 (7),.int .u8 (6)]),
 (8,[.int .u64 (1),.int .u64 (10),.int .u64 (100),.int .u64 (1000),.int .u64 (10000),.int .u64 (100000),.int .u64 (1000000),.int .u64 (10000000),.int .u64 (100000000),.int .u64 (1000000000),.int .u64 (10000000000),.int .u64 (100000000000),.int .u64 (1000000000000),.int .u64 (10000000000000),.int .u64 (100000000000000),.int .u64 (1000000000000000),.int .u64 (10000000000000000),.int .u64 (100000000000000000),.int .u64 (1000000000000000000),.int .u64 (10000000000000000000)]),
 (7,[.int .u8 (128),.int .u8 (191),.int .u8 (160),.int .u8 (191),.int .u8 (128),.int .u8 (159),.int .u8 (144),.int .u8 (191),.int .u8 (128),.int .u8 (143),.int .u8 (0),.int .u8 (0),.int .u8 (0),.int .u8 (0),.int .u8 (0),.int .u8 (0),.int .u8 (0),.int .u8 (0),.int .u8 (0),.int .u8 (0),.int .u8 (0),.int .u8 (0),.int .u8 (0),.int .u8 (0),.int .u8 (0),.int .u8 (0),.int .u8 (0),.int .u8 (0),.int .u8 (0),.int .u8 (0),.int .u8 (0),.int .u8 (0)]),
 (4,[.iface 376 (.pointer (some ⟨B+0,0,none⟩))]),
 (3,[.iface 376 (.pointer (some ⟨B+1,0,none⟩))]),
 (5,[.slice (some ⟨B+2,0,none⟩) 3 3]),
 (1,[.int .i64 (31),.int .i64 (28),.int .i64 (31),.int .i64 (30),.int .i64 (31),.int .i64 (30),.int .i64 (31),.int .i64 (31),.int .i64 (30),.int .i64 (31),.int .i64 (30),.int .i64 (31)]),
 (2,[.int .i64 (3),.int .i64 (3),.int .i64 (6),.int .i64 (3),.int .i64 (9),.int .i64 (3),.int .i64 (12),.int .i64 (3),.int .i64 (3),.int .i64 (3),.int .i64 (6),.int .i64 (3),.int .i64 (9),.int .i64 (3),.int .i64 (12),.int .i64 (3),.int .i64 (9),.int .i64 (3),.int .i64 (12),.int .i64 (3),.int .i64 (3),.int .i64 (3),.int .i64 (6),.int .i64 (3),.int .i64 (1),.int .i64 (3),.int .i64 (4),.int .i64 (3),.int .i64 (7),.int .i64 (3),.int .i64 (10),.int .i64 (3),.int .i64 (1),.int .i64 (4),.int .i64 (5),.int .i64 (4),.int .i64 (9),.int .i64 (4),.int .i64 (1),.int .i64 (6),.int .i64 (7),.int .i64 (6)]),
 (6,bh 9 Go.Pinned.utf8First)]
def Zq(B:Nat):List Obj:=[.cells #[.string ⟨#[118,97,108,117,101,32,111,117,116,32,111,102,32,114,97,110,103,101]⟩] 378 (0,0),.cells #[.string ⟨#[105,110,118,97,108,105,100,32,115,121,110,116,97,120]⟩] 378 (0,0),.cells #[.int .i64 (4),.int .i64 (1),.int .i64 (100),.int .i64 (-1),.int .i64 (400),.int .i64 (1)] 368 (0,0)]
noncomputable def LI(h:Array Obj):Array Obj:=((Zd h.size).foldl (λh p=>Y_ h p.1 p.2) h)++(Zq h.size).toArray
noncomputable def laidWorld(os:Os):World:={ World.holding Tryz.prog os ⟨#[],#[],[]⟩with heap:=LI (World.holding Tryz.prog os ⟨#[],#[],[]⟩).heap }
end Go.Ev.Wit
end
section
namespace Go.Proofs.YtcffhjfdlflbgaaGreatDoor.fnFamiliesOf
open Go.ChangeShapes Go.WideShapes Go.ChangeAt Go.RowKit
def recP:Tryz.prog.readableRec 25=true:=by kernel_rfl
theorem rowP:25 < Tryz.prog.types.size:=of_decide_eq_true (by kernel_rfl)
theorem contract(H:Type)(enc:TypeId×Value->H)(W:World)(args:Array Value)(ds gs:List (DataW H))(before:List MemPlace)(r:Reach)(b0:Nat)
 (hval:∀(j:Nat) (t:TypeId) (v:Value),Tryz.f3.params[j]? = some t->args[j]? = some v->Value.okWide Tryz.prog W r b0 t v)
 (hW:DataW.Whole enc Tryz.prog Tryz.f3.params.toList Rows.familiesOfSpec.vars false W args.toList ds gs before) (hL:laidMetH Tryz.prog Rows.familiesOfRow.laid W) :
 Calls Tryz.prog 3 args W λe W'=>∃v,e=.returned v/\Rows.familiesOfSpec.post enc Tryz.prog Tryz.f3 false true false false W args v W':=by
 have hW':=hW;obtain⟨p,q,hA0,hV,rfl,hfz,hnd⟩:=hW;have hA:DataW.TrodAll enc Tryz.prog W 0 (λ_=>true) true Tryz.f3.params.toList args.toList ds p:=hA0;rw[Tryz.params3]at hA hval;obtain⟨v,d,rfl,rfl,hd⟩:=trodAll_one hA;obtain⟨rfl,rfl⟩:=trodVars_none hV;clear hA0;refine(Go.Ev.calls3 hL (hval 0 25 v rfl rfl) hd).mono λe W' ⟨he,hb⟩=>?_;subst he;refine⟨_,rfl,Go.Ev.post_of_below (pa:=p) (pv:=[]) hW' (λ_ _ _=>trodAll_cons_mk (shut_bool Tryz.underlying4 _) trodAll_mk0) (λsp hsp=>?_) (λ_ _=>rfl) rfl hb (ok_one (by kernel_rfl) rfl (okWide_bool_mk Tryz.underlying4 _))⟩;rw[Tryz.params3];exact trodAll_mk1 (Go.WideElems.Trod_stays Go.Ev.laidOut recP rowP hd (λx hx=>Go.Ev.below_place hb (hW'.lt x (by simpa using hx))) λx hx=>hsp x (by simpa using hx))
noncomputable abbrev Fa(x:Program->FuncId->Func->ChangeSpec->OpenClaim->Bool):Bool:=x Tryz.prog 3 Tryz.f3 Rows.familiesOfSpec Rows.familiesOfRow
def fa0:(Fa λP f fn s c=>c.wf (OpenSpec.ofChange s))=true:=by kernel_rfl
def fa1:(Fa λP f fn s c=>laidOutB P)=true:=by kernel_rfl
def fa2:(Fa λP f fn s c=>mapsRowed P)=true:=by kernel_rfl
def fa3:(Fa λP f fn s c=>fn.params.all (P.readableRec ·))=true:=by kernel_rfl
def fa4:(Fa λP f fn s c=>namedTie P c.named s.vars)=true:=by kernel_rfl
def fa5:(Fa λP f fn s c=>(c.stops==[]))=true:=by kernel_rfl
def fa6:(Fa λP f fn s c=>(P.stops==[]))=true:=by kernel_rfl
def fa7:(Fa λP f fn s c=>(c.knobs==[]))=true:=by kernel_rfl
def fa8:(Fa λP f fn s c=>(P.stopKnobs==[]))=true:=by kernel_rfl
def fa9:(Fa λP f fn s c=>(c.inPlace==P.inPlace f))=true:=by kernel_rfl
def fa10:(Fa λP f fn s c=>(c.unfollowed==P.unfollowed f))=true:=by kernel_rfl
def fa11:(Fa λP f fn s c=>(c.recurses==P.recurses f))=true:=by kernel_rfl
def fa12:(Fa λP f fn s c=>(c.named==P.varsNamed f))=true:=by kernel_rfl
def fa13:(Fa λP f fn s c=>(c.maps==(fn.params.toList++s.plain.varTypes P).any (P.mapsRec ·)))=true:=by kernel_rfl
def fa14:(Fa λP f fn s c=>(c.ifaces==(fn.params.toList++s.plain.varTypes P).any (P.ifacesRec ·)))=true:=by kernel_rfl
def fa15:(Fa λP f fn s c=>(c.mapsOut==P.mapsAmong fn.resultTypes.toList))=true:=by kernel_rfl
def fa16:(Fa λP f fn s c=>(c.loops==(fn.params.toList++s.plain.varTypes P).any (P.loopsFrom ·)))=true:=by kernel_rfl
def fa17:(Fa λP f fn s c=>(c.wideKeys==(fn.params.toList++s.plain.varTypes P++fn.resultTypes.toList).any (P.wideKeysFrom ·)))=true:=by kernel_rfl
def fa18:(Fa λP f fn s c=>s.vars.all (P.varReadable ·))=true:=by kernel_rfl
def fa19:(Fa λP f fn s c=>fn.resultTypes.all (λt=>P.readableRec t&&decide (t<P.types.size)))=true:=by kernel_rfl
def fa20:(Fa λP f fn s c=>(c.ifacesOut==fn.resultTypes.toList.any (P.ifacesRec ·)))=true:=by kernel_rfl
def fa21:(Fa λP f fn s c=>(c.loopsOut==fn.resultTypes.toList.any (P.loopsFrom ·)))=true:=by kernel_rfl
def fa22:(Fa λP f fn s c=>(c.plainKeys==P.plainKeys))=true:=by kernel_rfl
def fa23:(Fa λP f fn s c=>c.shortTexts.isNone)=true:=by kernel_rfl
def fa24:(Fa λP f fn s c=>P.stopsHeard)=true:=by kernel_rfl
def fa25:(Fa λP f fn s c=>P.mayEnter)=true:=by kernel_rfl
def fa26:(Fa λP f fn s c=>(c.lifted==P.liftsFinal))=true:=by kernel_rfl
def fa27:(Fa λP f fn s c=>(P.make==some c.make))=true:=by kernel_rfl
def fa28:(Fa λP f fn s c=>(c.kinds==(if c.domain.isEmpty then[]else fn.params.toList.map λt=>match P.underlying t with|some (.int k)=>some k|_=>none)))=true:=by kernel_rfl
def fa29:(Fa λP f fn s c=>(c.pinned==c.pinnedBy))=true:=by kernel_rfl
def fa30:(Fa λP f fn s c=>(c.veiled==(fn.params.toList++s.plain.varTypes P++fn.resultTypes.toList).any (P.veiledRec ·)))=true:=by kernel_rfl
def fa31:(Fa λP f fn s c=>c.veiledFits P fn.params.toList (fn.params.toList++s.plain.varTypes P++fn.resultTypes.toList))=true:=by kernel_rfl
theorem facts:joinedFacts Tryz.prog 3 Tryz.f3 Rows.familiesOfSpec Rows.familiesOfRow=true:=by
 unfold joinedFacts;simp only[zAa];exact⟨⟨⟨⟨⟨⟨⟨⟨⟨⟨⟨⟨⟨⟨⟨⟨⟨⟨⟨⟨⟨⟨⟨⟨⟨⟨⟨⟨⟨⟨⟨fa0,fa1⟩,fa2⟩,fa3⟩,fa4⟩,fa5⟩,fa6⟩,fa7⟩,fa8⟩,fa9⟩,fa10⟩,fa11⟩,fa12⟩,fa13⟩,fa14⟩,fa15⟩,fa16⟩,fa17⟩,fa18⟩,fa19⟩,fa20⟩,fa21⟩,fa22⟩,fa23⟩,fa24⟩,fa25⟩,fa26⟩,fa27⟩,fa28⟩,fa29⟩,fa30⟩,fa31⟩
end Go.Proofs.YtcffhjfdlflbgaaGreatDoor.fnFamiliesOf
end
section
namespace Go.Proofs.YtcffhjfdlflbgaaGreatDoor.fnFamiliesOf
open Go.ChangeShapes Go.WideShapes Go.ChangeAt Go.RowKit Go.Ev.Wit
def zero0:Value:=.agg #[.int .u8 0,.slice none 0 0,.int .u8 0,.int .u8 0,.int .u8 0]
abbrev args0:Array Value:=#[zero0]
noncomputable abbrev W0(os:Os):World:=(laidWorld os).forCall (λ_ _=>0) ⟨#[],args0,[]⟩
theorem laid_met(os:Os):laidMet Tryz.prog Rows.familiesOfRow.laid (W0 os).memory:=laidMet_of_run' 8 (by kernel_rfl) (by kernel_rfl)
theorem reads(os:Os){H:Type}(enc:TypeId×Value->H):∃x,DataW.whole enc Tryz.prog (W0 os).memory Tryz.f3.params.toList Rows.familiesOfSpec.vars false args0.toList 8=some x:=Option.isSome_iff_exists.1 (by kernel_rfl)
def shaped(os:Os):(W0 os).variablesRefB Tryz.checked.prog=true:=by kernel_rfl
def restB(os:Os):((W0 os).heap.toList.drop Tryz.checked.prog.globals.size).take ((begin Tryz.checked.prog (λ_ _=>0) default).world.heap.size - Tryz.checked.prog.globals.size)=(begin Tryz.checked.prog (λ_ _=>0) default).world.heap.toList.drop Tryz.checked.prog.globals.size:=by kernel_rfl
def argsB(os:Os):Input.okWideB Tryz.checked.prog (W0 os) 3 ⟨#[],args0,[]⟩=true:=by kernel_rfl
end Go.Proofs.YtcffhjfdlflbgaaGreatDoor.fnFamiliesOf
end
section
namespace Go.Proofs.YtcffhjfdlflbgaaGreatDoor.fnFamiliesOf
open Go.ChangeShapes Go.WideShapes Go.ChangeAt Go.RowKit
def own:ownKnob Tryz.prog.godebug=none:=by kernel_rfl
theorem lifted(os:Os)(started:os.Started)(H:Type)(enc:TypeId×Value->H)(F:Stop.Interp) :
 ReturnsInHanded {} Tryz.checked os 3 .any ((OpenSpec.ofChange Rows.familiesOfSpec).preRow enc Tryz.prog Tryz.f3 Rows.familiesOfRow.domain false Rows.familiesOfRow.laid) (((OpenSpec.ofChange Rows.familiesOfSpec).at F).post enc Tryz.prog Tryz.f3 false true false false):=by
 obtain⟨x,hx⟩:=reads os enc;refine returnsInHanded_of_row (C:=Tryz.checked) (s:=OpenSpec.ofChange Rows.familiesOfSpec) own started (by kernel_rfl) Tryz.func3
  (witness_row_atRef (enc:=enc) (C:=Tryz.checked) false (Go.Ev.Wit.laidWorld os) args0 rfl (shaped os) (restB os) (argsB os)
    (OpenSpec.preRow_of_cond 8 hx (by kernel_rfl) (λk hk=>by cases hk) (by kernel_rfl) (laid_met os))) ?_
 intro W base args ds gs before hval hW _ _ _ hL _ _;exact contract H enc W args ds gs before .any base hval hW hL
theorem said:Rows.FamiliesOfSaid:=
 OpenClaim.holds_of_cond 3 Tryz.f3 rfl rfl rfl rfl rfl rfl rfl ⟨rfl,rfl,rfl,rfl,rfl⟩ rfl rfl rfl rfl rfl (by kernel_rfl) Tryz.func3 facts
  (of_decide_eq_true (by kernel_rfl)) (by unfold Func.isWrapper;first|(rw[if_pos (by decide +kernel)];kernel_rfl)|(rw[if_neg (by decide +kernel)];exact⟨rfl,rfl⟩))
  (λos started H enc _ F=>by rw[OpenClaim.pre_eq_preRow];exact lifted os started H enc F)
def standB:Tryz.f3.params.all (λt=>!Tryz.prog.wantsStandIn t)=true:=by kernel_rfl
theorem plain(f:FuncId)(fn:Func)(hf:Tryz.pinned.checked.prog.funcNamed "circa/circalaw24.FamiliesOf" = some f)(hfn:Tryz.pinned.checked.prog.funcs[f]? = some fn) :
 true=Tryz.pinned.checked.prog.looks []/\∀(j:Nat) t,fn.params[j]? = some t->Tryz.pinned.checked.prog.wantsStandIn t=false:=by
 obtain rfl:f=3:=ν ((show Tryz.prog.funcNamed "circa/circalaw24.FamiliesOf" = some 3 by kernel_rfl).symm.trans hf) |>.symm
 obtain rfl:fn=Tryz.f3:=(ν (Tryz.func3.symm.trans hfn)).symm;refine⟨by kernel_rfl,λj t ht=>?_⟩;obtain⟨hj,e⟩:=Array.getElem?_eq_some_iff.1 ht;have:=(Array.all_eq_true.1 standB) j hj;rw[e]at this;have this:Tryz.prog.wantsStandIn t=false:=by simpa using this
 exact this
theorem card:Rows.FamiliesOfCardSaid:=
 Claim7.holds_tied_plain_at .later [] _ _ _ _ said (λ_ h=>by cases h) (by kernel_rfl) (λ_ h=>by cases h) familiesOf_row_tie rfl ⟨rfl,rfl⟩ (by kernel_rfl) rfl plain (by kernel_rfl)
#print axioms card
end Go.Proofs.YtcffhjfdlflbgaaGreatDoor.fnFamiliesOf
end
