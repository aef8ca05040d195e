/- For every argument that the row takes, circalaw24.FamiliesAny returns true, and the argument reads afterwards as it did: the card of FamiliesAny. Conditions: those of the card and its row (the package variables that it lists, as the program text lays them), and no others. -/
import Derived.Test.YtcffhjfdlflbgaaGreatDoorRows
import Derived.Test.YtcffhjfdlflbgaaGreatDoorP43
set_option linter.all false
open Option.some renaming inj->ν
open List renaming take->ξ,getElem?_eq_getElem->π
open Array renaming getElem?_toList->ο
set_option linter.all false
set_option maxRecDepth 100000
set_option maxHeartbeats 4000000
section
namespace Go.Ev
open Go Go.Proofs
def Ky:List AV×AV:=([dA [48,48,48,48] 0 0 [48,50] []],.d [MX 0 31 0 59,iA 0])
def Xp:pR tab nW 10000 75 Ky.1 Ky.2=true:=by kernel_rfl
def LW:List AV×AV:=([dA [48,48,48,48] 0 0 [] []],.d [MX 0 0 0 365,iA 0])
def Xo:pR tab nW 10000 205 LW.1 LW.2=true:=by kernel_rfl
def MD:List AV×AV:=([dA [48,48,48,49] 0 0 [48,49] []],.d [MX 0 366 0 396,iA 0])
def Wz:pR tab nW 10000 205 MD.1 MD.2=true:=by kernel_rfl
def Ki:List AV×AV:=([dA [48,48,48,48] 0 0 [] []],.d [MX 0 0 0 365,iA 0])
def Vm:pR tab nW 10000 75 Ki.1 Ki.2=true:=by kernel_rfl
def J5:List AV×AV:=([dA [48,48,48,48] 0 0 [48,51] []],.d [MX 0 60 0 90,iA 0])
def V8:pR tab nW 10000 205 J5.1 J5.2=true:=by kernel_rfl
def MO:List AV×AV:=([dA [48,48,48,48] 0 0 [48,52] []],.d [MX 0 91 0 120,iA 0])
def Xa:pR tab nW 10000 205 MO.1 MO.2=true:=by kernel_rfl
def LG:List AV×AV:=([dA [48,48,48,48] 0 0 [48,51] []],.d [MX 0 60 0 90,iA 0])
def V5:pR tab nW 10000 75 LG.1 LG.2=true:=by kernel_rfl
def LC:List AV×AV:=([dA [48,48,48,48] 0 0 [48,52] []],.d [MX 0 91 0 120,iA 0])
def Wj:pR tab nW 10000 75 LC.1 LC.2=true:=by kernel_rfl
def KC:List AV×AV:=([dA [48,48,48,48] 0 0 [48,50] [48,49]],iA 0)
def Vv:pR tab nW 10000 42 KC.1 KC.2=true:=by kernel_rfl
def Jx:List AV×AV:=([dA [48,48,48,48] 0 0 [48,50] [48,57]],iA 0)
def UL:pR tab nW 10000 42 Jx.1 Jx.2=true:=by kernel_rfl
def Fr:List AV×AV:=([iA 0],.d [iA 0,iA 1,iA 0])
def R9:pR tab nW 10000 225 Fr.1 Fr.2=true:=by kernel_rfl
def FU:List AV×AV:=([iA 31],.d [iA 0,iA 2,iA 0])
def RC:pR tab nW 10000 225 FU.1 FU.2=true:=by kernel_rfl
noncomputable def PN:EU:=(.a0 none (.a0 none (.a0 none .b0 (.a0 none .b0 (.a0 none (.a0 none (.a0 (some [Ky,Ki,LG,LC]) .b0 .b0) .b0) .b0))) (.a0 none (.a0 none (.a0 none (.a0 none .b0 (.a0 none .b0 (.a0 (some [Fr,FU]) .b0 .b0))) .b0) .b0) (.a0 none .b0 (.a0 none (.a0 none (.a0 none .b0 (.a0 (some [Ki,MD,LG,LC]) .b0 .b0)) .b0) .b0)))) (.a0 none .b0 (.a0 none (.a0 none .b0 (.a0 none (.a0 (some [KC,Jx]) .b0 .b0) .b0)) .b0)))
noncomputable def DB:cL:=EN nW PN
theorem JY(g:nG Tryz.prog tab nW):nL (λf l=>∀e∈l,gM Tryz.prog nW f e.1 e.2) (λi=>i) PN:=⟨aZ,⟨aZ,⟨aZ,trivial,⟨aZ,trivial,⟨aZ,⟨aZ,⟨(g7 (aD (g.a0 10000 Xp) (aD (g.a0 10000 Vm) (aD (g.a0 10000 V5) (aD (g.a0 10000 Wj) g_))))),trivial,trivial⟩,trivial⟩,trivial⟩⟩⟩,⟨aZ,⟨aZ,⟨aZ,⟨aZ,trivial,⟨aZ,trivial,⟨(g7 (aD (g.a0 10000 R9) (aD (g.a0 10000 RC) g_))),trivial,trivial⟩⟩⟩,trivial⟩,trivial⟩,⟨aZ,trivial,⟨aZ,⟨aZ,⟨aZ,trivial,⟨(g7 (aD (g.a0 10000 Xo) (aD (g.a0 10000 Wz) (aD (g.a0 10000 V8) (aD (g.a0 10000 Xa) g_))))),trivial,trivial⟩⟩,trivial⟩,trivial⟩⟩⟩⟩,⟨aZ,trivial,⟨aZ,⟨aZ,trivial,⟨aZ,⟨(g7 (aD (g.a0 10000 Vv) (aD (g.a0 10000 UL) g_))),trivial,trivial⟩,trivial⟩⟩,trivial⟩⟩⟩
theorem WA(g:nG Tryz.prog tab nW):nG Tryz.prog tab DB:=g.e0 λf l h=>(JY g).a0 f l h
def MC:List AV×AV:=([dA [48,48,48,48] 0 0 [48,51] [],dA [48,48,48,48] 0 0 [48,52] []],.b true)
def Vx:pR tab DB 10000 262 MC.1 MC.2=true:=by kernel_rfl
def JJ:List AV×AV:=([dA [48,48,48,48] 0 0 [48,50] [48,49]],.d [MX 0 31 0 31,iA 0])
def UG:pR tab DB 10000 205 JJ.1 JJ.2=true:=by kernel_rfl
def ajE:List AV×AV:=([dA [48,48,48,48] 0 0 [48,50] [48,57]],.d [MX 0 39 0 39,iA 0])
def Xg:pR tab DB 10000 205 ajE.1 ajE.2=true:=by kernel_rfl
def age:List AV×AV:=([dA [48,48,48,48] 0 0 [48,50] [48,49]],.d [MX 0 31 0 31,iA 0])
def amH:pR tab DB 10000 75 age.1 age.2=true:=by kernel_rfl
def afM:List AV×AV:=([dA [48,48,48,48] 0 0 [48,50] [48,57]],.d [MX 0 39 0 39,iA 0])
def amF:pR tab DB 10000 75 afM.1 afM.2=true:=by kernel_rfl
def ag9:List AV×AV:=([MX 0 0 0 31,.a .u8 2],.b false)
def anJ:pR tab DB 10000 44 ag9.1 ag9.2=true:=by kernel_rfl
noncomputable def Pw:EU:=(.a0 none (.a0 none (.a0 none .b0 (.a0 none .b0 (.a0 none (.a0 none (.a0 (some [age,afM]) .b0 .b0) .b0) .b0))) (.a0 none .b0 (.a0 none .b0 (.a0 none (.a0 none (.a0 none .b0 (.a0 (some [age,afM]) .b0 .b0)) .b0) .b0)))) (.a0 none (.a0 none .b0 (.a0 none .b0 (.a0 none (.a0 (some [ag9]) .b0 .b0) .b0))) (.a0 none .b0 (.a0 none (.a0 none (.a0 none (.a0 none (.a0 none (.a0 (some [MC]) .b0 .b0) .b0) .b0) .b0) .b0) .b0))))
noncomputable def Qz:cL:=EN DB Pw
theorem LD(g:nG Tryz.prog tab DB):nL (λf l=>∀e∈l,gM Tryz.prog DB f e.1 e.2) (λi=>i) Pw:=⟨aZ,⟨aZ,⟨aZ,trivial,⟨aZ,trivial,⟨aZ,⟨aZ,⟨(g7 (aD (g.a0 10000 amH) (aD (g.a0 10000 amF) g_))),trivial,trivial⟩,trivial⟩,trivial⟩⟩⟩,⟨aZ,trivial,⟨aZ,trivial,⟨aZ,⟨aZ,⟨aZ,trivial,⟨(g7 (aD (g.a0 10000 UG) (aD (g.a0 10000 Xg) g_))),trivial,trivial⟩⟩,trivial⟩,trivial⟩⟩⟩⟩,⟨aZ,⟨aZ,trivial,⟨aZ,trivial,⟨aZ,⟨(g7 (aD (g.a0 10000 anJ) g_)),trivial,trivial⟩,trivial⟩⟩⟩,⟨aZ,trivial,⟨aZ,⟨aZ,⟨aZ,⟨aZ,⟨aZ,⟨(g7 (aD (g.a0 10000 Vx) g_)),trivial,trivial⟩,trivial⟩,trivial⟩,trivial⟩,trivial⟩,trivial⟩⟩⟩⟩
theorem UV(g:nG Tryz.prog tab DB):nG Tryz.prog tab Qz:=g.e0 λf l h=>(LD g).a0 f l h
def Pk:List AV×AV:=([dA [48,48,48,48] 0 0 [48,50] [48,49],dA [48,48,48,48] 0 0 [48,50] [48,57]],.b true)
def Xd:pR tab Qz 10000 262 Pk.1 Pk.2=true:=by kernel_rfl
noncomputable def ajU:EU:=(.a0 none .b0 (.a0 none .b0 (.a0 none .b0 (.a0 none (.a0 none (.a0 none (.a0 none (.a0 none (.a0 (some [Pk]) .b0 .b0) .b0) .b0) .b0) .b0) .b0))))
noncomputable def als:cL:=EN Qz ajU
theorem aht(g:nG Tryz.prog tab Qz):nL (λf l=>∀e∈l,gM Tryz.prog Qz f e.1 e.2) (λi=>i) ajU:=⟨aZ,trivial,⟨aZ,trivial,⟨aZ,trivial,⟨aZ,⟨aZ,⟨aZ,⟨aZ,⟨aZ,⟨(g7 (aD (g.a0 10000 Xd) g_)),trivial,trivial⟩,trivial⟩,trivial⟩,trivial⟩,trivial⟩,trivial⟩⟩⟩⟩
theorem ang(g:nG Tryz.prog tab Qz):nG Tryz.prog tab als:=g.e0 λf l h=>(aht g).a0 f l h
def ajJ:List AV×AV:=([],.b true)
def amy:pR tab als 10000 12 ajJ.1 ajJ.2=true:=by kernel_rfl
end Go.Ev
end
section
namespace Go.Ev
open Go Go.Proofs Go.Proofs.YtcffhjfdlflbgaaGreatDoor
variable{w:World}
theorem iN{P:Program}{w:World}:∀{l:List (String×DataW Unit)} {ps:List MemPlace},DataW.LaidVars P w l ps->∀(i:Nat) (n:String) (d:DataW Unit),l[i]? = some (n,d)->
 ∃g t cs fuel p,P.globalNamed n=some g/\(P.globals[g]?).map (·.type)=some t/\w.var? P n=some cs/\DataW.trod (λ_=>()) P w 0 (λ_=>true) false fuel t cs.toList=some (d,p)/\∀x∈MemPlace.row ⟨g,0,none⟩ cs.size,x∈ps
 | [],ps,_,i,n,d,hd=>by simp at hd
 | (n0,d0)::r,ps,h,i,n,d,hd=>by
   obtain⟨g,t,cs,fuel,p,q,h1,h2,h3,h4,h5,rfl⟩:=h;cases i with
   | zero=>
     simp only[List.getElem?_cons_zero,zAb,Prod.mk.injEq]at hd;obtain⟨rfl,rfl⟩:=hd;exact⟨g,t,cs,fuel,p,h1,h2,h3,h4,λx hx=>by simp[hx]⟩
   | succ i=>
     obtain⟨g',t',cs',fuel',p',k1,k2,k3,k4,k5⟩:=iN h5 i n d (by simpa using hd);exact⟨g',t',cs',fuel',p',k1,k2,k3,k4,λx hx=>by simp[k5 x hx]⟩
def GU(x y:Int):DataW Unit:=.agg [.lit (.int .i64 x),.lit (.int .i64 y)]
def ab9:List Int->List (DataW Unit)
 | x::y::r=>GU x y::ab9 r
 | _=>[]
theorem AJ{x y a b:Int}(h:GU x y=.agg [.lit (.int .i64 a),.lit (.int .i64 b)]):x=a/\y=b:=by
 simpa [GU]using h
theorem oq:∀{l:List Int},l.length%2=0->∀(i:Nat) (v:Int),l[i]? = some v->∃x y,(ab9 l)[i/2]? = some (GU x y)/\(i%2=0->v=x)/\(i%2=1->v=y)
 | [],_,i,v,h=>by simp at h
 | [x],h,i,v,_=>by simp at h
 | x::y::r,h,0,v,hv=>⟨x,y,rfl,λ_=>by simpa using hv.symm,λh=>by simp at h⟩
 | x::y::r,h,1,v,hv=>⟨x,y,rfl,λh=>by simp at h,λ_=>by simpa using hv.symm⟩
 | x::y::r,h,i+2,v,hv=>by
   obtain⟨a,b,h1,h2,h3⟩:=oq (l:=r) (by simp at h;omega) i v (by simpa using hv);refine⟨a,b,?_,λe=>h2 (by omega),λe=>h3 (by omega)⟩;rw[show(i+2)/2=i/2+1 by omega,ab9,List.getElem?_cons_succ];exact h1
noncomputable def abA:List (String×DataW Unit):=Rows.familiesOfRow.laid
theorem laid_met(h:laidMetH Tryz.prog abA w):laidMet Tryz.prog abA w:=by
 unfold laidMetH at h;have e:(abA.filter λx=>x.2.handleName?.isSome)=[]:=by kernel_rfl
 rw[e]at h;exact h
theorem N0(h:laidMet Tryz.prog abA w):∀i v,XQ[i]? = some v->w.cell? ⟨1,i,none⟩=some (.int .i64 v):=by
 obtain⟨ps,hv,_,_⟩:=h;obtain⟨g,t,cs,fuel,p,h1,h2,h3,h4,_⟩:=iN hv 7 "circa/months.lengths" Rows.laid_circa_months_lengths rfl;obtain rfl:1=g:=ν ((show Tryz.prog.globalNamed "circa/months.lengths" = some 1 by kernel_rfl).symm.trans h1);obtain rfl:349=t:=ν ((show(Tryz.prog.globals[1]?).map (·.type)=some 349 by kernel_rfl).symm.trans h2);have hc:=Lib.cells_of_tab (zs:=XQ) (k:=.i64) Tryz.underlying349 Tryz.underlying3 (by kernel_rfl) (by kernel_rfl) h4;intro i v hi;rw[World.var?_cell (by kernel_rfl:Tryz.prog.globalNamed "circa/months.lengths" = some 1) h3 i,<-ο,hc,List.getElem?_map,hi];rfl
theorem KT(h:laidMet Tryz.prog abA w):∀i v,XU[i]? = some v->w.cell? ⟨2,i,none⟩=some (.int .i64 v):=by
 obtain⟨ps,hv,_,_⟩:=h;obtain⟨g,t,cs,fuel,p,h1,h2,h3,h4,_⟩:=iN hv 8 "circa/seasons.spans" Rows.laid_circa_seasons_spans rfl;obtain rfl:2=g:=ν ((show Tryz.prog.globalNamed "circa/seasons.spans" = some 2 by kernel_rfl).symm.trans h1);obtain rfl:352=t:=ν ((show(Tryz.prog.globals[2]?).map (·.type)=some 352 by kernel_rfl).symm.trans h2);have h4:DataW.trod (λ_=>()) Tryz.prog w 0 (λ_=>true) false fuel 352 cs.toList=some (.agg (ab9 XU),p):=h4;have hc:=D8 Tryz.underlying352 Tryz.underlying351 rfl rfl Tryz.underlying3 Tryz.underlying3 rfl rfl (by kernel_rfl) (by kernel_rfl) (by kernel_rfl) h4;intro i v hi;rw[World.var?_cell (by kernel_rfl:Tryz.prog.globalNamed "circa/seasons.spans" = some 2) h3 i,<-ο];obtain⟨x,y,hd,hx,hy⟩:=oq rfl i v hi;obtain⟨a,b,he,ha,hb⟩:=hc _ _ hd;obtain⟨rfl,rfl⟩:=AJ he;rcases Nat.mod_two_eq_zero_or_one i with h2|h2
 . rw[hx h2,<-ha,show 2*(i/2)=i by omega]
 . rw[hy h2,<-hb,show 2*(i/2)+1=i by omega]
theorem My(h:laidMet Tryz.prog abA w):∃b o,w.cell? ⟨5,0,none⟩=some (.slice (some ⟨b,o,none⟩) 3 3)/\∀i v,XP[i]? = some v->w.cell? ⟨b,o+i,none⟩=some (.int .i64 v):=by
 obtain⟨ps,hv,_,_⟩:=h;obtain⟨g,t,cs,fuel,p,h1,h2,h3,h4,_⟩:=iN hv 6 "circa/years.steps" Rows.laid_circa_years_steps rfl;obtain rfl:5=g:=ν ((show Tryz.prog.globalNamed "circa/years.steps" = some 5 by kernel_rfl).symm.trans h1);obtain rfl:367=t:=ν ((show(Tryz.prog.globals[5]?).map (·.type)=some 367 by kernel_rfl).symm.trans h2);have h4:DataW.trod (λ_=>()) Tryz.prog w 0 (λ_=>true) false fuel 367 cs.toList=some (.slice (ab9 XP) [],p):=h4;obtain⟨b,o,hcs,hc⟩:=zK Tryz.underlying367 Tryz.underlying368 rfl rfl Tryz.underlying2 Tryz.underlying2 rfl rfl (by kernel_rfl) (by kernel_rfl) (by kernel_rfl) (by decide) h4;refine⟨b,o,?_,λi v hi=>?_⟩
 . rw[World.var?_cell (by kernel_rfl:Tryz.prog.globalNamed "circa/years.steps" = some 5) h3 0,<-ο,hcs];rfl
 . obtain⟨x,y,hd,hx,hy⟩:=oq rfl i v hi;obtain⟨a,b',he,ha,hb⟩:=hc _ _ hd;obtain⟨rfl,rfl⟩:=AJ he;rcases Nat.mod_two_eq_zero_or_one i with h2|h2
   . rw[hx h2,<-ha,show 2*(i/2)=i by omega]
   . rw[hy h2,<-hb,show 2*(i/2)+1=i by omega]
theorem Mh(h:laidMet Tryz.prog abA w){i g:Nat}{n:String}{text:List UInt8}(hi:abA[i]? = some (n,.iface "*errors.errorString" (.ptr (.agg [.lit (.string text)]))))(hg:Tryz.prog.globalNamed n=some g)(ht:(Tryz.prog.globals[g]?).map (·.type)=some 259) :
 (∃b o,w.cell? ⟨g,0,none⟩=some (.iface 376 (.pointer (some ⟨b,o,none⟩))))/\∀c e fz,w.heap[g]? = some (.cells c e fz)->c.size=1:=by
 obtain⟨ps,hv,_,hps⟩:=h;obtain⟨g',t,cs,fuel,p,h1,h2,h3,h4,h5⟩:=iN hv i n _ hi;obtain rfl:g=g':=ν (hg.symm.trans h1);obtain rfl:259=t:=ν (ht.symm.trans h2);obtain⟨a,s,hcs,hcell,_⟩:=errorString_of_trod Tryz.underlying259 (λu hu=>typeName_ptr_named (nm := "errors.errorString") (by kernel_rfl) (by kernel_rfl) (by decide) u hu) Tryz.underlying376 Tryz.underlying378 rfl rfl Tryz.underlying9 (by kernel_rfl) (by kernel_rfl) h4 (λu v e=>by
  have hc0:w.cell? ⟨g,0,none⟩=some (.iface u v):=by
   rw[World.var?_cell hg h3 0,<-ο,e];rfl
  have hsz:cs.size=1:=by
   have:=congrArg List.length e;simpa using this
  exact(hps g 0 (h5 _ (by rw[hsz];simp[MemPlace.row]))).2 u v hc0)
 obtain⟨b,o,sp⟩:=a;have hsp:sp=none:=by
  unfold World.cell? at hcell;cases sp with
  | none=>rfl
  | some v=>split at hcell<;>simp at hcell
 subst hsp;refine⟨⟨b,o,by rw[World.var?_cell hg h3 0,<-ο,hcs];rfl⟩,λc e fz hb=>?_⟩;have h3':=h3;unfold World.var? at h3';rw[hg]at h3';simp only[Option.bind_some,hb,zAb]at h3';have:=congrArg List.length hcs;rw[h3'];simpa using this
theorem JA(h:laidMetH Tryz.prog abA w):Pr w:=by
 have h:=laid_met h;have hS:=Mh h (i:=5) (g:=3) (n := "strconv.ErrSyntax") rfl (by kernel_rfl) (by kernel_rfl);have hR:=Mh h (i:=4) (g:=4) (n := "strconv.ErrRange") rfl (by kernel_rfl) (by kernel_rfl);exact⟨My h,N0 h,KT h,hS.1,hR.1,hS.2,hR.2⟩
end Go.Ev
end
section
namespace Go.Ev
open Go Go.Proofs Go.ChangeShapes
variable{b i:Nat}{ws:List cD}{w:World}
theorem GT{α:Type}{d:α}{Q:Nat->α->Prop}:∀{n:Nat},(∀i,i<n->∃a,Q i a)->∃l:List α,l.length=n/\∀i,i<n->Q i (l.getD i d)
 | 0,_=>⟨[],rfl,λi hi=>absurd hi (Nat.not_lt_zero _)⟩
 | n+1,h=>by
   obtain⟨l,hl,hq⟩:=GT (n:=n) (d:=d) λi hi=>h i (by omega);obtain⟨a,ha⟩:=h n (by omega);refine⟨l++[a],by grind,λi hi=>?_⟩;grind
theorem K3{o:Nat}:(⟨b,o,none⟩:Addr).add i=⟨b,o+i,none⟩:=by
 grind [Addr.add]
theorem Ka{k:IntKind}{n:Int}(h:(Lit.int k n).wf):k.min<=n/\n<=k.max:=by
 grind [Lit.wf]
theorem KR(h:i<14+ws.length):(fa (Cw cfg ws) ⟨0,[],[]⟩ i).isSome->False:=by
 intro hs;unfold fa at hs;have:(Cw cfg ws).lo=14+ws.length:=rfl;rw[jT (by omega),cond_false]at hs;cases hs
theorem Dk{f:FuncId}{fn:Func}{av:List AV}{m:Nat->bv}(hfn:Tryz.prog.funcs[f]? = some fn)(h4:(fn.name == "runtime.NumGoroutine")=false)(h5:fn.body.isNone=false)(hf:bu Tryz.prog cfg f av ws (.b true) [])(hi:dX cfg (λid=>id<14+ws.length) m (Cw cfg ws) ⟨0,[],[]⟩ w)(ho:fM (λid=>id<14+ws.length) m av) :
 Calls Tryz.prog f (ap m av).toArray w λe w'=>e=.returned (.bool true)/\RowKit.Below w.heap.size w w':=by
 rcases hf _ m w hi ho with⟨_,h⟩|⟨v,w',hv,_⟩
 . refine h.mono ?_;rintro e w' ⟨v,rfl,D',m',rfl,_,he⟩;exact⟨rfl,he.os,he.j0,he.d0,he.i0,λk hk=>he.g0 k hk λi hi ho=>(KR hi ho).elim⟩
 . exfalso;have h6:¬fn.name = "runtime.NumGoroutine" := by grind
   have h7:¬fn.body=none:=λe=>by grind
   simp_all [callFunc]
theorem JZ{m:Nat->bv}(hi:dX cfg (λid=>id<14) m C0 ⟨0,[],[]⟩ w){L:List bv}(hL:M0 cfg.a0.n (λid=>id<14) m w L ws):dX cfg (λid=>id<14+ws.length) (mL cfg.a0.n m L) (Cw cfg ws) ⟨0,[],[]⟩ w:=by
 have h:=Lk eb.lv Az hi hL;have e:DL cfg.a0.n (λid=>id<14) L=λid=>id<14+ws.length:=by
  funext id
  unfold DL;have:=hL.1;have h14:cfg.a0.n=14:=rfl;grind
 grind
theorem vY:Tryz.prog.cellsOf 5=1:=by rfl
theorem P8:Tryz.prog.cellsOf 4=1:=by rfl
theorem ap1:Tryz.prog.cellsOf 28=3:=by rfl
theorem md{α:Type}{l:List α}{n:Nat}{y:Option α}(h:y=l[i]?)(hl:l.length=n)(hi:i<n):∃a,y=some a:=⟨_,h.trans (π (by omega))⟩
theorem M9{cfg':cL}{f:FuncId}{args:List AV}{v:AV}(hG:cfg.G=cfg'.G)(hr:cfg.a0=cfg'.a0)(h:gM Tryz.prog cfg' f args v):gM Tryz.prog cfg f args v:=λC D m o w hi hok=>
 (h C D m o w (dX.to (cfg:=cfg) (cfg':=cfg') hG.symm hr.symm hi) hok).a0 λV w' ⟨h1,h2,h3,h4⟩=>⟨h1,h2,dw.to (cfg:=cfg') (cfg':=cfg) hG hr h3,h4⟩
theorem akg:gM Tryz.prog cfg 12 [] (.b true):=M9 (cfg':=als) rfl rfl ((ang (UV (WA (Uz eb)))).a0 10000 amy)
theorem bJ:bu Tryz.prog cfg 12 [] [] (.b true) []:=λD m w hi hok=>(akg (Cw cfg []) D m ⟨0,[],[]⟩ w hi hok).a0 λV w' ⟨h1,h2,h3,_⟩=>⟨D,m,h1,h2,h3⟩
section
variable{P:Program}{w:World}{r:Reach}{b0:Nat}{t:TypeId}{v:Value}
theorem EP{e:TypeId}(ht:P.underlying t=some (.slice e))(h:Cell.okWide P w r b0 t v):v=.slice none 0 0\/∃b o len cap c el fz,v=.slice (some ⟨b,o,none⟩) len cap/\w.heap[b]? = some (.cells c el fz):=by
 unfold Cell.okWide Cell.ok at h;rw[ht]at h;cases v<;>first|exact h.elim|skip
 rename_i a len cap;cases a with
 | none=>
   grind
 | some a=>
   right
   obtain⟨_,_,_,h4,row,cells,h5,_⟩:=h;obtain⟨b,o,sp⟩:=a;simp only at h4 h5;subst h4;grind [World.shape?]
end
def BW{H:Type}(t:TypeId)(d:DataW H):Prop:=∀n∈d.weights Tryz.prog t,n<=reachBytes
theorem Yt{H:Type}{t:TypeId}{d:DataW H}{n:Nat}:∀{l:List (DataW H)},d∈l->n∈d.weights Tryz.prog t->n∈DataW.weightsAll Tryz.prog t l
 | x::r,h,hn=>by
   simp only[DataW.weightsAll,List.mem_append];cases List.mem_cons.1 h with
   | inl e=>subst e;exact Or.inl hn
   | inr e=>exact Or.inr (Yt e hn)
section
variable{P:Program}{w:World}{r:Reach}{b0:Nat}
theorem VM:∀{ts:List TypeId} {l:List Value} {i:Nat} {t:TypeId} {v:Value},akj P w r b0 ts l->ts[i]? = some t->l[i]? = some v->Cell.okWide P w r b0 t v
 | t::ts,v::vs,0,_,_,h,ht,hv=>by cases ht;cases hv;exact h.1
 | t::ts,v::vs,i+1,_,_,h,ht,hv=>VM h.2 ht hv
end
theorem XY:Tryz.prog.cellsOf 30=10:=by rfl
theorem ady:Tryz.prog.cellsOf 27=5:=by rfl
theorem co3:Tryz.prog.cellsOf 3=1:=by rfl
theorem co9:Tryz.prog.cellsOf 9=1:=by rfl
theorem aaA:Tryz.prog.cellsOf 32=11:=by rfl
theorem adD:Tryz.prog.cellsOf 33=1:=by rfl
theorem aaG:Tryz.prog.cellsOf 80=21:=by rfl
theorem aaE:Tryz.prog.cellsOf 35=36:=by rfl
def It.a0(x:It):List AV:=x.f.cs++.b x.r::x.t.cs
section
variable{H:Type}{enc:TypeId×Value->H}{w:World}{sp:Nat->Bool}{held:Bool}{fuel:Nat}{cs:List Value}{x:DataW H×List MemPlace}{t:TypeId}
theorem fld{fs:Array Field}(ht:Tryz.prog.underlying t=some (.struct fs))(h:DataW.trod enc Tryz.prog w 0 sp held fuel t cs=some x)(hb:BW t x.1):cs.length=Tryz.prog.cellsOf t/\∃n,∀(i:Nat) (f:Field),fs[i]? = some f->∃y,DataW.trod enc Tryz.prog w 0 sp held n f.type ((cs.drop f.offset).take (Tryz.prog.cellsOf f.type))=some y/\BW f.type y.1:=by
 obtain⟨xs,n,_,rfl,hl,hxl,hf⟩:=DataW.trod_struct ht h;refine⟨hl,n,λi f hi=>?_⟩;have hi':i<xs.length:=by rw[hxl];exact(Array.getElem?_eq_some_iff.1 hi).1
 refine⟨xs[i],(hf i f hi).trans (π hi'),λk hk=>hb k ?_⟩;simp only[DataW.weights,ht];exact DataW.weights_mem_each (j:=i) (by simp[hi]) (by simp[hi']) k hk
theorem qm(h:DataW.trod enc Tryz.prog w 0 sp held fuel 5 cs=some x):∃n,cs=[.int .u8 n]/\0<=n/\n<=255:=by
 obtain⟨n,hn,_,hw⟩:=DataW.trod_int Tryz.underlying5 h;exact⟨n,hn,Ka hw⟩
theorem rd8(h:DataW.trod enc Tryz.prog w 0 sp held fuel 5 cs=some x):∃n,cs=[.int .u8 n]/\af .u8 n=true:=by
 obtain⟨n,e,h1⟩:=qm h;exact⟨n,e,aai h1⟩
theorem rd6(h:DataW.trod enc Tryz.prog w 0 sp held fuel 3 cs=some x):∃n,cs=[.int .i64 n]/\af .i64 n=true:=by
 obtain⟨n,hn,_,hw⟩:=DataW.trod_int Tryz.underlying3 h;exact⟨n,hn,by rw[aE];exact Ka hw⟩
theorem rdS(h:DataW.trod enc Tryz.prog w 0 sp held fuel 9 cs=some x)(hb:BW 9 x.1):∃s:List UInt8,cs=[.string ⟨⟨s⟩⟩]/\Nat.ble s.length 140737488351232=true:=by
 obtain⟨s,rfl,rfl,_⟩:=DataW.trod_string Tryz.underlying9 h;refine⟨s.data.toList,rfl,al.mpr (hb _ ?_)⟩;simp only[DataW.weights];exact List.mem_singleton.2 rfl
theorem AS(h:DataW.trod enc Tryz.prog w 0 sp held fuel 30 cs=some x)(hb:BW 30 x.1):∃D:Da,rk D/\∀m,cs=D.cs.map (aj m):=by
 obtain⟨hl,n,hf⟩:=fld Tryz.underlying30 h hb;rw[XY]at hl
 match cs,hl with
 | [c0,c1,c2,c3,c4,c5,c6,c7,c8,c9],_=>
   obtain⟨_,hY,bY⟩:=hf 0 _ rfl;obtain⟨_,hM,bM⟩:=hf 1 _ rfl;obtain⟨_,hD,bD⟩:=hf 2 _ rfl;obtain⟨_,hK,-⟩:=hf 3 _ rfl;change DataW.trod enc Tryz.prog w 0 sp held n 27 (ξ (Tryz.prog.cellsOf 27) _)=_ at hY;change DataW.trod enc Tryz.prog w 0 sp held n 9 (ξ (Tryz.prog.cellsOf 9) _)=_ at hM hD;change DataW.trod enc Tryz.prog w 0 sp held n 28 (ξ (Tryz.prog.cellsOf 28) _)=_ at hK;rw[ady]at hY;rw[co9]at hM hD;rw[ap1]at hK;obtain⟨mo,e5,r5⟩:=rdS hM bM;obtain⟨da,e6,r6⟩:=rdS hD bD;obtain⟨ks,k,_,_,_,hkl,hk⟩:=DataW.trod_array Tryz.underlying28 hK;rw[vY]at hk;obtain⟨_,h7⟩:=md (hk 0 (by decide)) hkl (by decide);obtain⟨_,h8⟩:=md (hk 1 (by decide)) hkl (by decide);obtain⟨_,h9⟩:=md (hk 2 (by decide)) hkl (by decide);obtain⟨m7,e7,r7⟩:=rd8 h7;obtain⟨m8,e8,r8⟩:=rd8 h8;obtain⟨m9,e9,r9⟩:=rd8 h9;obtain⟨-,j,hy⟩:=fld Tryz.underlying27 hY bY;obtain⟨_,h0,-⟩:=hy 0 _ rfl;obtain⟨_,h1,-⟩:=hy 1 _ rfl;obtain⟨_,h2,b2⟩:=hy 2 _ rfl;obtain⟨_,h3,-⟩:=hy 3 _ rfl;obtain⟨_,h4,-⟩:=hy 4 _ rfl;change DataW.trod enc Tryz.prog w 0 sp held j 4 (ξ (Tryz.prog.cellsOf 4) _)=_ at h0 h1;change DataW.trod enc Tryz.prog w 0 sp held j 9 (ξ (Tryz.prog.cellsOf 9) _)=_ at h2;change DataW.trod enc Tryz.prog w 0 sp held j 3 (ξ (Tryz.prog.cellsOf 3) _)=_ at h3 h4;rw[P8]at h0 h1;rw[co9]at h2;rw[co3]at h3 h4;obtain⟨m0,e0,_⟩:=DataW.trod_bool Tryz.underlying4 h0;obtain⟨m1,e1,_⟩:=DataW.trod_bool Tryz.underlying4 h1;obtain⟨s,e2,r2⟩:=rdS h2 b2;obtain⟨m3,e3,r3⟩:=rd6 h3;obtain⟨m4,e4,r4⟩:=rd6 h4;cases e0;cases e1;cases e2;cases e3;cases e4;cases e5;cases e6;cases e7;cases e8;cases e9;refine⟨⟨m0,m1,s,m3,m4,mo,da,m7,m8,m9⟩,?_,λm=>rfl⟩;unfold rk;rw[r2,r5,r6,r3,r4,r7,r8,r9];rfl
theorem rdB(h:DataW.trod enc Tryz.prog w 0 sp held fuel 32 cs=some x)(hb:BW 32 x.1):∃(k:Int) (D:Da),rk D/\∀m,cs=.int .u8 k::D.cs.map (aj m):=by
 obtain⟨hl,n,hf⟩:=fld Tryz.underlying32 h hb;rw[aaA]at hl
 match cs,hl with
 | [c0,c1,c2,c3,c4,c5,c6,c7,c8,c9,c10],_=>
   obtain⟨_,h1,-⟩:=hf 0 _ rfl;obtain⟨_,h2,b2⟩:=hf 1 _ rfl;change DataW.trod enc Tryz.prog w 0 sp held n 5 (ξ (Tryz.prog.cellsOf 5) _)=_ at h1;change DataW.trod enc Tryz.prog w 0 sp held n 30 (ξ (Tryz.prog.cellsOf 30) _)=_ at h2;rw[vY]at h1;rw[XY]at h2;obtain⟨k,e1,_⟩:=rd8 h1;obtain⟨D,g,e2⟩:=AS h2 b2;cases e1;exact⟨k,D,g,λm=>congrArg _ (e2 m)⟩
theorem jU(h:DataW.trod enc Tryz.prog w 0 sp held fuel 80 cs=some x)(hb:BW 80 x.1):∃X:It,Va X/\∀m,cs=X.a0.map (aj m):=by
 obtain⟨hl,n,hf⟩:=fld Tryz.underlying80 h hb;rw[aaG]at hl
 match cs,hl with
 | [c0,c1,c2,c3,c4,c5,c6,c7,c8,c9,c10,c11,c12,c13,c14,c15,c16,c17,c18,c19,c20],_=>
   obtain⟨_,h1,b1⟩:=hf 0 _ rfl;obtain⟨_,h2,-⟩:=hf 1 _ rfl;obtain⟨_,h3,b3⟩:=hf 2 _ rfl;change DataW.trod enc Tryz.prog w 0 sp held n 30 (ξ (Tryz.prog.cellsOf 30) _)=_ at h1 h3;change DataW.trod enc Tryz.prog w 0 sp held n 4 (ξ (Tryz.prog.cellsOf 4) _)=_ at h2;rw[XY]at h1 h3;rw[P8]at h2;obtain⟨D,g1,e1⟩:=AS h1 b1;obtain⟨r,e2,_⟩:=DataW.trod_bool Tryz.underlying4 h2;obtain⟨T,g3,e3⟩:=AS h3 b3;cases e2;refine⟨⟨D,r,T⟩,by unfold Va;rw[g1,g3];rfl,λm=>?_⟩;have e1:[c0,c1,c2,c3,c4,c5,c6,c7,c8,c9]=_:=e1 m;have e3:[c11,c12,c13,c14,c15,c16,c17,c18,c19,c20]=_:=e3 m;show[c0,c1,c2,c3,c4,c5,c6,c7,c8,c9]++.bool r::[c11,c12,c13,c14,c15,c16,c17,c18,c19,c20]=_;rw[e1,e3];rfl
theorem rdX(h:DataW.trod enc Tryz.prog w 0 sp held fuel 35 cs=some x)(hb:BW 35 x.1):∃(k:Int) (d:Da) (k1:Int) (p:Da) (k2:Int) (q:Da) (sv:Value) (ea la:Bool),rk d/\rk p/\rk q/\(∃n y,DataW.trod enc Tryz.prog w 0 sp held n 33 [sv]=some y/\BW 33 y.1)/\cs[33]? = some sv/\∀m A,aj m A=sv->ap m (aaa k d k1 p k2 q A ea la)=cs:=by
 obtain⟨hl,n,hf⟩:=fld Tryz.underlying35 h hb;rw[aaE]at hl
 match cs,hl with
 | c0::c1::c2::c3::c4::c5::c6::c7::c8::c9::c10::c11::c12::c13::c14::c15::c16::c17::c18::c19::c20::c21::c22::c23::c24::c25::c26::c27::c28::c29::c30::c31::c32::c33::c34::c35::[],_=>
   obtain⟨_,h0,-⟩:=hf 0 _ rfl;obtain⟨_,h1,b1⟩:=hf 1 _ rfl;obtain⟨_,h2,b2⟩:=hf 2 _ rfl;obtain⟨_,h3,b3⟩:=hf 3 _ rfl;obtain⟨y4,h4,b4⟩:=hf 4 _ rfl;obtain⟨_,h5,-⟩:=hf 5 _ rfl;obtain⟨_,h6,-⟩:=hf 6 _ rfl;change DataW.trod enc Tryz.prog w 0 sp held n 5 (ξ (Tryz.prog.cellsOf 5) _)=_ at h0;change DataW.trod enc Tryz.prog w 0 sp held n 30 (ξ (Tryz.prog.cellsOf 30) _)=_ at h1;change DataW.trod enc Tryz.prog w 0 sp held n 32 (ξ (Tryz.prog.cellsOf 32) _)=_ at h2 h3;change DataW.trod enc Tryz.prog w 0 sp held n 33 (ξ (Tryz.prog.cellsOf 33) _)=_ at h4;change DataW.trod enc Tryz.prog w 0 sp held n 4 (ξ (Tryz.prog.cellsOf 4) _)=_ at h5 h6;rw[vY]at h0;rw[XY]at h1;rw[aaA]at h2 h3;rw[adD]at h4;rw[P8]at h5 h6;obtain⟨k,e0,_⟩:=rd8 h0;obtain⟨d,g1,e1⟩:=AS h1 b1;obtain⟨k1,p,g2,e2⟩:=rdB h2 b2;obtain⟨k2,q,g3,e3⟩:=rdB h3 b3;obtain⟨ea,e5,_⟩:=DataW.trod_bool Tryz.underlying4 h5;obtain⟨la,e6,_⟩:=DataW.trod_bool Tryz.underlying4 h6;cases e0;cases e5;cases e6;refine⟨k,d,k1,p,k2,q,c33,ea,la,g1,g2,g3,⟨n,y4,h4,b4⟩,rfl,λm A hA=>?_⟩;subst hA;have e1:[c1,c2,c3,c4,c5,c6,c7,c8,c9,c10]=_:=e1 m;have e2:[c11,c12,c13,c14,c15,c16,c17,c18,c19,c20,c21]=_:=e2 m;have e3:[c22,c23,c24,c25,c26,c27,c28,c29,c30,c31,c32]=_:=e3 m;show _=.int .u8 k::([c1,c2,c3,c4,c5,c6,c7,c8,c9,c10]++([c11,c12,c13,c14,c15,c16,c17,c18,c19,c20,c21]++([c22,c23,c24,c25,c26,c27,c28,c29,c30,c31,c32]++[aj m A,.bool ea,.bool la])));rw[e1,e2,e3];rfl
end
theorem VK{m:Nat->bv}:∀{G:List It} {f:Nat->Option Value},(∀q,q<G.length->∀j,j<21->f (q*21+j)=((G.getD q fP).a0.map (aj m))[j]?)->∀i v,(dp G)[i]? = some v->f i=some (aj m v)
 | [],f,_,i,v,hv=>by simp[dp]at hv
 | x::xs,f,h,i,v,hv=>by
   have hl:x.a0.length=21:=rfl;have hv:(x.a0++dp xs)[i]? = some v:=hv;by_cases hi:i<21
   . have h1:=h 0 (by simp) i hi;grind
   . rw[List.getElem?_append_right (by omega),hl]at hv;have:=VK (m:=m) (f:=λn=>f (n+21)) (λq hq j hj=>by
      have:=h (q+1) (by grind) j hj;grind) (i-21) v hv
     grind
section
variable{H:Type}{enc:TypeId×Value->H}{w:World}{sp:Nat->Bool}{held:Bool}
theorem rdL{fuel o len cap:Nat}{x:DataW H×List MemPlace}(h:DataW.trod enc Tryz.prog w 0 sp held fuel 33 [.slice (some ⟨b,o,none⟩) len cap]=some x)(hb:BW 33 x.1) :
 ∃G:List It,G.length=len/\len<=cap/\ZT G/\∀m i v,(dp G)[i]? = some v->w.cell? ⟨b,o+i,none⟩=some (aj m v):=by
 rcases DataW.trod_slice Tryz.underlying33 h with⟨h1,_⟩|⟨a,len',cap',elems,rest,n,_,h1,rfl,_,hcap,_,hel,hat,_⟩
 . grind
 . cases h1;rw[aaG]at hat;have main:∀i,i<len->∃X:It,Va X/\∀j,j<21->∀m,w.cell? ⟨b,o+(i*21+j),none⟩=(X.a0.map (aj m))[j]? := by
    intro i hi;have h3:=hat i hi;rw[π (by omega)]at h3;obtain⟨cs',hcs,htr⟩:=Option.bind_eq_some_iff.1 h3;obtain⟨X,hX,he⟩:=jU htr λk hk=>hb k (by
     simp only[DataW.weights,Tryz.underlying33];exact List.mem_cons_of_mem _ (List.mem_append_left _ (Yt (List.mem_map_of_mem (List.getElem_mem _)) hk)))
    refine⟨X,hX,λj hj m=>?_⟩;obtain⟨_,_,hcell⟩:=World.cells?_some hcs;rw[<-he m];grind [K3]
   obtain⟨G,hR,hq⟩:=GT (d:=fP) main;exact⟨G,hR,hcap,λi hi=>(hq i (by omega)).1,λm=>VK (f:=λi=>w.cell? ⟨b,o+i,none⟩) λq h j hj=>(hq q (by omega)).2 j hj m⟩
end
theorem acN{m:Nat->bv}{o:Nat}{G:List It}(hb:∃c e fz,w.heap[b]? = some (.cells c e fz))(hc:∀m i v,(dp G)[i]? = some v->w.cell? ⟨b,o+i,none⟩=some (aj m v)):JU cfg.a0.n (λid=>id<14) m w (.a (dp G) false none) ⟨b,o,0⟩:=by
 obtain⟨c,el,fz,hh⟩:=hb;refine⟨_,rfl,lU,?_,c,el,fz,hh,λi v hv=>?_⟩
 . intro i hi;rw[acs]at hi;cases hi
 . have:=hc m i v hv;grind [World.cell?]
theorem ad2:Tryz.prog.cellTypes Tryz.prog.depth 35=some [5,4,4,9,3,3,9,9,5,5,5,5,4,4,9,3,3,9,9,5,5,5,5,4,4,9,3,3,9,9,5,5,5,33,4,4]:=by rfl
theorem calls4{H:Type}{enc:TypeId×Value->H}{r:Reach}{b0:Nat}{v0:Value}{d0:DataW H}{p0:List MemPlace}(hL:laidMetH Tryz.prog abA w)(h0:Value.okWide Tryz.prog w r b0 35 v0)(t0:DataW.Trod enc Tryz.prog w 0 (λ_=>true) true 35 v0 d0 p0)(hb:BW 35 d0) :
 Calls Tryz.prog 4 #[v0] w λe w'=>e=.returned (.bool true)/\RowKit.Below w.heap.size w w':=by
 obtain⟨m,hi⟩:=Jn (JA hL);obtain⟨l,rfl,hc⟩:=IH Tryz.underlying35 ad2 aaE h0;obtain⟨fuel,ht⟩:=t0;have ht:DataW.trod enc Tryz.prog w 0 (λ_=>true) true fuel 35 l=some (d0,p0):=ht;obtain⟨k,d,k1,p,k2,q,sv,ea,la,g1,g2,g3,⟨n,y,hy,by'⟩,hs,hv⟩:=rdX ht hb;rcases EP Tryz.underlying33 (VM (i:=33) hc rfl hs)with rfl|⟨bk,o,len,cap,cc,el,fz,rfl,hh⟩
 . have:=Dk Tryz.func4 (by rfl) (by rfl) (aaK (z:=false) (L:=[]) (c:=0) (k:=k) (k1:=k1) (k2:=k2) (ea:=ea) (la:=la) bJ (λ_=>rfl) g1 g2 g3 (by intro i hi;cases hi)) (JZ (L:=[]) hi ⟨rfl,nofun⟩) (by simp[aaa,iT,fM,bw,aC,fi]);rw[<-hv _ .f rfl];exact this
 . obtain⟨G,rfl,hle,hg,hcl⟩:=rdL hy by';have:=Dk Tryz.func4 (by rfl) (by rfl) (aaK (z:=true) (L:=G) (c:=cap) (k:=k) (k1:=k1) (k2:=k2) (ea:=ea) (la:=la) bJ nofun g1 g2 g3 hg) (JZ (L:=[⟨bk,o,0⟩]) hi ⟨rfl,λj x l hx hl=>by
    match j with
    | 0=>cases hx;cases hl;exact acN ⟨cc,el,fz,hh⟩ hcl
    | j+1=>grind [i7]⟩) (by simp[aaa,iT,i7,fM,bw,aC,fi])
   rw[<-hv (mL cfg.a0.n m [⟨bk,o,0⟩]) (.c 14 0 G.length (.b cap)) rfl];exact this
end Go.Ev
end
section
namespace Go.Proofs.YtcffhjfdlflbgaaGreatDoor.fnFamiliesAny
open Go.ChangeShapes Go.WideShapes Go.ChangeAt Go.RowKit
def recP:Tryz.prog.readableRec 35=true:=by kernel_rfl
theorem rowP:35 < Tryz.prog.types.size:=of_decide_eq_true (by kernel_rfl)
theorem contract(H:Type)(enc:TypeId×Value->H)(W:World)(args:Array Value)(ds gs:List (DataW H))(before:List MemPlace)(r:Reach)(b0:Nat)
 (hval:∀(j:Nat) (t:TypeId) (v:Value),Tryz.f4.params[j]? = some t->args[j]? = some v->Value.okWide Tryz.prog W r b0 t v)
 (hW:DataW.Whole enc Tryz.prog Tryz.f4.params.toList Rows.familiesAnySpec.vars false W args.toList ds gs before) (hsz:(DataW.weightsEach Tryz.prog (Tryz.f4.params.toList++(OpenSpec.ofChange Rows.familiesAnySpec).bare.plain.varTypes Tryz.prog) (ds++gs)).all (·<=reachBytes)) (hL:laidMetH Tryz.prog Rows.familiesAnyRow.laid W) :
 Calls Tryz.prog 4 args W λe W'=>∃v,e=.returned v/\Rows.familiesAnySpec.post enc Tryz.prog Tryz.f4 false true false false W args v W':=by
 have hW':=hW;obtain⟨p,q,hA0,hV,rfl,hfz,hnd⟩:=hW;have hA:DataW.TrodAll enc Tryz.prog W 0 (λ_=>true) true Tryz.f4.params.toList args.toList ds p:=hA0;rw[Tryz.params4]at hA hval hsz;obtain⟨v,d,rfl,rfl,hd⟩:=trodAll_one hA;obtain⟨rfl,rfl⟩:=trodVars_none hV;clear hA0;refine(Go.Ev.calls4 hL (hval 0 35 v rfl rfl) hd λn hn=>of_decide_eq_true (List.all_eq_true.1 hsz n (DataW.weights_mem_each (j:=0) (t:=35) rfl rfl n hn))).mono λe W' ⟨he,hb⟩=>?_;subst he;refine⟨_,rfl,Go.Ev.post_of_below (pa:=p) (pv:=[]) hW' (λ_ _ _=>trodAll_cons_mk (shut_bool Tryz.underlying4 _) trodAll_mk0) (λsp hsp=>?_) (λ_ _=>rfl) rfl hb (ok_one (by kernel_rfl) rfl (okWide_bool_mk Tryz.underlying4 _))⟩;rw[Tryz.params4];exact trodAll_mk1 (Go.WideElems.Trod_stays Go.Ev.laidOut recP rowP hd (λx hx=>Go.Ev.below_place hb (hW'.lt x (by simpa using hx))) λx hx=>hsp x (by simpa using hx))
noncomputable abbrev Fa(x:Program->FuncId->Func->ChangeSpec->OpenClaim->Bool):Bool:=x Tryz.prog 4 Tryz.f4 Rows.familiesAnySpec Rows.familiesAnyRow
def fa0:(Fa λP f fn s c=>c.wf (OpenSpec.ofChange s))=true:=by kernel_rfl
def fa1:(Fa λP f fn s c=>laidOutB P)=true:=by kernel_rfl
def fa2:(Fa λP f fn s c=>mapsRowed P)=true:=by kernel_rfl
def fa3:(Fa λP f fn s c=>fn.params.all (P.readableRec ·))=true:=by kernel_rfl
def fa4:(Fa λP f fn s c=>namedTie P c.named s.vars)=true:=by kernel_rfl
def fa5:(Fa λP f fn s c=>(c.stops==[]))=true:=by kernel_rfl
def fa6:(Fa λP f fn s c=>(P.stops==[]))=true:=by kernel_rfl
def fa7:(Fa λP f fn s c=>(c.knobs==[]))=true:=by kernel_rfl
def fa8:(Fa λP f fn s c=>(P.stopKnobs==[]))=true:=by kernel_rfl
def fa9:(Fa λP f fn s c=>(c.inPlace==P.inPlace f))=true:=by kernel_rfl
def fa10:(Fa λP f fn s c=>(c.unfollowed==P.unfollowed f))=true:=by kernel_rfl
def fa11:(Fa λP f fn s c=>(c.recurses==P.recurses f))=true:=by kernel_rfl
def fa12:(Fa λP f fn s c=>(c.named==P.varsNamed f))=true:=by kernel_rfl
def fa13:(Fa λP f fn s c=>(c.maps==(fn.params.toList++s.plain.varTypes P).any (P.mapsRec ·)))=true:=by kernel_rfl
def fa14:(Fa λP f fn s c=>(c.ifaces==(fn.params.toList++s.plain.varTypes P).any (P.ifacesRec ·)))=true:=by kernel_rfl
def fa15:(Fa λP f fn s c=>(c.mapsOut==P.mapsAmong fn.resultTypes.toList))=true:=by kernel_rfl
def fa16:(Fa λP f fn s c=>(c.loops==(fn.params.toList++s.plain.varTypes P).any (P.loopsFrom ·)))=true:=by kernel_rfl
def fa17:(Fa λP f fn s c=>(c.wideKeys==(fn.params.toList++s.plain.varTypes P++fn.resultTypes.toList).any (P.wideKeysFrom ·)))=true:=by kernel_rfl
def fa18:(Fa λP f fn s c=>s.vars.all (P.varReadable ·))=true:=by kernel_rfl
def fa19:(Fa λP f fn s c=>fn.resultTypes.all (λt=>P.readableRec t&&decide (t<P.types.size)))=true:=by kernel_rfl
def fa20:(Fa λP f fn s c=>(c.ifacesOut==fn.resultTypes.toList.any (P.ifacesRec ·)))=true:=by kernel_rfl
def fa21:(Fa λP f fn s c=>(c.loopsOut==fn.resultTypes.toList.any (P.loopsFrom ·)))=true:=by kernel_rfl
def fa22:(Fa λP f fn s c=>(c.plainKeys==P.plainKeys))=true:=by kernel_rfl
def fa23:(Fa λP f fn s c=>c.shortTexts.isNone)=true:=by kernel_rfl
def fa24:(Fa λP f fn s c=>P.stopsHeard)=true:=by kernel_rfl
def fa25:(Fa λP f fn s c=>P.mayEnter)=true:=by kernel_rfl
def fa26:(Fa λP f fn s c=>(c.lifted==P.liftsFinal))=true:=by kernel_rfl
def fa27:(Fa λP f fn s c=>(P.make==some c.make))=true:=by kernel_rfl
def fa28:(Fa λP f fn s c=>(c.kinds==(if c.domain.isEmpty then[]else fn.params.toList.map λt=>match P.underlying t with|some (.int k)=>some k|_=>none)))=true:=by kernel_rfl
def fa29:(Fa λP f fn s c=>(c.pinned==c.pinnedBy))=true:=by kernel_rfl
def fa30:(Fa λP f fn s c=>(c.veiled==(fn.params.toList++s.plain.varTypes P++fn.resultTypes.toList).any (P.veiledRec ·)))=true:=by kernel_rfl
def fa31:(Fa λP f fn s c=>c.veiledFits P fn.params.toList (fn.params.toList++s.plain.varTypes P++fn.resultTypes.toList))=true:=by kernel_rfl
theorem facts:joinedFacts Tryz.prog 4 Tryz.f4 Rows.familiesAnySpec Rows.familiesAnyRow=true:=by
 unfold joinedFacts;simp only[zAa];exact⟨⟨⟨⟨⟨⟨⟨⟨⟨⟨⟨⟨⟨⟨⟨⟨⟨⟨⟨⟨⟨⟨⟨⟨⟨⟨⟨⟨⟨⟨⟨fa0,fa1⟩,fa2⟩,fa3⟩,fa4⟩,fa5⟩,fa6⟩,fa7⟩,fa8⟩,fa9⟩,fa10⟩,fa11⟩,fa12⟩,fa13⟩,fa14⟩,fa15⟩,fa16⟩,fa17⟩,fa18⟩,fa19⟩,fa20⟩,fa21⟩,fa22⟩,fa23⟩,fa24⟩,fa25⟩,fa26⟩,fa27⟩,fa28⟩,fa29⟩,fa30⟩,fa31⟩
end Go.Proofs.YtcffhjfdlflbgaaGreatDoor.fnFamiliesAny
end
section
namespace Go.Proofs.YtcffhjfdlflbgaaGreatDoor.fnFamiliesAny
open Go.ChangeShapes Go.WideShapes Go.ChangeAt Go.RowKit Go.Ev.Wit
def zero0:Value:=.agg #[.int .u8 0,.bool false,.bool false,.string ⟨#[]⟩,.int .i64 0,.int .i64 0,.string ⟨#[]⟩,.string ⟨#[]⟩,.int .u8 0,.int .u8 0,.int .u8 0,.int .u8 0,.bool false,.bool false,.string ⟨#[]⟩,.int .i64 0,.int .i64 0,.string ⟨#[]⟩,.string ⟨#[]⟩,.int .u8 0,.int .u8 0,.int .u8 0,.int .u8 0,.bool false,.bool false,.string ⟨#[]⟩,.int .i64 0,.int .i64 0,.string ⟨#[]⟩,.string ⟨#[]⟩,.int .u8 0,.int .u8 0,.int .u8 0,.slice none 0 0,.bool false,.bool false]
abbrev args0:Array Value:=#[zero0]
noncomputable abbrev W0(os:Os):World:=(laidWorld os).forCall (λ_ _=>0) ⟨#[],args0,[]⟩
theorem laid_met(os:Os):laidMet Tryz.prog Rows.familiesAnyRow.laid (W0 os).memory:=laidMet_of_run' 8 (by kernel_rfl) (by kernel_rfl)
theorem reads(os:Os){H:Type}(enc:TypeId×Value->H):∃x,DataW.whole enc Tryz.prog (W0 os).memory Tryz.f4.params.toList Rows.familiesAnySpec.vars false args0.toList 8=some x:=Option.isSome_iff_exists.1 (by kernel_rfl)
def shaped(os:Os):(W0 os).variablesRefB Tryz.checked.prog=true:=by kernel_rfl
def restB(os:Os):((W0 os).heap.toList.drop Tryz.checked.prog.globals.size).take ((begin Tryz.checked.prog (λ_ _=>0) default).world.heap.size - Tryz.checked.prog.globals.size)=(begin Tryz.checked.prog (λ_ _=>0) default).world.heap.toList.drop Tryz.checked.prog.globals.size:=by kernel_rfl
def argsB(os:Os):Input.okWideB Tryz.checked.prog (W0 os) 4 ⟨#[],args0,[]⟩=true:=by kernel_rfl
end Go.Proofs.YtcffhjfdlflbgaaGreatDoor.fnFamiliesAny
end
section
namespace Go.Proofs.YtcffhjfdlflbgaaGreatDoor.fnFamiliesAny
open Go.ChangeShapes Go.WideShapes Go.ChangeAt Go.RowKit
def own:ownKnob Tryz.prog.godebug=none:=by kernel_rfl
theorem lifted(os:Os)(started:os.Started)(H:Type)(enc:TypeId×Value->H)(F:Stop.Interp) :
 ReturnsInHanded {} Tryz.checked os 4 .any ((OpenSpec.ofChange Rows.familiesAnySpec).preRow enc Tryz.prog Tryz.f4 Rows.familiesAnyRow.domain false Rows.familiesAnyRow.laid) (((OpenSpec.ofChange Rows.familiesAnySpec).at F).post enc Tryz.prog Tryz.f4 false true false false):=by
 obtain⟨x,hx⟩:=reads os enc;refine returnsInHanded_of_row (C:=Tryz.checked) (s:=OpenSpec.ofChange Rows.familiesAnySpec) own started (by kernel_rfl) Tryz.func4
  (witness_row_atRef (enc:=enc) (C:=Tryz.checked) false (Go.Ev.Wit.laidWorld os) args0 rfl (shaped os) (restB os) (argsB os)
    (OpenSpec.preRow_of_cond 8 hx (by kernel_rfl) (λk hk=>by cases hk) (by kernel_rfl) (laid_met os))) ?_
 intro W base args ds gs before hval hW _ _ hsz hL _ _;exact contract H enc W args ds gs before .any base hval hW hsz hL
theorem said:Rows.FamiliesAnySaid:=
 OpenClaim.holds_of_cond 4 Tryz.f4 rfl rfl rfl rfl rfl rfl rfl ⟨rfl,rfl,rfl,rfl,rfl⟩ rfl rfl rfl rfl rfl (by kernel_rfl) Tryz.func4 facts
  (of_decide_eq_true (by kernel_rfl)) (by unfold Func.isWrapper;first|(rw[if_pos (by decide +kernel)];kernel_rfl)|(rw[if_neg (by decide +kernel)];exact⟨rfl,rfl⟩))
  (λos started H enc _ F=>by rw[OpenClaim.pre_eq_preRow];exact lifted os started H enc F)
def standB:Tryz.f4.params.all (λt=>!Tryz.prog.wantsStandIn t)=true:=by kernel_rfl
theorem plain(f:FuncId)(fn:Func)(hf:Tryz.pinned.checked.prog.funcNamed "circa/circalaw24.FamiliesAny" = some f)(hfn:Tryz.pinned.checked.prog.funcs[f]? = some fn) :
 true=Tryz.pinned.checked.prog.looks []/\∀(j:Nat) t,fn.params[j]? = some t->Tryz.pinned.checked.prog.wantsStandIn t=false:=by
 obtain rfl:f=4:=ν ((show Tryz.prog.funcNamed "circa/circalaw24.FamiliesAny" = some 4 by kernel_rfl).symm.trans hf) |>.symm
 obtain rfl:fn=Tryz.f4:=(ν (Tryz.func4.symm.trans hfn)).symm;refine⟨by kernel_rfl,λj t ht=>?_⟩;obtain⟨hj,e⟩:=Array.getElem?_eq_some_iff.1 ht;have:=(Array.all_eq_true.1 standB) j hj;rw[e]at this;have this:Tryz.prog.wantsStandIn t=false:=by simpa using this
 exact this
theorem card:Rows.FamiliesAnyCardSaid:=
 Claim7.holds_tied_plain_at .later [] _ _ _ _ said (λ_ h=>by cases h) (by kernel_rfl) (λ_ h=>by cases h) familiesAny_row_tie rfl ⟨rfl,rfl⟩ (by kernel_rfl) rfl plain (by kernel_rfl)
#print axioms card
end Go.Proofs.YtcffhjfdlflbgaaGreatDoor.fnFamiliesAny
end
