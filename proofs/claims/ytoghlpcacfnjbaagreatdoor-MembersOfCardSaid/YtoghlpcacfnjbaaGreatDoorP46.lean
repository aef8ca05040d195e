import Derived.Deep.DeepWitnessRowRef
import Derived.Test.YtoghlpcacfnjbaaGreatDoorP45
set_option linter.all false
set_option maxRecDepth 100000
set_option maxHeartbeats 4000000
section
namespace Go.Ev
open Go Go.Proofs
variable{fuel:Nat}{f0 f1:Field}
def Po:List AV×AV:=([iA 1],.tuple [iA 31,iA 59,iA 0])
def YG:lF tab nB 10000 167 Po.1 Po.2=true:=by kernel_rfl
def Rm:List AV×AV:=([iA 59],.tuple [iA 0,iA 2,iA 0])
def X6:lF tab nB 10000 154 Rm.1 Rm.2=true:=by kernel_rfl
def Qi:List AV×AV:=([dA [48,48,48,48] 0 0 [48,88] [],.agg [iA 0,iA 2,iA 29]],.tuple [.agg [iA 0,iA 2,iA 0],.bool true,iA 0])
def Yj:lF tab nB 10000 178 Qi.1 Qi.2=true:=by kernel_rfl
def PB:List AV×AV:=([dA [48,48,48,48] 0 0 [48,88] []],.tuple [iA 9,iA 0])
def Xv:lF tab nB 10000 64 PB.1 PB.2=true:=by kernel_rfl
def Qw:List AV×AV:=([iA 300],.tuple [iA 0,iA 10,iA 0])
def Yz:lF tab nB 10000 154 Qw.1 Qw.2=true:=by kernel_rfl
def RV:List AV×AV:=([dA [48,48,48,48] 0 0 [48,88] [],.agg [iA 0,iA 10,iA 27]],.tuple [.agg [iA 0,iA 0,iA 0],.bool false,iA 0])
def Xx:lF tab nB 10000 178 RV.1 RV.2=true:=by kernel_rfl
def Pz:List AV×AV:=([dA [48,48,48,48] 0 0 [] []],.tuple [rA 0 0 0 365,iA 0])
def X8:lF tab nB 10000 182 Pz.1 Pz.2=true:=by kernel_rfl
def RM:List AV×AV:=([.agg [.int .u8 3,.bool false,.bool false,.str [],iA 0,iA 0,.str [],.str [],.int .u8 0,.int .u8 0,.int .u8 0],.agg [.int .u8 1,.bool false,.bool false,.str [48,48,48,48],iA 0,iA 0,.str [48,49],.str [],.int .u8 0,.int .u8 0,.int .u8 0]],iA 0)
def XA:lF tab nB 10000 222 RM.1 RM.2=true:=by kernel_rfl
def Ro:List AV×AV:=([dA [48,48,48,48] 0 0 [48,49] []],.tuple [rA 0 0 0 30,iA 0])
def Xq:lF tab nB 10000 182 Ro.1 Ro.2=true:=by kernel_rfl
def QP:List AV×AV:=([.agg [.bool false,.bool false,.str [48,48,48,48],iA 0,iA 0,.str [48,50],.str [],.int .u8 0,.int .u8 0,.int .u8 0,.bool false,.bool false,.bool false,.str [],iA 0,iA 0,.str [],.str [],.int .u8 0,.int .u8 0,.int .u8 0],.int .u8 3],iA 0)
def XP:lF tab nB 10000 262 QP.1 QP.2=true:=by kernel_rfl
def LW:List AV×AV:=([.agg [.bool false,.bool false,.str [48,48,48,48],iA 0,iA 0,.str [48,49],.str [],.int .u8 0,.int .u8 0,.int .u8 0,.bool false,.bool false,.bool false,.str [],iA 0,iA 0,.str [],.str [],.int .u8 0,.int .u8 0,.int .u8 0],.int .u8 4],iA 0)
def WH:lF tab nB 10000 262 LW.1 LW.2=true:=by kernel_rfl
def Iw:List AV×AV:=([.agg [.bool false,.bool false,.str [48,48,48,48],iA 0,iA 0,.str [48,51],.str [],.int .u8 0,.int .u8 0,.int .u8 0,.bool false,.bool false,.bool false,.str [],iA 0,iA 0,.str [],.str [],.int .u8 0,.int .u8 0,.int .u8 0],.int .u8 4],iA 0)
def V0:lF tab nB 10000 262 Iw.1 Iw.2=true:=by kernel_rfl
def KO:List AV×AV:=([iA 2],.tuple [iA 60,iA 90,iA 0])
def Ua:lF tab nB 10000 167 KO.1 KO.2=true:=by kernel_rfl
noncomputable def Pe:DZ:=(.node none (.node none (.node none (.node none .nil (.node none (.node none .nil (.node none (.node (some [Po,KO]) .nil .nil) .nil)) .nil)) .nil) .nil) (.node none (.node none (.node none (.node none (.node none (.node (some [PB]) .nil .nil) .nil) .nil) .nil) .nil) (.node none (.node none (.node none .nil (.node none .nil (.node none (.node (some [Qi,RV]) .nil .nil) .nil))) (.node none .nil (.node none (.node none (.node (some [Rm,Qw]) .nil .nil) .nil) .nil))) (.node none (.node none (.node none (.node none (.node none (.node (some [QP,LW,Iw]) .nil .nil) .nil) .nil) .nil) (.node none .nil (.node none (.node (some [Pz,Ro]) .nil .nil) .nil))) (.node none .nil (.node none (.node none .nil (.node (some [RM]) .nil .nil)) .nil))))))
noncomputable def EC:cG:=D4 nB Pe
theorem JI(g:mE Tryz.prog tab nB):np (λf l=>∀e∈l,gF Tryz.prog nB f e.1 e.2) (λi=>i) Pe:=⟨aI,⟨aI,⟨aI,⟨aI,trivial,⟨aI,⟨aI,trivial,⟨aI,⟨(dM (bb (g.fact 10000 YG) (bb (g.fact 10000 Ua) dN))),trivial,trivial⟩,trivial⟩⟩,trivial⟩⟩,trivial⟩,trivial⟩,⟨aI,⟨aI,⟨aI,⟨aI,⟨aI,⟨(dM (bb (g.fact 10000 Xv) dN)),trivial,trivial⟩,trivial⟩,trivial⟩,trivial⟩,trivial⟩,⟨aI,⟨aI,⟨aI,trivial,⟨aI,trivial,⟨aI,⟨(dM (bb (g.fact 10000 Yj) (bb (g.fact 10000 Xx) dN))),trivial,trivial⟩,trivial⟩⟩⟩,⟨aI,trivial,⟨aI,⟨aI,⟨(dM (bb (g.fact 10000 X6) (bb (g.fact 10000 Yz) dN))),trivial,trivial⟩,trivial⟩,trivial⟩⟩⟩,⟨aI,⟨aI,⟨aI,⟨aI,⟨aI,⟨(dM (bb (g.fact 10000 XP) (bb (g.fact 10000 WH) (bb (g.fact 10000 V0) dN)))),trivial,trivial⟩,trivial⟩,trivial⟩,trivial⟩,⟨aI,trivial,⟨aI,⟨(dM (bb (g.fact 10000 X8) (bb (g.fact 10000 Xq) dN))),trivial,trivial⟩,trivial⟩⟩⟩,⟨aI,trivial,⟨aI,⟨aI,trivial,⟨(dM (bb (g.fact 10000 XA) dN)),trivial,trivial⟩⟩,trivial⟩⟩⟩⟩⟩⟩
theorem UF(g:mE Tryz.prog tab nB):mE Tryz.prog tab EC:=g.memo λf l h=>(JI g).get f l h
def PN:List AV×AV:=([dA [48,48,48,48] 0 0 [48,50] []],.tuple [rA 0 31 0 59,iA 0])
def Y_:lF tab EC 10000 182 PN.1 PN.2=true:=by kernel_rfl
def PL:List AV×AV:=([dA [48,48,48,48] 0 0 [48,51] []],.tuple [rA 0 60 0 90,iA 0])
def XS:lF tab EC 10000 182 PL.1 PL.2=true:=by kernel_rfl
noncomputable def OW:DZ:=(.node none .nil (.node none .nil (.node none .nil (.node none (.node none .nil (.node none .nil (.node none (.node (some [PN,PL]) .nil .nil) .nil))) .nil))))
noncomputable def Qy:cG:=D4 EC OW
theorem Ju(g:mE Tryz.prog tab EC):np (λf l=>∀e∈l,gF Tryz.prog EC f e.1 e.2) (λi=>i) OW:=⟨aI,trivial,⟨aI,trivial,⟨aI,trivial,⟨aI,⟨aI,trivial,⟨aI,trivial,⟨aI,⟨(dM (bb (g.fact 10000 Y_) (bb (g.fact 10000 XS) dN))),trivial,trivial⟩,trivial⟩⟩⟩,trivial⟩⟩⟩⟩
theorem Us(g:mE Tryz.prog tab EC):mE Tryz.prog tab Qy:=g.memo λf l h=>(Ju g).get f l h
def U9:List AV×AV:=([iA 0],.bool true)
def Zx:lF tab Qy 10000 13 U9.1 U9.2=true:=by kernel_rfl
section
variable{H:Type}{enc:TypeId×Value->H}{P:Program}{w:World}{base:Nat}{sp:Nat->Bool}{held:Bool}
theorem sg{e t0 t1:TypeId}{cs:List Value}{k:IntKind}{d:DataW H}{p:List MemPlace}(he:P.underlying e=some (.struct #[f0,f1]))(e0:f0.type=t0)(e1:f1.type=t1)(h0:P.underlying t0=some (.int k))(h1:P.underlying t1=some (.int k))
 (o0:f0.offset=0) (o1:f1.offset=1) (c0:P.cellsOf t0=1) (c1:P.cellsOf t1=1) (hc:P.cellsOf e=2) (h:DataW.trod enc P w base sp held fuel e cs=some (d,p)) :
 ∃a b,cs=[.int k a,.int k b]/\d=.agg [.lit (.int k a),.lit (.int k b)]:=by
 cases fuel with
 | zero=>simp[DataW.trod]at h
 | succ fuel=>
   unfold DataW.trod at h;simp only[he,hc]at h;split at h
   . rename_i hl
     match cs,hl with
     | [x,y],_=>
       simp only[List.mapM_cons,List.mapM_nil,o0,o1,e0,e1,c0,c1,List.drop_zero,List.drop_succ_cons,List.take_succ_cons,List.take_zero,Option.map_eq_some_iff,Option.bind_eq_bind,Option.bind_eq_some_iff,Option.pure_def,zAc]at h;obtain⟨xs,⟨r0,hr0,ys,⟨r1,hr1,zs,rfl,rfl⟩,rfl⟩,hx⟩:=h;obtain⟨n0,q0,rfl,_⟩:=DataW.trod_int h0 hr0;obtain⟨n1,q1,rfl,_⟩:=DataW.trod_int h1 hr1;simp only[List.cons.injEq,and_true]at q0 q1;subst q0 q1;refine⟨n0,n1,rfl,?_⟩;have:=congrArg Prod.fst hx;simpa using this.symm
   . cases h
theorem De{n:Nat}{t e t0 t1:TypeId}{cs:List Value}{k:IntKind}{ds:List (DataW H)}{p:List MemPlace}(ht:P.underlying t=some (.array n e))(he:P.underlying e=some (.struct #[f0,f1]))(e0:f0.type=t0)(e1:f1.type=t1)(h0:P.underlying t0=some (.int k))(h1:P.underlying t1=some (.int k))
 (o0:f0.offset=0) (o1:f1.offset=1) (c0:P.cellsOf t0=1) (c1:P.cellsOf t1=1) (hc:P.cellsOf e=2) (h:DataW.trod enc P w base sp held fuel t cs=some (.agg ds,p)) :
 ∀i d,ds[i]? = some d->∃a b,d=.agg [.lit (.int k a),.lit (.int k b)]/\cs[2*i]? = some (.int k a)/\cs[2*i+1]? = some (.int k b):=by
 cases fuel with
 | zero=>simp[DataW.trod]at h
 | succ fuel=>
   unfold DataW.trod at h;simp only[ht,hc]at h;split at h
   . rename_i hl;obtain⟨xs,hm,hx⟩:=Option.map_eq_some_iff.1 h;have hxs:xs.map (·.1)=ds:=by
      have:=congrArg Prod.fst hx;simpa using this
     intro i d hd;have hxl:xs.length=n:=by simpa using Lib.mapM_length hm
     have hi:i<n:=by
      have:=(List.getElem?_eq_some_iff.1 hd).1;rw[<-hxs]at this;simp at this;omega
     obtain⟨b,hb,hf⟩:=Lib.mapM_at hm i i (by simp[hi]);obtain⟨x,y,hc1,hc2⟩:=sg (d:=b.1) (p:=b.2) he e0 e1 h0 h1 o0 o1 c0 c1 hc (by rw[hf]);refine⟨x,y,?_,?_,?_⟩
     . rw[<-hxs]at hd;simp only[List.getElem?_map,hb,Option.map_some,zAc]at hd;rw[<-hd,hc2]
     . have:=congrArg (·[0]?) hc1;simp only[List.getElem?_take,List.getElem?_drop,List.getElem?_cons_zero]at this;rw[show 2*i=i*2+0 by omega];simpa using this
     . have:=congrArg (·[1]?) hc1;simp only[List.getElem?_take,List.getElem?_drop]at this;rw[show 2*i+1=i*2+1 by omega];simpa using this
   . cases h
theorem y6{t e t0 t1:TypeId}{cs:List Value}{k:IntKind}{ds:List (DataW H)}{p:List MemPlace}(ht:P.underlying t=some (.slice e))(he:P.underlying e=some (.struct #[f0,f1]))(e0:f0.type=t0)(e1:f1.type=t1)(h0:P.underlying t0=some (.int k))(h1:P.underlying t1=some (.int k))
 (o0:f0.offset=0) (o1:f1.offset=1) (c0:P.cellsOf t0=1) (c1:P.cellsOf t1=1) (hc:P.cellsOf e=2) (hne:0<ds.length) (h:DataW.trod enc P w base (λ_=>true) held fuel t cs=some (.slice ds [],p)) :
 ∃b o,cs=[.slice (some ⟨b,o,none⟩) ds.length ds.length]/\∀i d,ds[i]? = some d->∃x y,d=.agg [.lit (.int k x),.lit (.int k y)]/\w.cell? ⟨b,o+2*i,none⟩=some (.int k x)/\w.cell? ⟨b,o+(2*i+1),none⟩=some (.int k y):=by
 rcases DataW.trod_slice ht h with⟨_,hx⟩|⟨a,len,cap,elems,rest,n,rfl,rfl,hx,hb,hle,hmax,hel,hat,hrest,_⟩
 . cases hx
 . simp only[Prod.mk.injEq,DataW.slice.injEq]at hx;obtain⟨⟨hds,hrs⟩,_⟩:=hx;have hr0:rest.length=0:=by
    have:=congrArg List.length hrs;simpa using this.symm
   have hcap:cap=len:=by
    have:=(hrest rfl).1;omega
   have hlen:ds.length=len:=by rw[hds];simpa using hel
   subst hcap;have main:∀i d,ds[i]? = some d->∃x y,d=.agg [.lit (.int k x),.lit (.int k y)]/\w.cell? (a.add (i*2))=some (.int k x)/\w.cell? ((a.add (i*2)).add 1)=some (.int k y):=by
    intro i d hd;have hi:i<cap:=by
     have:=(List.getElem?_eq_some_iff.1 hd).1;omega
    have h3:=hat i hi;rw[hds,List.getElem?_map]at hd;obtain⟨b,hb',rfl⟩:=Option.map_eq_some_iff.1 hd;rw[hb',hc]at h3;obtain⟨cs',hcs,htr⟩:=Option.bind_eq_some_iff.1 h3;obtain⟨x,y,rfl,hd2⟩:=sg (d:=b.1) (p:=b.2) he e0 e1 h0 h1 o0 o1 c0 c1 hc htr;obtain⟨_,_,hcell⟩:=World.cells?_some hcs;refine⟨x,y,hd2,?_,?_⟩
    . have:=hcell 0 (by omega);simpa [Addr.add]using this
    . exact hcell 1 (by omega)
   obtain⟨b,o,sp⟩:=a;have hsp:sp=none:=by
    obtain⟨x,y,_,hx0,_⟩:=main 0 (ds[0]'hne) (by simp[hne]);simp only[Nat.zero_mul,Addr.add,if_true]at hx0;unfold World.cell? at hx0;cases sp with
    | none=>rfl
    | some v=>split at hx0<;>simp at hx0
   subst hsp;refine⟨b,o,by rw[hlen],λi d hd=>?_⟩;obtain⟨x,y,h4,h5,h6⟩:=main i d hd;refine⟨x,y,h4,?_,?_⟩
   . by_cases e:i=0
     . subst e;simpa [Addr.add]using h5
     . rw[show o+2*i=o+i*2 by omega];have e2:¬i*2=0:=by omega
       rw[Addr.add,if_neg e2]at h5;exact h5
   . by_cases e:i=0
     . subst e;simpa [Addr.add]using h6
     . rw[show o+(2*i+1)=o+i*2+1 by omega];have e2:¬i*2=0:=by omega
       rw[Addr.add,if_neg (by omega),Addr.add,if_neg e2]at h6;exact h6
end
end Go.Ev
end
section
namespace Go.Ev
open Go Go.Proofs Go.Proofs.YtoghlpcacfnjbaaGreatDoor
variable{w:World}
theorem iq{P:Program}{w:World}:∀{l:List (String×DataW Unit)} {ps:List MemPlace},DataW.LaidVars P w l ps->∀(i:Nat) (n:String) (d:DataW Unit),l[i]? = some (n,d)->
 ∃g t cs fuel p,P.globalNamed n=some g/\(P.globals[g]?).map (·.type)=some t/\w.var? P n=some cs/\DataW.trod (λ_=>()) P w 0 (λ_=>true) false fuel t cs.toList=some (d,p)/\∀x∈MemPlace.row ⟨g,0,none⟩ cs.size,x∈ps
 | [],ps,_,i,n,d,hd=>by simp at hd
 | (n0,d0)::r,ps,h,i,n,d,hd=>by
   obtain⟨g,t,cs,fuel,p,q,h1,h2,h3,h4,h5,rfl⟩:=h;cases i with
   | zero=>
     simp only[List.getElem?_cons_zero,zAc,Prod.mk.injEq]at hd;obtain⟨rfl,rfl⟩:=hd;exact⟨g,t,cs,fuel,p,h1,h2,h3,h4,λx hx=>by simp[hx]⟩
   | succ i=>
     obtain⟨g',t',cs',fuel',p',k1,k2,k3,k4,k5⟩:=iq h5 i n d (by simpa using hd);exact⟨g',t',cs',fuel',p',k1,k2,k3,k4,λx hx=>by simp[k5 x hx]⟩
def Ft(x y:Int):DataW Unit:=.agg [.lit (.int .i64 x),.lit (.int .i64 y)]
def qV:List Int->List (DataW Unit)
 | x::y::r=>Ft x y::qV r
 | _=>[]
theorem zC{x y a b:Int}(h:Ft x y=.agg [.lit (.int .i64 a),.lit (.int .i64 b)]):x=a/\y=b:=by
 simpa [Ft]using h
theorem oq:∀{l:List Int},l.length%2=0->∀(i:Nat) (v:Int),l[i]? = some v->∃x y,(qV l)[i/2]? = some (Ft x y)/\(i%2=0->v=x)/\(i%2=1->v=y)
 | [],_,i,v,h=>by simp at h
 | [x],h,i,v,_=>by simp at h
 | x::y::r,h,0,v,hv=>⟨x,y,rfl,λ_=>by simpa using hv.symm,λh=>by simp at h⟩
 | x::y::r,h,1,v,hv=>⟨x,y,rfl,λh=>by simp at h,λ_=>by simpa using hv.symm⟩
 | x::y::r,h,i+2,v,hv=>by
   obtain⟨a,b,h1,h2,h3⟩:=oq (l:=r) (by simp at h;omega) i v (by simpa using hv);refine⟨a,b,?_,λe=>h2 (by omega),λe=>h3 (by omega)⟩;rw[show(i+2)/2=i/2+1 by omega,qV,List.getElem?_cons_succ];exact h1
noncomputable def pN:List (String×DataW Unit):=Rows.membersOfRow.laid
theorem laid_met(h:laidMetH Tryz.prog pN w):laidMet Tryz.prog pN w:=by
 unfold laidMetH at h;have e:(pN.filter λx=>x.2.handleName?.isSome)=[]:=by kernel_rfl
 rw[e]at h;exact h
theorem Mt(h:laidMet Tryz.prog pN w):∀i v,W8[i]? = some v->w.cell? ⟨1,i,none⟩=some (.int .i64 v):=by
 obtain⟨ps,hv,_,_⟩:=h;obtain⟨g,t,cs,fuel,p,h1,h2,h3,h4,_⟩:=iq hv 7 "circa/months.lengths" Rows.laid_circa_months_lengths rfl;obtain rfl:1=g:=Option.some.inj ((show Tryz.prog.globalNamed "circa/months.lengths" = some 1 by kernel_rfl).symm.trans h1);obtain rfl:271=t:=Option.some.inj ((show(Tryz.prog.globals[1]?).map (·.type)=some 271 by kernel_rfl).symm.trans h2);have hc:=Lib.cells_of_tab (zs:=W8) (k:=.i64) Tryz.underlying271 Tryz.underlying3 (by kernel_rfl) (by kernel_rfl) h4;intro i v hi;rw[World.var?_cell (by kernel_rfl:Tryz.prog.globalNamed "circa/months.lengths" = some 1) h3 i,<-Array.getElem?_toList,hc,List.getElem?_map,hi];rfl
theorem KY(h:laidMet Tryz.prog pN w):∀i v,Xb[i]? = some v->w.cell? ⟨2,i,none⟩=some (.int .i64 v):=by
 obtain⟨ps,hv,_,_⟩:=h;obtain⟨g,t,cs,fuel,p,h1,h2,h3,h4,_⟩:=iq hv 8 "circa/seasons.spans" Rows.laid_circa_seasons_spans rfl;obtain rfl:2=g:=Option.some.inj ((show Tryz.prog.globalNamed "circa/seasons.spans" = some 2 by kernel_rfl).symm.trans h1);obtain rfl:292=t:=Option.some.inj ((show(Tryz.prog.globals[2]?).map (·.type)=some 292 by kernel_rfl).symm.trans h2);have h4:DataW.trod (λ_=>()) Tryz.prog w 0 (λ_=>true) false fuel 292 cs.toList=some (.agg (qV Xb),p):=h4;have hc:=De Tryz.underlying292 Tryz.underlying291 rfl rfl Tryz.underlying3 Tryz.underlying3 rfl rfl (by kernel_rfl) (by kernel_rfl) (by kernel_rfl) h4;intro i v hi;rw[World.var?_cell (by kernel_rfl:Tryz.prog.globalNamed "circa/seasons.spans" = some 2) h3 i,<-Array.getElem?_toList];obtain⟨x,y,hd,hx,hy⟩:=oq rfl i v hi;obtain⟨a,b,he,ha,hb⟩:=hc _ _ hd;obtain⟨rfl,rfl⟩:=zC he;rcases Nat.mod_two_eq_zero_or_one i with h2|h2
 . rw[hx h2,<-ha,show 2*(i/2)=i by omega]
 . rw[hy h2,<-hb,show 2*(i/2)+1=i by omega]
theorem IP(h:laidMet Tryz.prog pN w):∃b o,w.cell? ⟨5,0,none⟩=some (.slice (some ⟨b,o,none⟩) 3 3)/\∀i v,WZ[i]? = some v->w.cell? ⟨b,o+i,none⟩=some (.int .i64 v):=by
 obtain⟨ps,hv,_,_⟩:=h;obtain⟨g,t,cs,fuel,p,h1,h2,h3,h4,_⟩:=iq hv 6 "circa/years.steps" Rows.laid_circa_years_steps rfl;obtain rfl:5=g:=Option.some.inj ((show Tryz.prog.globalNamed "circa/years.steps" = some 5 by kernel_rfl).symm.trans h1);obtain rfl:321=t:=Option.some.inj ((show(Tryz.prog.globals[5]?).map (·.type)=some 321 by kernel_rfl).symm.trans h2);have h4:DataW.trod (λ_=>()) Tryz.prog w 0 (λ_=>true) false fuel 321 cs.toList=some (.slice (qV WZ) [],p):=h4;obtain⟨b,o,hcs,hc⟩:=y6 Tryz.underlying321 Tryz.underlying322 rfl rfl Tryz.underlying2 Tryz.underlying2 rfl rfl (by kernel_rfl) (by kernel_rfl) (by kernel_rfl) (by decide) h4;refine⟨b,o,?_,λi v hi=>?_⟩
 . rw[World.var?_cell (by kernel_rfl:Tryz.prog.globalNamed "circa/years.steps" = some 5) h3 0,<-Array.getElem?_toList,hcs];rfl
 . obtain⟨x,y,hd,hx,hy⟩:=oq rfl i v hi;obtain⟨a,b',he,ha,hb⟩:=hc _ _ hd;obtain⟨rfl,rfl⟩:=zC he;rcases Nat.mod_two_eq_zero_or_one i with h2|h2
   . rw[hx h2,<-ha,show 2*(i/2)=i by omega]
   . rw[hy h2,<-hb,show 2*(i/2)+1=i by omega]
theorem Kk(h:laidMet Tryz.prog pN w){i g:Nat}{n:String}{text:List UInt8}(hi:pN[i]? = some (n,.iface "*errors.errorString" (.ptr (.agg [.lit (.string text)]))))(hg:Tryz.prog.globalNamed n=some g)(ht:(Tryz.prog.globals[g]?).map (·.type)=some 213) :
 (∃b o,w.cell? ⟨g,0,none⟩=some (.iface 345 (.pointer (some ⟨b,o,none⟩))))/\∀c e fz,w.heap[g]? = some (.cells c e fz)->c.size=1:=by
 obtain⟨ps,hv,_,hps⟩:=h;obtain⟨g',t,cs,fuel,p,h1,h2,h3,h4,h5⟩:=iq hv i n _ hi;obtain rfl:g=g':=Option.some.inj (hg.symm.trans h1);obtain rfl:213=t:=Option.some.inj (ht.symm.trans h2);obtain⟨a,s,hcs,hcell,_⟩:=errorString_of_trod Tryz.underlying213 (λu hu=>typeName_ptr_named (nm := "errors.errorString") (by kernel_rfl) (by kernel_rfl) (by decide) u hu) Tryz.underlying345 Tryz.underlying347 rfl rfl Tryz.underlying9 (by kernel_rfl) (by kernel_rfl) h4 (λu v e=>by
  have hc0:w.cell? ⟨g,0,none⟩=some (.iface u v):=by
   rw[World.var?_cell hg h3 0,<-Array.getElem?_toList,e];rfl
  have hsz:cs.size=1:=by
   have:=congrArg List.length e;simpa using this
  exact(hps g 0 (h5 _ (by rw[hsz];simp[MemPlace.row]))).2 u v hc0)
 obtain⟨b,o,sp⟩:=a;have hsp:sp=none:=by
  unfold World.cell? at hcell;cases sp with
  | none=>rfl
  | some v=>split at hcell<;>simp at hcell
 subst hsp;refine⟨⟨b,o,by rw[World.var?_cell hg h3 0,<-Array.getElem?_toList,hcs];rfl⟩,λc e fz hb=>?_⟩;have h3':=h3;unfold World.var? at h3';rw[hg]at h3';simp only[Option.bind_some,hb,zAc]at h3';have:=congrArg List.length hcs;rw[h3'];simpa using this
theorem Ij(h:laidMetH Tryz.prog pN w):OK w:=by
 have h:=laid_met h;have hS:=Kk h (i:=5) (g:=3) (n := "strconv.ErrSyntax") rfl (by kernel_rfl) (by kernel_rfl);have hR:=Kk h (i:=4) (g:=4) (n := "strconv.ErrRange") rfl (by kernel_rfl) (by kernel_rfl);exact⟨IP h,Mt h,KY h,hS.1,hR.1,hS.2,hR.2⟩
end Go.Ev
end
section
namespace Go.Ev
variable{b o cap:Nat}{ws:List aE}{m:Nat->bq}{w:World}
section
open Go Go.Proofs Go.ChangeShapes Go.WideShapes Go.ChangeAt Go.RowKit
theorem post_of_below{H:Type}{enc:TypeId×Value->H}{P:Program}{f:Func}{s:ChangeSpec}{Ct fresh handsOn again:Bool}{W W':World}{args:Array Value}{v:Value}{ds gs:List (DataW H)}{before pa pv:List MemPlace}
 (hW:DataW.Whole enc P f.params.toList s.vars Ct W args.toList ds gs before)
 (hres:∀(b:Nat) (sp:Nat->Bool) (hd:Bool),DataW.TrodAll enc P W' b sp hd f.resultTypes.toList (v.resultList f.resultTypes.size) (s.fn H (ds++gs)).results [])
 (hargs:∀sp:Nat->Bool,(∀p∈before,sp p.block=true)->DataW.TrodAll enc P W' 0 sp true f.params.toList args.toList (s.fn H (ds++gs)).args pa)
 (hvars:∀sp:Nat->Bool,(∀p∈before,sp p.block=true)->DataW.TrodVars enc P W' sp s.vars (s.fn H (ds++gs)).vars pv)
 (hps:before=pa++pv) (hb:Below W.heap.size W W')
 (hok:∀(j:Nat) (t:TypeId) (r:Value),f.resultTypes[j]? = some t->(v.resultList f.resultTypes.size)[j]? = some r->Value.okWide P W' .any 0 t r) :
 s.post enc P f Ct fresh handsOn again W args v W':=by
 have hold:∀p∈before,(λb=>decide (b<W.heap.size)) p.block=true:=λp hp=>by simpa using hW.lt p hp
 have hlt:∀p∈before,p.block<W.heap.size:=λp hp=>hW.lt p hp;refine⟨ds,gs,before,[],pa,pv,hW,hres _ _ _,hargs _ hold,hvars _ hold,World.keptBut_mono (λp hp=>⟨hp,?_⟩) (hb.frame (·∈before)),λ_=>?_⟩
 . rw[hps,List.mem_append]at hp;exact Or.inr hp
 . obtain⟨_,_,_,_,_,hz,hn⟩:=hW;refine⟨hok,_,_,([]++pa)++pv,⟨[]++pa,pv,trodAll_append (hargs _ (λ_ _=>rfl)) (hres _ _ true),hvars _ (λ_ _=>rfl),rfl,?_,?_⟩,?_⟩
   . intro b off hp;have hp':MemPlace.cell b off∈before:=by rw[hps];simpa using hp
     have e:W'.frozen? ⟨b,off,none⟩=W.frozen? ⟨b,off,none⟩:=by
      unfold World.frozen?;rw[hb.block b (hlt _ hp')]
     rw[e];exact hz b off hp'
   . intro ha;have:=hn ha;rw[hps]at this;simpa using this
   . intro p hp _;rw[hps];simpa using hp
def laidOut:laidOutB Tryz.prog=true:=by kernel_rfl
theorem below_place{W W':World}{x:MemPlace}(hb:Below W.heap.size W W')(hlt:x.block<W.heap.size):W.sameAt W' x:=by
 cases x with
 | cell b off=>show W'.cell? _=W.cell? _;unfold World.cell?;rw[hb.block b hlt]
 | map b=>exact hb.block b hlt
end
open Go Go.Proofs Go.ChangeShapes
section
variable{P:Program}{w:World}{r:Reach}{b0:Nat}{t:TypeId}{v:Value}
theorem Eh{e:TypeId}(ht:P.underlying t=some (.slice e))(h:Cell.okWide P w r b0 t v):v=.slice none 0 0\/∃b o len cap c el fz,v=.slice (some ⟨b,o,none⟩) len cap/\w.heap[b]? = some (.cells c el fz):=by
 unfold Cell.okWide Cell.ok at h;rw[ht]at h;cases v<;>first|exact h.elim|skip
 rename_i a len cap;cases a with
 | none=>
   left
   cases len<;>cases cap<;>first|rfl|exact h.elim
 | some a=>
   right
   obtain⟨_,_,_,h4,row,cells,h5,_⟩:=h;obtain⟨b,o,sp⟩:=a;simp only at h4 h5;subst h4;unfold World.shape? at h5;split at h5
   . rename_i c el fz hh;exact⟨b,o,len,cap,c,el,fz,rfl,hh⟩
   . cases h5
end
theorem F_{α:Type}{d:α}{Q:Nat->α->Prop}:∀{n:Nat},(∀i,i<n->∃a,Q i a)->∃l:List α,l.length=n/\∀i,i<n->Q i (l.getD i d)
 | 0,_=>⟨[],rfl,λi hi=>absurd hi (Nat.not_lt_zero _)⟩
 | n+1,h=>by
   obtain⟨l,hl,hq⟩:=F_ (n:=n) (d:=d) λi hi=>h i (by omega);obtain⟨a,ha⟩:=h n (by omega);refine⟨l++[a],by simp[hl],λi hi=>?_⟩;by_cases e:i<n
   . have:=hq i e;rw[zAe]at this ⊢
     rwa [List.getElem?_append_left (by omega)]
   . obtain rfl:i=n:=by omega
     rw[zAe,List.getElem?_append_right (by omega),hl,Nat.sub_self];exact ha
theorem JR{i:Nat}:(⟨b,o,none⟩:Addr).add i=⟨b,o+i,none⟩:=by
 unfold Addr.add;split
 . rename_i h;subst h;rfl
 . rfl
theorem Ix{k:IntKind}{n:Int}(h:(Lit.int k n).wf):k.min<=n/\n<=k.max:=by
 unfold Lit.wf at h;simpa using h
theorem Iq{i:Nat}(h:i<14+ws.length):(dW (Cw cfg ws) ⟨0,[],[]⟩ i).isSome->False:=by
 intro hs;unfold dW at hs;have:(Cw cfg ws).lo=14+ws.length:=rfl;rw[jK (by omega),cond_false]at hs;cases hs
theorem B4{f:FuncId}{fn:Func}{av:List AV}(hfn:Tryz.prog.funcs[f]? = some fn)(h4:(fn.name == "runtime.NumGoroutine")=false)(h5:fn.body.isNone=false)(hf:bt Tryz.prog cfg f av ws (.bool true) [])(hi:dV cfg (λid=>id<14+ws.length) m (Cw cfg ws) ⟨0,[],[]⟩ w)(ho:fN (λid=>id<14+ws.length) m av) :
 Calls Tryz.prog f (ap m av).toArray w λe w'=>e=.returned (.bool true)/\RowKit.Below w.heap.size w w':=by
 rcases hf _ m w hi ho with⟨_,h⟩|⟨v,w',hv,_⟩
 . refine h.mono ?_;rintro e w' ⟨v,rfl,D',m',rfl,_,he⟩;exact⟨rfl,he.os,he.tape,he.output,he.size,λk hk=>he.frame k hk λi hi ho=>(Iq hi ho).elim⟩
 . exfalso;have h6:¬fn.name = "runtime.NumGoroutine" := by simpa using h4
   have h7:¬fn.body=none:=λe=>by rw[e]at h5;cases h5
   simp[callFunc,hfn,h6,h7]at hv
def UY:Tryz.prog.cellsOf 23=2:=by kernel_rfl
def co5:Tryz.prog.cellsOf 5=1:=by kernel_rfl
def Xt:Tryz.prog.cellsOf 30=1:=by kernel_rfl
theorem I3:∀{gs:List (Int×Int)} {i:Nat},i<gs.length->(jI gs).getD (i*2+0) (.tuple [])=.int .u8 (gs.getD i (0,0)).1/\(jI gs).getD (i*2+1) (.tuple [])=.int .u8 (gs.getD i (0,0)).2
 | [],i,h=>absurd h (Nat.not_lt_zero i)
 | p::r,0,_=>⟨rfl,rfl⟩
 | p::r,i+1,h=>by
   have:=I3 (gs:=r) (i:=i) (by simpa using h);rw[show(i+1)*2+0=i*2+0+1+1 by omega,show(i+1)*2+1=i*2+1+1+1 by omega];simp only[jI,List.getD_cons_succ];exact this
section
variable{H:Type}{enc:TypeId×Value->H}{w:World}{sp:Nat->Bool}{held:Bool}
theorem DU{fuel len:Nat}{x:DataW H×List MemPlace}(h:DataW.trod enc Tryz.prog w 0 sp held fuel 30 [.slice (some ⟨b,o,none⟩) len cap]=some x) :
 ∃gs:List (Int×Int),gs.length=len/\(∀p∈gs,(0<=p.1/\p.1<=255)/\(0<=p.2/\p.2<=255))/\∀m i v,(jI gs)[i]? = some v->w.cell? ⟨b,o+i,none⟩=some (aj m v):=by
 rcases DataW.trod_slice Tryz.underlying30 h with⟨h1,_⟩|⟨a,len',cap',elems,rest,n,_,h1,_,_,_,_,hel,hat,_⟩
 . cases h1
 . cases h1;rw[UY]at hat;have main:∀i,i<len->∃p:Int×Int,((0<=p.1/\p.1<=255)/\(0<=p.2/\p.2<=255))/\w.cell? ⟨b,o+(i*2+0),none⟩=some (.int .u8 p.1)/\w.cell? ⟨b,o+(i*2+1),none⟩=some (.int .u8 p.2):=by
    intro i hi;have h3:=hat i hi;rw[List.getElem?_eq_getElem (by omega)]at h3;obtain⟨cs',hcs,htr⟩:=Option.bind_eq_some_iff.1 h3;obtain⟨xs,m',_,_,hl,hxl,hf⟩:=DataW.trod_array Tryz.underlying23 htr;rw[UY]at hl;rw[co5]at hf
    match cs',hl with
    | [u,v],_=>
      have f0:=hf 0 (by decide);have f1:=hf 1 (by decide);rw[List.getElem?_eq_getElem (by omega)]at f0 f1;obtain⟨a,ha,_,wa⟩:=DataW.trod_int Tryz.underlying5 f0;obtain⟨c,hc,_,wc⟩:=DataW.trod_int Tryz.underlying5 f1;cases ha;cases hc;obtain⟨_,_,hcell⟩:=World.cells?_some hcs;have g:∀j,j<2->w.cell? ⟨b,o+(i*2+j),none⟩=[Value.int .u8 a,.int .u8 c][j]? := λj hj=>by
       have:=hcell j hj;rw[JR,JR,Nat.add_assoc]at this;exact this
      exact⟨(a,c),⟨Ix wa,Ix wc⟩,g 0 (by omega),g 1 (by omega)⟩
   obtain⟨gs,hR,hq⟩:=F_ (d:=((0:Int),(0:Int))) main;refine⟨gs,hR,λp hp=>?_,λm i v hv=>?_⟩
   . obtain⟨i,hi,rfl⟩:=List.getElem_of_mem hp;have:=(hq i (by omega)).1;rw[zAe,List.getElem?_eq_getElem hi]at this;exact this
   . have hi:i<gs.length*2:=by
      have:=(List.getElem?_eq_some_iff.1 hv).1
      rwa [nc]at this
     have hg:(jI gs).getD i (.tuple [])=v:=by rw[zAe,hv];rfl
     obtain⟨f0,f1⟩:=I3 (gs:=gs) (i:=i/2) (by omega);obtain⟨_,q0,q1⟩:=hq (i/2) (by omega);have hc:i=i/2*2+0\/i=i/2*2+1:=by omega
     generalize i/2=q at *;rcases hc with rfl|rfl
     . rw[<-hg,Nat.add_zero,<-Nat.add_zero (q*2),f0];exact q0
     . rw[<-hg,f1];exact q1
theorem Oe{q:FP}{len:Nat}{d:DataW H}{p:List MemPlace}(ht:DataW.Trod enc Tryz.prog w 0 (λ_=>true) true 32 (q.v (.slice (some ⟨b,o,none⟩) len cap)) d p) :
 ∃gs:List (Int×Int),gs.length=len/\(∀p∈gs,(0<=p.1/\p.1<=255)/\(0<=p.2/\p.2<=255))/\∀m i v,(jI gs)[i]? = some v->w.cell? ⟨b,o+i,none⟩=some (aj m v):=by
 obtain⟨fuel,ht⟩:=ht;obtain⟨xs,n,_,_,_,hlen,hf⟩:=DataW.trod_struct Tryz.underlying32 ht;have h1:=hf 6 _ rfl;have hxl:xs.length=7:=hlen;rw[List.getElem?_eq_getElem (by omega)]at h1;change DataW.trod enc Tryz.prog w 0 (λ_=>true) true n 30 (List.take (Tryz.prog.cellsOf 30) _)=_ at h1;rw[Xt]at h1;exact DU h1
end
theorem Js(hi:dV cfg (λid=>id<14) m C0 ⟨0,[],[]⟩ w){L:List bq}(hL:Me cfg.root.n (λid=>id<14) m w L ws):dV cfg (λid=>id<14+ws.length) (mL cfg.root.n m L) (Cw cfg ws) ⟨0,[],[]⟩ w:=by
 have h:=Is dG.lv AD hi hL;have e:DL cfg.root.n (λid=>id<14) L=λid=>id<14+ws.length:=by
  funext id
  unfold DL;have:=hL.1;have h14:cfg.root.n=14:=rfl;rw[h14];exact propext ⟨λk=>by omega,λk=>by omega⟩
 rw[e]at h;exact h
theorem QR{l:bq}{L:List bq}:mL cfg.root.n m (l::L) 14=l:=rfl
theorem Ok{gs:List (Int×Int)}(hb:∃c e fz,w.heap[b]? = some (.cells c e fz))(hc:∀m i v,(jI gs)[i]? = some v->w.cell? ⟨b,o+i,none⟩=some (aj m v)):Jn cfg.root.n (λid=>id<14) m w (.cells (jI gs) false none) ⟨b,o,0⟩:=by
 obtain⟨c,el,fz,hh⟩:=hb;refine⟨_,rfl,iU,?_,c,el,fz,hh,λi v hv=>?_⟩
 . intro i hi;rw[oQ]at hi;cases hi
 . have:=hc m i v hv;unfold World.cell? at this;simp only[hh]at this;exact this
theorem Nd{cfg':cG}{f:FuncId}{args:List AV}{v:AV}(hG:cfg.G=cfg'.G)(hr:cfg.root=cfg'.root)(h:gF Tryz.prog cfg' f args v):gF Tryz.prog cfg f args v:=λC D m o w hi hok=>
 (h C D m o w (dV.to (cfg:=cfg) (cfg':=cfg') hG.symm hr.symm hi) hok).mono λV w' ⟨h1,h2,h3,h4⟩=>⟨h1,h2,dk.to (cfg:=cfg') (cfg':=cfg) hG hr h3,h4⟩
theorem Sk:gF Tryz.prog cfg 13 [] (.bool true):=Nd (cfg':=Qy) rfl rfl ((Us (UF (VP dG))).fact 10000 Zx)
theorem H_:bt Tryz.prog cfg 13 [] [] (.bool true) []:=λD m w hi hok=>(Sk (Cw cfg []) D m ⟨0,[],[]⟩ w hi hok).mono λV w' ⟨h1,h2,h3,_⟩=>⟨D,m,h1,h2,h3⟩
theorem calls4{H:Type}{enc:TypeId×Value->H}{r:Reach}{b0:Nat}{v0 v1:Value}{d0:DataW H}{p0:List MemPlace}(hL:laidMetH Tryz.prog pN w)(h0:Value.okWide Tryz.prog w r b0 32 v0)(h1:Value.okWide Tryz.prog w r b0 2 v1)(t0:DataW.Trod enc Tryz.prog w 0 (λ_=>true) true 32 v0 d0 p0) :
 Calls Tryz.prog 4 #[v0,v1] w λe w'=>e=.returned (.bool true)/\RowKit.Below w.heap.size w w':=by
 obtain⟨m,hi⟩:=Kf (Ij hL);obtain⟨q0,s0,rfl,k0,c0⟩:=Si h0;have h1':Cell.okWide Tryz.prog w r b0 2 v1:=by
  unfold Value.okWide at h1;rw[Tryz.underlying2]at h1;exact h1
 obtain⟨X,rfl,hr⟩:=ex Tryz.underlying2 h1';have hX:ae .i64 X=true:=by rw[aB];exact hr
 rcases Eh Tryz.underlying30 c0 with rfl|⟨bk,o,len,cap,cc,el,fz,rfl,hh⟩
 . have:=B4 Tryz.func4 (by kernel_rfl) (by kernel_rfl) (f4n H_ k0 hX) (Js (L:=[]) (ws:=[]) hi ⟨rfl,λj x l hx=>by cases hx⟩) (by simp[FP.a,fN,bz,aD]);simpa only[FP.a,FP.v,ap,aj]using this
 . obtain⟨gs,hg,hin,hc⟩:=Oe t0;have:=B4 Tryz.func4 (by kernel_rfl) (by kernel_rfl) (Z9 (gs:=gs) (K:=.known cap) H_ hin k0 hX) (Js (L:=[⟨bk,o,0⟩]) hi ⟨rfl,λj x l hx hl=>by
    match j with
    | 0=>cases hx;cases hl;exact Ok ⟨cc,el,fz,hh⟩ hc
    | j+1=>cases hx⟩) (by simp[FP.a,fN,bz,aD,fj])
   rw[hg]at this;simpa only[FP.a,FP.v,ap,aj,jA,QR,Nat.add_zero]using this
end Go.Ev
end
section
namespace Go.Proofs.YtoghlpcacfnjbaaGreatDoor.fnMembersOf
open Go.ChangeShapes Go.WideShapes Go.ChangeAt Go.RowKit
def recP:Tryz.prog.readableRec 32=true:=by kernel_rfl
theorem rowP:32 < Tryz.prog.types.size:=of_decide_eq_true (by kernel_rfl)
def rec5:Tryz.prog.readableRec 2=true:=by kernel_rfl
theorem row5:2 < Tryz.prog.types.size:=of_decide_eq_true (by kernel_rfl)
theorem contract(H:Type)(enc:TypeId×Value->H)(W:World)(args:Array Value)(ds gs:List (DataW H))(before:List MemPlace)(r:Reach)(b0:Nat)
 (hval:∀(j:Nat) (t:TypeId) (v:Value),Tryz.f4.params[j]? = some t->args[j]? = some v->Value.okWide Tryz.prog W r b0 t v)
 (hW:DataW.Whole enc Tryz.prog Tryz.f4.params.toList Rows.membersOfSpec.vars false W args.toList ds gs before) (hL:laidMetH Tryz.prog Rows.membersOfRow.laid W) :
 Calls Tryz.prog 4 args W λe W'=>∃v,e=.returned v/\Rows.membersOfSpec.post enc Tryz.prog Tryz.f4 false true false false W args v W':=by
 have hW':=hW;obtain⟨p,q,hA0,hV,rfl,hfz,hnd⟩:=hW;have hA:DataW.TrodAll enc Tryz.prog W 0 (λ_=>true) true Tryz.f4.params.toList args.toList ds p:=hA0;rw[Tryz.params4]at hA hval;obtain⟨v0,v1,d0,d1,p0,p1,rfl,rfl,rfl,hd0,hd1⟩:=trodAll_two hA;obtain⟨rfl,rfl⟩:=trodVars_none hV;clear hA0;refine(Go.Ev.calls4 hL (hval 0 32 v0 rfl rfl) (hval 1 2 v1 rfl rfl) hd0).mono λe W' ⟨he,hb⟩=>?_;subst he;refine⟨_,rfl,Go.Ev.post_of_below (pa:=p0++p1) (pv:=[]) hW' (λ_ _ _=>trodAll_cons_mk (shut_bool Tryz.underlying4 _) trodAll_mk0) (λsp hsp=>?_) (λ_ _=>rfl) (by simp) hb (ok_one (by kernel_rfl) rfl (okWide_bool_mk Tryz.underlying4 _))⟩;rw[Tryz.params4];have same:∀x,x∈(p0++p1)++[]->W.sameAt W' x:=λx hx=>Go.Ev.below_place hb (hW'.lt x (by simpa using hx));exact trodAll_mk2 (Go.WideElems.Trod_stays Go.Ev.laidOut recP rowP hd0 (λx hx=>same x (by simp[hx])) λx hx=>hsp x (by simp[hx])) (Go.WideElems.Trod_stays Go.Ev.laidOut rec5 row5 hd1 (λx hx=>same x (by simp[hx])) λx hx=>hsp x (by simp[hx]))
noncomputable abbrev Fa(x:Program->FuncId->Func->ChangeSpec->OpenClaim->Bool):Bool:=x Tryz.prog 4 Tryz.f4 Rows.membersOfSpec Rows.membersOfRow
def fa0:(Fa λP f fn s c=>c.wf (OpenSpec.ofChange s))=true:=by kernel_rfl
def fa1:(Fa λP f fn s c=>laidOutB P)=true:=by kernel_rfl
def fa2:(Fa λP f fn s c=>mapsRowed P)=true:=by kernel_rfl
def fa3:(Fa λP f fn s c=>fn.params.all (P.readableRec ·))=true:=by kernel_rfl
def fa4:(Fa λP f fn s c=>namedTie P c.named s.vars)=true:=by kernel_rfl
def fa5:(Fa λP f fn s c=>(c.stops==[]))=true:=by kernel_rfl
def fa6:(Fa λP f fn s c=>(P.stops==[]))=true:=by kernel_rfl
def fa7:(Fa λP f fn s c=>(c.knobs==[]))=true:=by kernel_rfl
def fa8:(Fa λP f fn s c=>(P.stopKnobs==[]))=true:=by kernel_rfl
def fa9:(Fa λP f fn s c=>(c.inPlace==P.inPlace f))=true:=by kernel_rfl
def fa10:(Fa λP f fn s c=>(c.unfollowed==P.unfollowed f))=true:=by kernel_rfl
def fa11:(Fa λP f fn s c=>(c.recurses==P.recurses f))=true:=by kernel_rfl
def fa12:(Fa λP f fn s c=>(c.named==P.varsNamed f))=true:=by kernel_rfl
def fa13:(Fa λP f fn s c=>(c.maps==(fn.params.toList++s.plain.varTypes P).any (P.mapsRec ·)))=true:=by kernel_rfl
def fa14:(Fa λP f fn s c=>(c.ifaces==(fn.params.toList++s.plain.varTypes P).any (P.ifacesRec ·)))=true:=by kernel_rfl
def fa15:(Fa λP f fn s c=>(c.mapsOut==P.mapsAmong fn.resultTypes.toList))=true:=by kernel_rfl
def fa16:(Fa λP f fn s c=>(c.loops==(fn.params.toList++s.plain.varTypes P).any (P.loopsFrom ·)))=true:=by kernel_rfl
def fa17:(Fa λP f fn s c=>(c.wideKeys==(fn.params.toList++s.plain.varTypes P++fn.resultTypes.toList).any (P.wideKeysFrom ·)))=true:=by kernel_rfl
def fa18:(Fa λP f fn s c=>s.vars.all (P.varReadable ·))=true:=by kernel_rfl
def fa19:(Fa λP f fn s c=>fn.resultTypes.all (λt=>P.readableRec t&&decide (t<P.types.size)))=true:=by kernel_rfl
def fa20:(Fa λP f fn s c=>(c.ifacesOut==fn.resultTypes.toList.any (P.ifacesRec ·)))=true:=by kernel_rfl
def fa21:(Fa λP f fn s c=>(c.loopsOut==fn.resultTypes.toList.any (P.loopsFrom ·)))=true:=by kernel_rfl
def fa22:(Fa λP f fn s c=>(c.plainKeys==P.plainKeys))=true:=by kernel_rfl
def fa23:(Fa λP f fn s c=>c.shortTexts.isNone)=true:=by kernel_rfl
def fa24:(Fa λP f fn s c=>P.stopsHeard)=true:=by kernel_rfl
def fa25:(Fa λP f fn s c=>P.mayEnter)=true:=by kernel_rfl
def fa26:(Fa λP f fn s c=>(c.lifted==P.liftsFinal))=true:=by kernel_rfl
def fa27:(Fa λP f fn s c=>(P.make==some c.make))=true:=by kernel_rfl
def fa28:(Fa λP f fn s c=>(c.kinds==(if c.domain.isEmpty then[]else fn.params.toList.map λt=>match P.underlying t with|some (.int k)=>some k|_=>none)))=true:=by kernel_rfl
def fa29:(Fa λP f fn s c=>(c.pinned==c.pinnedBy))=true:=by kernel_rfl
def fa30:(Fa λP f fn s c=>(c.veiled==(fn.params.toList++s.plain.varTypes P++fn.resultTypes.toList).any (P.veiledRec ·)))=true:=by kernel_rfl
def fa31:(Fa λP f fn s c=>c.veiledFits P fn.params.toList (fn.params.toList++s.plain.varTypes P++fn.resultTypes.toList))=true:=by kernel_rfl
theorem facts:joinedFacts Tryz.prog 4 Tryz.f4 Rows.membersOfSpec Rows.membersOfRow=true:=by
 unfold joinedFacts;simp only[zAa];exact⟨⟨⟨⟨⟨⟨⟨⟨⟨⟨⟨⟨⟨⟨⟨⟨⟨⟨⟨⟨⟨⟨⟨⟨⟨⟨⟨⟨⟨⟨⟨fa0,fa1⟩,fa2⟩,fa3⟩,fa4⟩,fa5⟩,fa6⟩,fa7⟩,fa8⟩,fa9⟩,fa10⟩,fa11⟩,fa12⟩,fa13⟩,fa14⟩,fa15⟩,fa16⟩,fa17⟩,fa18⟩,fa19⟩,fa20⟩,fa21⟩,fa22⟩,fa23⟩,fa24⟩,fa25⟩,fa26⟩,fa27⟩,fa28⟩,fa29⟩,fa30⟩,fa31⟩
end Go.Proofs.YtoghlpcacfnjbaaGreatDoor.fnMembersOf
end
section
namespace Go.Ev.Wit
open Go Go.Proofs
def bB:Nat->DataW Unit->List Value
 | 0,_=>[]
 | d+1,.agg xs=>xs.flatMap (bB d)
 | _,.lit (.int k n)=>[.int k n]
 | _,_=>[]
def Zz(h:Array Obj)(b:Nat)(c:List Value):Array Obj:=h.modify b λ
 | .cells _ t frozen=>.cells c.toArray t frozen
 | o=>o
def XR(B:Nat):List (Nat×List Value):=[(9,[.int .u8 (0),.int .u8 (1),.int .u8 (28),.int .u8 (2),.int .u8 (29),.int .u8 (14),.int .u8 (24),.int .u8 (3),.int .u8 (30),.int .u8 (22),.int .u8 (20),.int .u8 (15),.int .u8 (25),.int .u8 (17),.int .u8 (4),.int .u8 (8),.int .u8 (31),.int .u8 (27),.int .u8 (13),.int .u8 (23),.int .u8 (21),.int .u8 (19),.int .u8 (16),.int .u8 (7),.int .u8 (26),.int .u8 (12),.int .u8 (18),.int .u8 (6),.int .u8 (11),.int .u8 (5),.int .u8 (10),.int .u8 (9)]),
 (10,[.int .u8 (0),.int .u8 (1),.int .u8 (56),.int .u8 (2),.int .u8 (57),.int .u8 (49),.int .u8 (28),.int .u8 (3),.int .u8 (61),.int .u8 (58),.int .u8 (42),.int .u8 (50),.int .u8 (38),.int .u8 (29),.int .u8 (17),.int .u8 (4),.int .u8 (62),.int .u8 (47),.int .u8 (59),.int .u8 (36),.int .u8 (45),.int .u8 (43),.int .u8 (51),.int .u8 (22),.int .u8 (53),.int .u8 (39),.int .u8 (33),.int .u8 (30),.int .u8 (24),.int .u8 (18),.int .u8 (12),.int .u8 (5),.int .u8 (63),.int .u8 (55),.int .u8 (48),.int .u8 (27),.int .u8 (60),.int .u8 (41),.int .u8 (37),.int .u8 (16),.int .u8 (46),.int .u8 (35),.int .u8 (44),.int .u8 (21),.int .u8 (52),.int .u8 (32),.int .u8 (23),.int .u8 (11),.int .u8 (54),.int .u8 (26),.int .u8 (40),.int .u8 (15),.int .u8 (34),.int .u8 (20),.int .u8 (31),.int .u8 (10),.int .u8 (25),.int .u8 (14),.int .u8 (19),.int .u8 (9),.int .u8 (13),.int .u8 (8),.int .u8 (7),.int .u8 (6)]),
 (8,[.int .u64 (1),.int .u64 (10),.int .u64 (100),.int .u64 (1000),.int .u64 (10000),.int .u64 (100000),.int .u64 (1000000),.int .u64 (10000000),.int .u64 (100000000),.int .u64 (1000000000),.int .u64 (10000000000),.int .u64 (100000000000),.int .u64 (1000000000000),.int .u64 (10000000000000),.int .u64 (100000000000000),.int .u64 (1000000000000000),.int .u64 (10000000000000000),.int .u64 (100000000000000000),.int .u64 (1000000000000000000),.int .u64 (10000000000000000000)]),
 (7,[.int .u8 (128),.int .u8 (191),.int .u8 (160),.int .u8 (191),.int .u8 (128),.int .u8 (159),.int .u8 (144),.int .u8 (191),.int .u8 (128),.int .u8 (143),.int .u8 (0),.int .u8 (0),.int .u8 (0),.int .u8 (0),.int .u8 (0),.int .u8 (0),.int .u8 (0),.int .u8 (0),.int .u8 (0),.int .u8 (0),.int .u8 (0),.int .u8 (0),.int .u8 (0),.int .u8 (0),.int .u8 (0),.int .u8 (0),.int .u8 (0),.int .u8 (0),.int .u8 (0),.int .u8 (0),.int .u8 (0),.int .u8 (0)]),
 (4,[.iface 345 (.pointer (some ⟨B+0,0,none⟩))]),
 (3,[.iface 345 (.pointer (some ⟨B+1,0,none⟩))]),
 (5,[.slice (some ⟨B+2,0,none⟩) 3 3]),
 (1,[.int .i64 (31),.int .i64 (28),.int .i64 (31),.int .i64 (30),.int .i64 (31),.int .i64 (30),.int .i64 (31),.int .i64 (31),.int .i64 (30),.int .i64 (31),.int .i64 (30),.int .i64 (31)]),
 (2,[.int .i64 (3),.int .i64 (3),.int .i64 (6),.int .i64 (3),.int .i64 (9),.int .i64 (3),.int .i64 (12),.int .i64 (3),.int .i64 (3),.int .i64 (3),.int .i64 (6),.int .i64 (3),.int .i64 (9),.int .i64 (3),.int .i64 (12),.int .i64 (3),.int .i64 (9),.int .i64 (3),.int .i64 (12),.int .i64 (3),.int .i64 (3),.int .i64 (3),.int .i64 (6),.int .i64 (3),.int .i64 (1),.int .i64 (3),.int .i64 (4),.int .i64 (3),.int .i64 (7),.int .i64 (3),.int .i64 (10),.int .i64 (3),.int .i64 (1),.int .i64 (4),.int .i64 (5),.int .i64 (4),.int .i64 (9),.int .i64 (4),.int .i64 (1),.int .i64 (6),.int .i64 (7),.int .i64 (6)]),
 (6,bB 9 Go.Pinned.utf8First)]
def Ye(B:Nat):List Obj:=[.cells #[.string ⟨#[118,97,108,117,101,32,111,117,116,32,111,102,32,114,97,110,103,101]⟩] 347 (0,0),.cells #[.string ⟨#[105,110,118,97,108,105,100,32,115,121,110,116,97,120]⟩] 347 (0,0),.cells #[.int .i64 (4),.int .i64 (1),.int .i64 (100),.int .i64 (-1),.int .i64 (400),.int .i64 (1)] 322 (0,0)]
noncomputable def L9(h:Array Obj):Array Obj:=((XR h.size).foldl (λh p=>Zz h p.1 p.2) h)++(Ye h.size).toArray
noncomputable def laidWorld(os:Os):World:={ World.holding Tryz.prog os ⟨#[],#[],[]⟩with heap:=L9 (World.holding Tryz.prog os ⟨#[],#[],[]⟩).heap }
end Go.Ev.Wit
end
