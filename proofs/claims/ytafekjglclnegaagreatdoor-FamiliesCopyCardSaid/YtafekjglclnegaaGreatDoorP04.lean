import Derived.Calls
import Derived.Scope
import Derived.Below
import Derived.Laws.Cells
import Derived.Laws.Entries
import Derived.Test.YtafekjglclnegaaGreatDoorP03
set_option linter.all false
section
namespace Go.Ev
open Go
structure bo where
 blk:Nat
 base:Nat
 cap:Nat
def gI(l:bo):dv->Nat
 | .known n=>n
 | .rest k=>l.cap-k
mutual
def aj(m:Nat->bo):AV->Value
 | .bool b=>.bool b
 | .int k n=>.int k n
 | .str s=>.string ⟨⟨s⟩⟩
 | .ptr id off=>.pointer (some ⟨(m id).blk,(m id).base+off,none⟩)
 | .nilptr=>.pointer none
 | .slice id off len c=>.slice (some ⟨(m id).blk,(m id).base+off,none⟩) len (gI (m id) c)
 | .nilslice=>.slice none 0 0
 | .func f a b=>.func (.func f) (ar m a).toArray (ar m b).toArray
 | .nilfunc=>.nilFunc
 | .iface t v=>.iface t (aj m v)
 | .niliface=>.nilIface
 | .agg cs=>.agg (ar m cs).toArray
 | .tuple cs=>.tuple (ar m cs).toArray
 | .map id=>.map (some (m id).blk)
 | .nilmap=>.map none
 | .yield id=>.func (.yield (m id).blk) #[] #[]
 | .any v=>v
def ar(m:Nat->bo):List AV->List Value
 | []=>[]
 | v::vs=>aj m v::ar m vs
end
def d6(len:Nat):dv->Nat
 | .known _=>0
 | .rest k=>len+k
mutual
def aq:AV->List (Nat×Nat)
 | .ptr id _=>[(id,0)]
 | .slice id _ len c=>[(id,d6 len c)]
 | .map id=>[(id,0)]
 | .yield id=>[(id,0)]
 | .func _ a b=>bG a++bG b
 | .iface _ v=>aq v
 | .agg cs=>bG cs
 | .tuple cs=>bG cs
 | _=>[]
def bG:List AV->List (Nat×Nat)
 | []=>[]
 | v::vs=>aq v++bG vs
end
def cY(D:Nat->Prop)(m:Nat->bo)(v:AV):Prop:=∀i∈aq v,D i.1/\i.2<=(m i.1).cap
def eI(D:Nat->Prop)(m:Nat->bo)(vs:List AV):Prop:=∀i∈bG vs,D i.1/\i.2<=(m i.1).cap
theorem eB(m:Nat->bo):∀vs,ar m vs=vs.map (aj m)
 | []=>by rw[ar];rfl
 | v::vs=>by rw[ar,eB m vs];rfl
theorem eP{i:Nat×Nat}:∀{vs:List AV},i∈bG vs↔∃v∈vs,i∈aq v
 | []=>by simp[bG]
 | v::vs=>by simp[bG,eP (vs:=vs)]
theorem dy{D:Nat->Prop}{m:Nat->bo}{vs:List AV}:eI D m vs↔∀v∈vs,cY D m v:=by
 constructor
 · intro h v hv i hi;exact h i (eP.2 ⟨v,hv,hi⟩)
 · intro h i hi;obtain⟨v,hv,hi⟩:=eP.1 hi;exact h v hv i hi
theorem cq{D:Nat->Prop}{m:Nat->bo}{v:AV}{vs:List AV}:eI D m (v::vs)↔cY D m v/\eI D m vs:=by simp[dy]
theorem dT{D:Nat->Prop}{m:Nat->bo}{vs us:List AV}:eI D m (vs++us)↔eI D m vs/\eI D m us:=by
 simp only[dy,List.mem_append]
 exact⟨λh=>⟨λv hv=>h v (.inl hv),λv hv=>h v (.inr hv)⟩,λh v hv=>hv.elim (h.1 v) (h.2 v)⟩
theorem eL{D:Nat->Prop}{m:Nat->bo}:eI D m []:=by simp[dy]
theorem gA{D:Nat->Prop}{m:Nat->bo}{cs:List AV}:cY D m (.agg cs)↔eI D m cs:=by simp[cY,eI,aq]
theorem eU{D:Nat->Prop}{m:Nat->bo}{cs:List AV}:cY D m (.tuple cs)↔eI D m cs:=by simp[cY,eI,aq]
theorem gc{D:Nat->Prop}{m:Nat->bo}:cY D m bj:=by simp[bj,eU,eL]
theorem cY.mono{D D':Nat->Prop}{m m':Nat->bo}{v:AV}(h:cY D m v)(hd:∀i,D i->D' i)(hs:∀i,D i->m' i=m i):cY D' m' v:=
 λi hi=>⟨hd _ (h i hi).1,by rw[hs _ (h i hi).1];exact(h i hi).2⟩
theorem eI.mono{D D':Nat->Prop}{m m':Nat->bo}{v:List AV}(h:eI D m v)(hd:∀i,D i->D' i)(hs:∀i,D i->m' i=m i):eI D' m' v:=
 λi hi=>⟨hd _ (h i hi).1,by rw[hs _ (h i hi).1];exact(h i hi).2⟩
theorem bQ{D:Nat->Prop}{m:Nat->bo}{v:AV}(h:aq v=[]):cY D m v:=λi hi=>by rw[h]at hi;cases hi
theorem lE{D:Nat->Prop}{m:Nat->bo}{v:AV}(h:cY D m v):eI D m (bP v):=by
 cases v<;>simp only[bP]<;>first|exact gA.1 h|exact cq.2 ⟨h,eL⟩|skip
 exact dy.2 λx hx=>by
  obtain⟨y,_,rfl⟩:=List.mem_map.1 hx
  exact bQ (by simp[aq])
mutual
theorem gY{m m':Nat->bo}:∀(v:AV),(∀i∈aq v,m i.1=m' i.1)->aj m v=aj m' v
 | .bool b,_=>by simp[aj]
 | .int k n,_=>by simp[aj]
 | .str s,_=>by simp[aj]
 | .ptr id off,h=>by simp[aj,h (id,_) (by simp[aq];rfl)]
 | .nilptr,_=>by simp[aj]
 | .slice id off len c,h=>by simp[aj,h (id,_) (by simp[aq];rfl)]
 | .nilslice,_=>by simp[aj]
 | .func f a b,h=>by
   simp only[aj]
   rw[gf a (λi hi=>h i (by simp[aq,hi])),gf b (λi hi=>h i (by simp[aq,hi]))]
 | .nilfunc,_=>by simp[aj]
 | .iface t v,h=>by simp only[aj];rw[gY v (λi hi=>h i (by simp[aq,hi]))]
 | .niliface,_=>by simp[aj]
 | .agg cs,h=>by simp only[aj];rw[gf cs (λi hi=>h i (by simp[aq,hi]))]
 | .tuple cs,h=>by simp only[aj];rw[gf cs (λi hi=>h i (by simp[aq,hi]))]
 | .map id,h=>by simp[aj,h (id,_) (by simp[aq];rfl)]
 | .nilmap,_=>by simp[aj]
 | .yield id,h=>by simp[aj,h (id,_) (by simp[aq];rfl)]
 | .any v,_=>by simp[aj]
theorem gf{m m':Nat->bo}:∀(vs:List AV),(∀i∈bG vs,m i.1=m' i.1)->ar m vs=ar m' vs
 | [],_=>by simp[ar]
 | v::vs,h=>by
   simp only[ar]
   rw[gY v (λi hi=>h i (by simp[bG,hi])),gf vs (λi hi=>h i (by simp[bG,hi]))]
end
theorem g8{D:Nat->Prop}{m m':Nat->bo}{v:AV}(h:cY D m v)(hs:∀i,D i->m' i=m i):aj m' v=aj m v:=
 (gY v λi hi=>(hs i.1 (h i hi).1).symm).symm
theorem rP{D:Nat->Prop}{m m':Nat->bo}{v:List AV}(h:eI D m v)(hs:∀i,D i->m' i=m i):ar m' v=ar m v:=
 (gf v λi hi=>(hs i.1 (h i hi).1).symm).symm
theorem gZ(m:Nat->bo):aj m bj=undef:=by simp[bj,aj,ar,undef]
theorem nW(b want:Bool):(bif want then b else !b)=(b==want):=by cases b<;>cases want<;>rfl
theorem vG(m:Nat->bo):∀vs:List Value,ar m (vs.map .any)=vs
 | []=>by simp[ar]
 | v::vs=>by simp[ar,aj,vG m vs]
theorem eJ(m:Nat->bo)(v:AV):(aj m v).cells=(ar m (bP v)).toArray:=by
 cases v with
 | any v=>simp only[aj,bP,vG,Array.toArray_toList]
 | _=>simp[aj,Value.cells,bP,ar]
theorem vI{m:Nat->bo}{v:AV}(h:Gv v=true):(aj m v).oneCell'=true:=by
 cases v<;>simp_all [aj,Gv,Value.oneCell']
theorem nc:∀{vs:List AV},eF vs=true↔∀v∈vs,Gv v=true
 | []=>by simp[eF]
 | v::vs=>by simp[eF,nc (vs:=vs)]
theorem dI{a b:Nat}(h:a=b):Nat.beq a b=true:=by rw[Nat.beq_eq];exact h
theorem iH{a b:Nat}(h:a≠b):Nat.beq a b=false:=by rw[<-Bool.not_eq_true,Nat.beq_eq];exact h
theorem cK{a b:Nat}:Nat.beq a b=true↔a=b:=by rw[Nat.beq_eq]
theorem bt{a b:Nat}:Nat.ble a b=true↔a<=b:=by rw[Nat.ble_eq]
theorem im{a b:Nat}(h:¬a<=b):Nat.ble a b=false:=by rw[<-Bool.not_eq_true,Nat.ble_eq];exact h
theorem ag{α β:Type}{x:Option α}{f:α->Option β}{b:β}:ob x f=some b↔∃a,x=some a/\f a=some b:=by
 cases x<;>simp[ob]
theorem ay{α:Type}{b:Bool}{x:Option α}{a:α}:ok b x=some a↔b=true/\x=some a:=by
 cases b<;>simp[ok]
theorem bF{o:aC}{x:Option AV}{r:AV×aC}:fw o x=some r↔x=some r.1/\r.2=o:=by
 obtain⟨v,o'⟩:=r
 cases x<;>simp[fw,ob]
 intro _;exact eq_comm
theorem ba{a b:Nat}:bm a b=true↔a<b:=by simp[bm,Nat.ble_eq];omega
theorem k8{a b:Nat}:bm a b=false↔b<=a:=by
 rw[<-Bool.not_eq_true,ba];omega
theorem Ts.get_nil(i:Nat):Ts.nil.get i=bj:=by cases i<;>rfl
theorem Ts.get_val(t:Ts):t.get 0=t.val:=by cases t<;>rfl
theorem Ts.get_odd(t:Ts)(i:Nat)(h:i≠0)(ho:i%2=1):t.get i=t.left.get (i/2):=by
 cases t with
 | nil=>rw[Ts.get_nil];exact(Ts.get_nil _).symm
 | node v l r=>
   have h0:Nat.beq i 0=false:=by simpa [<-Bool.not_eq_true]using h
   have h1:Nat.beq (i%2) 1=true:=by simp[ho]
   simp[Ts.get,h0,h1,Ts.left]
theorem Ts.get_even(t:Ts)(i:Nat)(h:i≠0)(ho:i%2=0):t.get i=t.right.get (i/2-1):=by
 cases t with
 | nil=>rw[Ts.get_nil];exact(Ts.get_nil _).symm
 | node v l r=>
   have h0:Nat.beq i 0=false:=by simpa [<-Bool.not_eq_true]using h
   have h1:Nat.beq (i%2) 1=false:=iH (by omega)
   simp[Ts.get,h0,h1,Ts.right]
theorem Ts.get_set:∀(d:Nat) (t:Ts) (i j:Nat) (v:AV),i<2^d-1->(Ts.set d t i v).get j=if j=i then v else t.get j
 | 0,t,i,j,v,h=>by simp at h
 | d+1,t,i,j,v,h=>by
   have hp:2^(d+1)=2*2^d:=by rw[Nat.pow_succ];omega
   have hpos:0<2^d:=Nat.two_pow_pos d
   unfold Ts.set
   by_cases hi:i=0
   · subst hi
     by_cases hj:j=0
     · subst hj;simp[Ts.get]
     · rw[if_neg hj]
       rcases Nat.mod_two_eq_zero_or_one j with h2|h2
       · simp only[dI (rfl:(0:Nat)=0),cond_true]
         rw[Ts.get_even _ j hj h2,Ts.get_even t j hj h2];rfl
       · simp only[dI (rfl:(0:Nat)=0),cond_true]
         rw[Ts.get_odd _ j hj h2,Ts.get_odd t j hj h2];rfl
   · have h0:Nat.beq i 0=false:=by simpa [<-Bool.not_eq_true]using hi
     rw[h0,cond_false]
     rcases Nat.mod_two_eq_zero_or_one i with h2|h2
     · have h1:Nat.beq (i%2) 1=false:=iH (by omega)
       rw[h1,cond_false]
       by_cases hj:j=0
       · subst hj;rw[if_neg (Ne.symm hi),Ts.get_val,Ts.get_val];rfl
       · rcases Nat.mod_two_eq_zero_or_one j with k2|k2
         · rw[Ts.get_even _ j hj k2,Ts.get_even t j hj k2]
           simp only[Ts.right]
           rw[Ts.get_set d _ _ _ _ (by omega)]
           by_cases e:j=i
           · grind
           · grind
         · rw[Ts.get_odd _ j hj k2,Ts.get_odd t j hj k2,if_neg (by omega)];rfl
     · have h1:Nat.beq (i%2) 1=true:=by simp[h2]
       rw[h1,cond_true]
       by_cases hj:j=0
       · subst hj;rw[if_neg (Ne.symm hi),Ts.get_val,Ts.get_val];rfl
       · rcases Nat.mod_two_eq_zero_or_one j with k2|k2
         · rw[Ts.get_even _ j hj k2,Ts.get_even t j hj k2,if_neg (by omega)];rfl
         · rw[Ts.get_odd _ j hj k2,Ts.get_odd t j hj k2]
           simp only[Ts.left]
           rw[Ts.get_set d _ _ _ _ (by omega)]
           by_cases e:j=i
           · grind
           · grind
theorem Ts.get_ofList:∀(vs:List AV) (i:Nat) (t:Ts) (j:Nat),i+vs.length<1000000->
 (Ts.ofList i t vs).get j=if i<=j/\j<i+vs.length then vs.getD (j-i) bj else t.get j
 | [],i,t,j,_=>by simp[Ts.ofList];omega
 | v::vs,i,t,j,h=>by
   simp only[List.length_cons]at h
   rw[Ts.ofList,Ts.get_ofList vs (i+1) _ j (by omega)]
   by_cases h1:i+1<=j/\j<i+1+vs.length
   · grind
   · rw[if_neg h1,Ts.get_set 20 t i j v (by omega)]
     by_cases e:j=i
     · grind
     · grind
theorem pM(x:aw):∀(os:List aw) (k:Nat),(tx os k x).length=os.length
 | [],_=>rfl
 | _::_,0=>rfl
 | _::os,k+1=>by simp[tx,pM x os k]
theorem tN(x d:aw):∀(os:List aw) (k j:Nat),(tx os k x).getD j d=if j=k/\k<os.length then x else os.getD j d
 | [],k,j=>by simp[tx]
 | y::os,0,0=>by simp[tx]
 | y::os,0,j+1=>by simp[tx]
 | y::os,k+1,0=>by simp[tx]
 | y::os,k+1,j+1=>by
   have:=tN x d os k j
   simpa [tx]using this
theorem aC.at_push(o:aC)(x:aw)(i:Nat)(h:i<=o.n):(o.push x).at i=if i=o.n then x else o.at i:=by
 unfold aC.at aC.push
 by_cases e:i=o.n
 · grind
 · grind
theorem aC.at_put(o:aC)(x:aw)(i j:Nat)(hl:o.os.length=o.n)(hi:i<o.n)(hj:j<o.n):(o.put i x).at j=if j=i then x else o.at j:=by
 unfold aC.at aC.put
 simp only
 rw[tN]
 by_cases e:j=i
 · grind
 · grind
theorem nd(x:aw):∀(l:List (Nat×aw)) (i j:Nat),ew (rN l i x) j=if j=i/\(ew l i).isSome then some x else ew l j
 | [],i,j=>by simp[rN,ew]
 | p::l,i,j=>by
   unfold rN
   by_cases e:p.1=i
   · have h1:Nat.beq p.1 i=true:=by simp[e]
     simp only[h1,cond_true,ew,Option.isSome_some,and_true]
     by_cases ej:j=i
     · grind
     · have:Nat.beq i j=false:=by simpa [<-Bool.not_eq_true]using Ne.symm ej
       have h2:Nat.beq p.1 j=false:=by rw[e];exact this
       simp[this,h2,ej]
   · have h1:Nat.beq p.1 i=false:=by simpa [<-Bool.not_eq_true]using e
     simp only[h1,cond_false,ew]
     by_cases ej:p.1=j
     · simp_all
     · have h2:Nat.beq p.1 j=false:=by simpa [<-Bool.not_eq_true]using ej
       simp only[h2,cond_false]
       exact nd x l i j
theorem vU(x:aw):∀(l:List (Nat×aw)) (i:Nat),(rN l i x).map (·.1)=l.map (·.1)
 | [],_=>rfl
 | p::l,i=>by
   unfold rN
   by_cases e:p.1=i
   · simp[e]
   · have h1:Nat.beq p.1 i=false:=by simpa [<-Bool.not_eq_true]using e
     simp[h1,vU x l i]
theorem d7:∀{l:List (Nat×aw)} {i:Nat},(ew l i).isSome=true↔i∈l.map (·.1)
 | [],i=>by simp[ew]
 | p::l,i=>by
   unfold ew
   by_cases e:p.1=i
   · simp[e]
   · have h1:Nat.beq p.1 i=false:=by simpa [<-Bool.not_eq_true]using e
     have:=d7 (l:=l) (i:=i)
     simp only[h1,cond_false,this,List.map_cons,List.mem_cons]
     exact⟨.inr,λh=>h.resolve_left (Ne.symm e)⟩
end Go.Ev
end
section
namespace Go.Ev
open Go Go.RowKit
def ls:aw->Bool
 | .dead=>false
 | _=>true
def zi:aw->Bool
 | .cells _ rw _=>rw
 | .map _=>true
 | .siter _ _=>true
 | .loop _=>true
 | .defs=>true
 | .dead=>false
theorem j4{x:aw}(h:zi x=true):ls x=true:=by cases x<;>simp_all [ls,zi]
structure xJ(D:Nat->Prop)(m:Nat->bo)(l:bo)(cs:List AV)(rw:Bool)(g:Option Nat)(c:Array Value)(fz:Nat×Nat):Prop where
 at':∀i v,cs[i]? = some v->c[l.base+i]? = some (aj m v)
 okc:eI D m cs
 free:rw=true->fz=(0,0)
 grow:∀s,g=some s->0<s/\l.base=0/\c.size=l.cap*s
structure iG(D:Nat->Prop)(m:Nat->bo)(r:vT)(fn:FuncId)(tmps:Array Value):Prop where
 size:tmps.size=r.tn
 at':∀t,tmps.getD t undef=aj m (r.ts.get t)
 okt:∀t,cY D m (r.ts.get t)
 defs:D r.defs
def d5(m:Nat->bo)(r:vT)(fn:FuncId)(tmps:Array Value):Loop:=
 { state:=r.state,pending:=r.pend,fn,tmps,params:=r.params,assign:=r.assign,body:=r.body,defers:=(m r.defs).blk }
theorem iG.mono{D D':Nat->Prop}{m m':Nat->bo}{r:vT}{fn:FuncId}{tmps:Array Value}(h:iG D m r fn tmps)(hd:∀i,D i->D' i)(hs:∀i,D i->m' i=m i):iG D' m' r fn tmps/\d5 m' r fn tmps=d5 m r fn tmps:=
 ⟨⟨h.size,λt=>by rw[h.at' t,g8 (h.okt t) hs],λt=>(h.okt t).mono hd hs,hd _ h.defs⟩,by unfold d5;rw[hs _ h.defs]⟩
def cH(D:Nat->Prop)(m:Nat->bo)(l:bo):aw->Option Obj->Prop
 | .dead,_=>True
 | .cells cs rw g,b=>∃c e fz,b=some (.cells c e fz)/\xJ D m l cs rw g c fz
 | .map es,b=>∃en clock,b=some (.map en clock)/\en.toList.map (λe=>(e.key,e.val))=es.map (λe=>(aj m e.1,aj m e.2))/\∀e∈es,cY D m e.1/\cY D m e.2
 | .siter s pos,b=>b=some (.stringIter ⟨⟨s⟩⟩ pos)/\l.base=0
 | .loop r,b=>∃fn tmps,b=some (.loop (d5 m r fn tmps))/\iG D m r fn tmps
 | .defs,b=>b=some (.deferred (some []))
theorem cH.mono{D D':Nat->Prop}{m m':Nat->bo}{l:bo}{x:aw}{b:Option Obj}(h:cH D m l x b)(hd:∀i,D i->D' i)(hs:∀i,D i->m' i=m i):cH D' m' l x b:=by
 cases x with
 | dead=>trivial
 | cells cs rw g=>
   obtain⟨c,e,fz,hb,hc⟩:=h
   refine⟨c,e,fz,hb,⟨λi v hv=>?_,hc.okc.mono hd hs,hc.free,hc.grow⟩⟩
   rw[hc.at' i v hv,g8 (dy.1 hc.okc v (List.mem_of_getElem? hv)) hs]
 | map es=>
   obtain⟨en,ck,hb,he,ho⟩:=h
   refine⟨en,ck,hb,he.trans (List.map_congr_left λe hm=>?_),λe hm=>⟨(ho e hm).1.mono hd hs,(ho e hm).2.mono hd hs⟩⟩
   rw[g8 (ho e hm).1 hs,g8 (ho e hm).2 hs]
 | siter s pos=>exact h
 | loop r=>
   obtain⟨fn,tmps,hb,hr⟩:=h
   obtain⟨h1,h2⟩:=hr.mono hd hs
   exact⟨fn,tmps,by rw[h2];exact hb,h1⟩
 | defs=>exact h
structure dQ(cfg:cx)(D:Nat->Prop)(m:Nat->bo)(C:bg)(o:aC)(w:World):Prop where
 obj:∀id,D id->cH D m (m id) (get C o id) w.heap[(m id).blk]?
 inj:∀i j,D i->D j->i≠j->ls (get C o i)=true->zi (get C o j)=true->(m i).blk≠(m j).blk
 lt:∀id,D id->id<C.lo+o.n
 glob:∀g,g<cfg.G->D g/\(m g).blk=g/\(m g).base=0/\(m g).cap=1
 root:∀id,id<cfg.root.n->D id/\get C o id=cfg.root.at id
 le:∀id,id∈o.le.map (·.1)->cfg.root.n<=id/\id<C.lo
 lo:cfg.root.n<=C.lo
 len:o.os.length=o.n
theorem e7{C:bg}{o:aC}{id:Nat}{x:aw}(h:dP C o id=some x):get C o id=x:=by
 unfold dP at h
 unfold get ff
 cases hb:Nat.ble C.lo id with
 | true=>simp only[hb,cond_true,Option.some.injEq]at h;simp only[hb,cond_true,h]
 | false=>simp only[hb,cond_false]at h;simp only[hb,cond_false,h]
theorem qS{C:bg}{o:aC}{x:aw}{j:Nat}(hj:j<=C.lo+o.n):get C (o.push x) j=if j=C.lo+o.n then x else get C o j:=by
 unfold get ff
 cases hb:Nat.ble C.lo j with
 | true=>
   have:=bt.1 hb
   simp only[cond_true]
   rw[aC.at_push o x _ (by omega)]
   by_cases e:j=C.lo+o.n
   · grind
   · grind
 | false=>
   have:¬C.lo<=j:=by intro h;rw[bt.2 h]at hb;cases hb
   rw[if_neg (by omega)];rfl
theorem qw{C:bg}{o:aC}{x:aw}{id j:Nat}(hl:o.os.length=o.n)(hi:id<C.lo+o.n)(hj:j<C.lo+o.n)(ho:(dP C o id).isSome=true) :
 get C (dY C o id x) j=if j=id then x else get C o j:=by
 unfold dP at ho
 unfold get ff dY
 cases hb:Nat.ble C.lo id with
 | true=>
   have h1:=bt.1 hb
   simp only[cond_true]
   cases hc:Nat.ble C.lo j with
   | true=>
     have h2:=bt.1 hc
     simp only[cond_true]
     rw[aC.at_put o x _ _ hl (by omega) (by omega)]
     by_cases e:j=id
     · grind
     · grind
   | false=>
     have h2:¬C.lo<=j:=by intro h;rw[bt.2 h]at hc;cases hc
     rw[if_neg (by omega)];rfl
 | false=>
   have h1:¬C.lo<=id:=by intro h;rw[bt.2 h]at hb;cases hb
   simp only[hb,cond_false]at ho
   simp only[cond_false]
   cases hc:Nat.ble C.lo j with
   | true=>
     have h2:=bt.1 hc
     simp only[cond_true]
     rw[if_neg (by omega)];rfl
   | false=>
     simp only[cond_false]
     rw[nd]
     by_cases e:j=id
     · grind
     · grind
theorem m_{C:bg}{o:aC}{x:aw}{id:Nat}:(dY C o id x).le.map (·.1)=o.le.map (·.1):=by
 unfold dY
 cases Nat.ble C.lo id with
 | true=>rfl
 | false=>exact vU x o.le id
theorem pR{C:bg}{o:aC}{x:aw}{id:Nat}:(dY C o id x).n=o.n:=by unfold dY;cases Nat.ble C.lo id<;>rfl
theorem jY{C:bg}{o:aC}{x:aw}{id:Nat}(h:o.os.length=o.n):(dY C o id x).os.length=(dY C o id x).n:=by
 rw[pR];unfold dY
 cases Nat.ble C.lo id with
 | true=>exact(pM x _ _).trans h
 | false=>exact h
theorem fZ{C:bg}{o o':aC}(h:o'.le.map (·.1)=o.le.map (·.1))(id:Nat):(dP C o' id).isSome=(dP C o id).isSome:=by
 unfold dP
 cases Nat.ble C.lo id with
 | true=>rfl
 | false=>
   simp only[cond_false]
   rw[Bool.eq_iff_iff,d7,d7,h]
theorem dQ.world{cfg:cx}{D:Nat->Prop}{m:Nat->bo}{C:bg}{o:aC}{w w':World}(h:dQ cfg D m C o w)
 (hw:∀j,D j->ls (get C o j)=true->w'.heap[(m j).blk]? = w.heap[(m j).blk]?):dQ cfg D m C o w':=
 ⟨λid hd=>by
  have:=h.obj id hd
  cases hx:get C o id with
  | dead=>trivial
  | _=>rw[hw id hd (by rw[hx];rfl)];rw[hx]at this;exact this,h.inj,h.lt,h.glob,h.root,h.le,h.lo,h.len⟩
theorem dQ.put{cfg:cx}{D:Nat->Prop}{m:Nat->bo}{C:bg}{o:aC}{w w':World}(h:dQ cfg D m C o w){id:Nat}{x y:aw}(hd:D id)(ho:dP C o id=some y)(hy:zi y=true)
 (hw:∀k,k≠(m id).blk->w'.heap[k]? = w.heap[k]?) (hx:cH D m (m id) x w'.heap[(m id).blk]?):dQ cfg D m C (dY C o id x) w':=by
 have hg:=e7 ho
 have hos:(dP C o id).isSome=true:=by rw[ho];rfl
 have hlt:=h.lt id hd
 have gp:∀j,D j->get C (dY C o id x) j=if j=id then x else get C o j:=λj hj=>qw h.len hlt (h.lt j hj) hos
 have hid:cfg.root.n<=id:=by
  rcases Nat.lt_or_ge id cfg.root.n with hlt'|hge
  · unfold dP at ho
    have hlo:=h.lo
    have:Nat.ble C.lo id=false:=by rw[<-Bool.not_eq_true,Nat.ble_eq];omega
    rw[this,cond_false]at ho
    have:=d7.1 (by rw[ho];rfl:(ew o.le id).isSome=true)
    exact(h.le id this).1
  · exact hge
 refine{ obj:=λj hj=>?_,inj:=λi j hi hj hij hl hr=>?_,lt:=λj hj=>by rw[pR];exact h.lt j hj,glob:=h.glob,root:=λj hj=>?_,le:=λj hj=>h.le j (by rw[m_]at hj;exact hj),lo:=h.lo,len:=jY h.len }
 · rw[gp j hj]
   by_cases e:j=id
   · grind
   · rw[if_neg e]
     have:=h.obj j hj
     cases hxj:get C o j with
     | dead=>trivial
     | _=>
       rw[hw _ (h.inj j id hj hd e (by rw[hxj];rfl) (by rw[hg];exact hy))];rw[hxj]at this;exact this
 · rw[gp i hi]at hl
   rw[gp j hj]at hr
   have hl':ls (get C o i)=true:=by
    by_cases e:i=id
    · subst e;rw[hg];exact j4 hy
    · grind
   have hr':zi (get C o j)=true:=by
    grind
   exact h.inj i j hi hj hij hl' hr'
 · refine⟨(h.root j hj).1,?_⟩
   rw[gp j (h.root j hj).1,if_neg (by omega)];exact(h.root j hj).2
def tT(m:Nat->bo)(n:Nat)(l:bo)(i:Nat):bo:=if i=n then l else m i
theorem eN(m:Nat->bo)(n:Nat)(l:bo):tT m n l n=l:=if_pos rfl
theorem mW{m:Nat->bo}{n i:Nat}{l:bo}(h:i≠n):tT m n l i=m i:=if_neg h
def q5(D:Nat->Prop)(n:Nat)(i:Nat):Prop:=D i\/i=n
theorem dQ.push{cfg:cx}{D:Nat->Prop}{m:Nat->bo}{C:bg}{o:aC}{w:World}(h:dQ cfg D m C o w){x:aw}{l:bo}
 (hl:∀j,D j->ls (get C o j)=true->(m j).blk≠l.blk) (hx:cH D m l x w.heap[l.blk]?) :
 dQ cfg (q5 D (C.lo+o.n)) (tT m (C.lo+o.n) l) C (o.push x) w:=by
 have hs:∀i,D i->tT m (C.lo+o.n) l i=m i:=λi hi=>by
  have:=h.lt i hi
  exact mW (by omega)
 have gp:∀j,D j->get C (o.push x) j=get C o j:=λj hj=>by
  have:=h.lt j hj
  rw[qS (by omega),if_neg (by omega)]
 have gn:get C (o.push x) (C.lo+o.n)=x:=by rw[qS (Nat.le_refl _),if_pos rfl]
 refine{ obj:=?_,inj:=?_,lt:=?_,glob:=λg hg=>?_,root:=λj hj=>?_,le:=h.le,lo:=h.lo,len:=by simp[aC.push,h.len] }
 · rintro id (hd|rfl)
   · rw[gp id hd,hs id hd];exact(h.obj id hd).mono (λi hi=>.inl hi) hs
   · rw[gn];rw[eN];exact hx.mono (λi hi=>.inl hi) hs
 · rintro i j (hi|rfl) (hj|rfl) hij hli hrj
   · rw[hs i hi,hs j hj];rw[gp i hi]at hli;rw[gp j hj]at hrj;exact h.inj i j hi hj hij hli hrj
   · rw[hs i hi];rw[eN];rw[gp i hi]at hli;exact hl i hi hli
   · rw[hs j hj];rw[eN];rw[gp j hj]at hrj;exact λe=>hl j hj (j4 hrj) e.symm
   · omega
 · rintro id (hd|rfl)
   · have:=h.lt id hd;simp only[aC.push];omega
   · simp only[aC.push];omega
 · obtain⟨a,b,c⟩:=h.glob g hg
   exact⟨.inl a,by rw[hs g a];exact b,by rw[hs g a];exact c⟩
 · obtain⟨a,b⟩:=h.root j hj
   exact⟨.inl a,by rw[gp j a];exact b⟩
structure dk(cfg:cx)(C:bg)(D:Nat->Prop)(m:Nat->bo)(o:aC)(w:World)(D':Nat->Prop)(m':Nat->bo)(o':aC)(w':World):Prop where
 inv:dQ cfg D' m' C o' w'
 sub:∀i,D i->D' i
 same:∀i,D i->m' i=m i
 new:∀i,D' i->D i\/C.lo+o.n<=i
 grow:o.n<=o'.n
 os:w'.os=w.os
 tape:w'.tape=w.tape
 output:w'.output=w.output
 size:w.heap.size<=w'.heap.size
 frame:∀k,k<w.heap.size->(∀i,D i->(dP C o i).isSome=true->(m i).blk≠k)->w'.heap[k]? = w.heap[k]?
 leIds:o'.le.map (·.1)=o.le.map (·.1)
 fresh:∀i,D' i->¬D i->w.heap.size<=(m' i).blk\/∃j,D j/\(dP C o j).isSome=true/\(m j).blk=(m' i).blk
theorem dk.refl{cfg:cx}{C:bg}{D:Nat->Prop}{m:Nat->bo}{o:aC}{w:World}(h:dQ cfg D m C o w):dk cfg C D m o w D m o w:=
 ⟨h,λ_ h=>h,λ_ _=>rfl,λ_ h=>.inl h,Nat.le_refl _,rfl,rfl,rfl,Nat.le_refl _,λ_ _ _=>rfl,rfl,λi h h'=>absurd h h'⟩
theorem dk.trans{cfg:cx}{C:bg}{D D1 D2:Nat->Prop}{m m1 m2:Nat->bo}{o o1 o2:aC}{w w1 w2:World}(h:dk cfg C D m o w D1 m1 o1 w1)(k:dk cfg C D1 m1 o1 w1 D2 m2 o2 w2) :
 dk cfg C D m o w D2 m2 o2 w2:=by
 refine⟨k.inv,λi hi=>k.sub i (h.sub i hi),λi hi=>(k.same i (h.sub i hi)).trans (h.same i hi),λi hi=>?_,Nat.le_trans h.grow k.grow,k.os.trans h.os,k.tape.trans h.tape,k.output.trans h.output,Nat.le_trans h.size k.size,λb hb hn=>?_,k.leIds.trans h.leIds,λi hi hni=>?_⟩
 · rcases k.new i hi with hi|hi
   · exact h.new i hi
   · have:=h.grow;exact .inr (by omega)
 · rw[k.frame b (Nat.lt_of_lt_of_le hb h.size) (λi hi ho=>?_),h.frame b hb hn]
   rw[fZ h.leIds i]at ho
   by_cases hd:D i
   · rw[h.same i hd];exact hn i hd ho
   · rcases h.fresh i hi hd with hf|⟨j,hj,hoj,e⟩
     · omega
     · grind
 · by_cases hd:D1 i
   · rw[k.same i hd];exact h.fresh i hd hni
   · rcases k.fresh i hi hd with hf|⟨j,hj,hoj,e⟩
     · exact .inl (Nat.le_trans h.size hf)
     · rw[fZ h.leIds j]at hoj
       by_cases hdj:D j
       · exact .inr ⟨j,hdj,hoj,by rw[<-e,h.same j hdj]⟩
       · rcases h.fresh j hj hdj with hf|⟨j',hj',ho',e'⟩
         · omega
         · grind
theorem dk.alloc{cfg:cx}{C:bg}{D:Nat->Prop}{m:Nat->bo}{o:aC}{w w':World}(h:dQ cfg D m C o w){x:aw}{l:bo}
 (hsz:w.heap.size<=w'.heap.size) (hk:∀k,k<w.heap.size->w'.heap[k]? = w.heap[k]?) (hl:w.heap.size<=l.blk) (hx:cH D m l x w'.heap[l.blk]?)
 (ho:w'.os=w.os) (ht:w'.tape=w.tape) (hu:w'.output=w.output) :
 dk cfg C D m o w (q5 D (C.lo+o.n)) (tT m (C.lo+o.n) l) (o.push x) w':=by
 have blt:∀j,D j->ls (get C o j)=true->(m j).blk<w.heap.size:=λj hj hlv=>by
  have:=h.obj j hj
  cases hb:w.heap[(m j).blk]? with
  | some b=>exact(Array.getElem?_eq_some_iff.1 hb).1
  | none=>
    rw[hb]at this
    cases hx:get C o j with
    | dead=>rw[hx]at hlv;cases hlv
    | cells cs rw g=>rw[hx]at this;obtain⟨_,_,_,e,_⟩:=this;cases e
    | map es=>rw[hx]at this;obtain⟨_,_,e,_⟩:=this;cases e
    | siter s p=>rw[hx]at this;cases this.1
    | loop r=>rw[hx]at this;obtain⟨_,_,e,_⟩:=this;cases e
    | defs=>rw[hx]at this;cases this
 have h':dQ cfg D m C o w':=h.world λj hj hlv=>hk _ (blt j hj hlv)
 refine⟨h'.push (λj hj hlv=>by have:=blt j hj hlv;omega) hx,λi hi=>.inl hi,λi hi=>?_,?_,by simp[aC.push],ho,ht,hu,hsz,λk hk' _=>hk k hk',rfl,?_⟩
 · have:=h.lt i hi;exact mW (by omega)
 · rintro i (hi|rfl)
   · grind
   · omega
 · rintro i (hi|rfl) hn
   · grind
   · rw[eN];exact .inl hl
theorem dk.put{cfg:cx}{C:bg}{D:Nat->Prop}{m:Nat->bo}{o:aC}{w w':World}(h:dQ cfg D m C o w){id:Nat}{x y:aw}(hd:D id)(ho:dP C o id=some y)(hy:zi y=true)
 (hsz:w.heap.size<=w'.heap.size) (hw:∀k,k≠(m id).blk->w'.heap[k]? = w.heap[k]?) (hx:cH D m (m id) x w'.heap[(m id).blk]?)
 (hos:w'.os=w.os) (ht:w'.tape=w.tape) (hu:w'.output=w.output):dk cfg C D m o w D m (dY C o id x) w':=
 ⟨h.put hd ho hy hw hx,λ_ hi=>hi,λ_ _=>rfl,λ_ hi=>.inl hi,Nat.le_of_eq pR.symm,hos,ht,hu,hsz,λk _ hn=>hw k (λe=>hn id hd (by rw[ho];rfl) e.symm),m_,λi hi hn=>absurd hi hn⟩
def fi(m:Nat->bo)(ds:List Nat):List Deferred:=ds.map λd=>{ target:=.collected (m d).blk,args:=#[] }
theorem gq{D:Nat->Prop}{m m':Nat->bo}{ds:List Nat}(h:∀d∈ds,D d)(hs:∀i,D i->m' i=m i):fi m' ds=fi m ds:=
 List.map_congr_left λd hd=>by rw[hs d (h d hd)]
def qk(m:Nat->bo)(ro:Option Nat):Option Nat:=ro.map λi=>(m i).blk
theorem ot{D:Nat->Prop}{m m':Nat->bo}{ro:Option Nat}(h:∀i,ro=some i->D i)(hs:∀i,D i->m' i=m i):qk m' ro=qk m ro:=by
 cases ro with
 | none=>rfl
 | some i=>simp[qk,hs i (h i rfl)]
structure TR(D:Nat->Prop)(m:Nat->bo)(st:St)(a:Act):Prop where
 size:a.tmps.size=st.tn
 at':∀t,a.tmps.getD t undef=aj m (st.ts.get t)
 okt:∀t,cY D m (st.ts.get t)
 defers:a.defers=fi m st.ds
 dsD:∀d∈st.ds,D d
 roD:∀i,st.ro=some i->D i
theorem TR.mono{D D':Nat->Prop}{m m':Nat->bo}{st:St}{a:Act}(h:TR D m st a)(hd:∀i,D i->D' i)(hs:∀i,D i->m' i=m i):TR D' m' st a:=
 ⟨h.size,λt=>by rw[h.at' t,g8 (h.okt t) hs],λt=>(h.okt t).mono hd hs,by rw[gq h.dsD hs];exact h.defers,λd hm=>hd d (h.dsD d hm),λi hi=>hd i (h.roD i hi)⟩
theorem TR.put{D:Nat->Prop}{m:Nat->bo}{st st':St}{a:Act}(h:TR D m st a){v:AV}{o:aC}{dst:Option Tmp}(hp:ii st v o dst=some st')(hv:cY D m v) :
 TR D m st' (a.put dst (aj m v))/\st'.o=o/\st'.ds=st.ds/\st'.ro=st.ro:=by
 cases dst with
 | none=>
   simp only[ii,Option.some.injEq]at hp
   subst hp
   exact⟨⟨h.size,h.at',h.okt,h.defers,h.dsD,h.roD⟩,rfl,rfl,rfl⟩
 | some d=>
   simp only[ii,ay,Option.some.injEq,Bool.and_eq_true]at hp
   obtain⟨⟨h1,h2⟩,hp⟩:=hp
   rw[ba]at h1 h2
   subst hp
   have hd:d<2^20-1:=Nat.lt_of_lt_of_le h2 (by decide)
   refine⟨⟨by simp[Act.put,h.size],λt=>?_,λt=>?_,h.defers,h.dsD,h.roD⟩,rfl,rfl,rfl⟩
   · simp only[Act.put]
     rw[Ts.get_set 20 _ _ _ _ hd]
     have:=h.at' t
     have hs:=h.size
     by_cases e:t=d
     · simp_all
     · rw[if_neg e,<-this]
       simp only[Array.getD,Array.size_setIfInBounds]
       split
       · rw[Array.getInternal_eq_getElem,Array.getInternal_eq_getElem,Array.getElem_setIfInBounds_ne (h:=λe'=>e e'.symm)]
       · rfl
   · simp only
     rw[Ts.get_set 20 _ _ _ _ hd]
     split
     · exact hv
     · exact h.okt t
theorem vd{m:Nat->bo}{x:Value}{v:AV}(h:H7 x=some v):aj m v=x/\aq v=[]:=by
 unfold H7 at h
 split at h<;>first|(cases h;simp[aj,aq];done)|(cases h;done)|skip
 all_goals (cases h;simp[aj,aq])
theorem vu{m:Nat->bo}:∀{xs:List Value} {vs:List AV},Hj xs=some vs->ar m vs=xs/\bG vs=[]
 | [],vs,h=>by cases h;simp[ar,bG]
 | x::xs,vs,h=>by
   simp only[Hj,ag,Option.some.injEq]at h
   obtain⟨a,ha,sa0,has,rfl⟩:=h
   obtain⟨h1,h2⟩:=vd (m:=m) ha
   obtain⟨h3,h4⟩:=vu (m:=m) has
   simp[ar,bG,h1,h2,h3,h4]
theorem pc{m:Nat->bo}{x:Value}{v:AV}(h:IB x=some v):aj m v=x/\aq v=[]:=by
 unfold IB at h
 split at h
 · simp only[ag,Option.some.injEq]at h
   obtain⟨sa0,has,rfl⟩:=h
   obtain⟨h1,h2⟩:=vu (m:=m) has
   simp[aj,aq,h1,h2]
 · exact vd h
theorem j6{cfg:cx}{D:Nat->Prop}{m:Nat->bo}{C:bg}{o:aC}{w:World}{st:St}{a:Act}(hi:dQ cfg D m C o w)(ht:TR D m st a){x:Operand}{v:AV}(h:ea cfg.G st.ts x=some v) :
 a.eval x=aj m v/\cY D m v:=by
 cases x with
 | tmp t=>cases h;exact⟨ht.at' t,ht.okt t⟩
 | const c=>obtain⟨h1,h2⟩:=pc (m:=m) h;exact⟨h1.symm,bQ h2⟩
 | global g=>
   simp only[ea,ay,Option.some.injEq,ba]at h
   obtain⟨hg,rfl⟩:=h
   obtain⟨a1,a2,a3⟩:=hi.glob g hg
   refine⟨by simp[Act.eval,aj,a2,a3],λi hi=>?_⟩
   simp only[aq,List.mem_singleton]at hi
   subst hi;exact⟨a1,Nat.zero_le _⟩
 | func f=>cases h;exact⟨by simp[Act.eval,aj,ar],λi hi=>by simp[aq,bG]at hi⟩
structure eE(P:Program)(T:eA):Prop where
 ty:∀t e,T.ty.get t=some e->P.info? t=some e.i/\P.underlying t=some e.u/\(rt (some e.u)=true->P.eqGuardType P.depth t=e.guard)/\((kk (some e.u)).isSome=true->P.stoodInHeld t=e.stood)
 fn:∀f fn,T.fn.get f=some fn->P.funcs[f]? = some fn/\fn.name ≠ "runtime.NumGoroutine"
section
variable{P:Program}{T:eA}(hT:eE P T)
include hT
theorem ia{t:TypeId}{d:TypeDesc}(h:T.und t=some d):P.underlying t=some d:=by
 simp only[eA.und,ag,Option.some.injEq]at h
 obtain⟨e,he,rfl⟩:=h
 exact(hT.ty t e he).2.1
theorem DE{t:TypeId}{i:TypeInfo}(h:T.inf t=some i):P.info? t=some i:=by
 simp only[eA.inf,ag,Option.some.injEq]at h
 obtain⟨e,he,rfl⟩:=h
 exact(hT.ty t e he).1
theorem bb{t:TypeId}{d:TypeDesc}(h:T.und t=some d)(w:World):(underlying t).run P w=.ok d w:=run_underlying (ia hT h) w
theorem lV{t:TypeId}{i:TypeInfo}(h:T.inf t=some i)(w:World):(typeInfo t).run P w=.ok i w:=by
 simp[typeInfo,DE hT h]
theorem dU{t:TypeId}{n:Nat}(h:fx T t=some n)(w:World):(sizeOf t).run P w=.ok n w:=by
 simp only[fx,ag,Option.some.injEq]at h
 obtain⟨e,he,rfl⟩:=h
 have:=lV (T:=T) hT (t:=t) (i:=e.i) (by simp[eA.inf,he,ob]) w
 simp[sizeOf,this]
theorem BG{t:TypeId}{d:TypeDesc}(h:T.und t=some d)(w:World):(isAgg t).run P w=.ok (rt (some d)) w:=by
 simp only[isAgg,Sem.run_bind,bb hT h w,Result.andThen_ok]
 cases d<;>rfl
theorem jO{t:TypeId}{v:AV}{m:Nat->bo}(h:jh T t=some v)(w:World):(zeroValue t).run P w=.ok (aj m v) w/\aq v=[]:=by
 simp only[jh,ag]at h
 obtain⟨i,hi,z,hz,hv⟩:=h
 obtain⟨h1,h2⟩:=pc (m:=m) hv
 refine⟨?_,h2⟩
 simp[zeroValue,lV hT hi w,hz,h1]
end
theorem fJ(b o i:Nat):(⟨b,o,none⟩:Addr).add i=⟨b,o+i,none⟩:=by
 unfold Addr.add
 split
 · grind
 · rfl
theorem eS{m:Nat->bo}{cs:List AV}{i:Nat}:(ar m cs)[i]? = (cs[i]?).map (aj m):=by rw[eB,List.getElem?_map]
theorem bZ{m:Nat->bo}{cs:List AV}:(ar m cs).length=cs.length:=by rw[eB,List.length_map]
theorem jD{m:Nat->bo}{cs ds:List AV}:ar m (cs++ds)=ar m cs++ar m ds:=by simp only[eB,List.map_append]
theorem pu{cs r:List AV}{off n:Nat}(h:iv cs off n=some r):r.length=n:=by
 simp only[iv,ay,Option.some.injEq,cK]at h
 obtain⟨h1,rfl⟩:=h
 exact h1
theorem vL{cs r:List AV}{off n:Nat}(h:iv cs off n=some r){i:Nat}(hi:i<n):cs[off+i]? = r[i]? := by
 simp only[iv,ay,Option.some.injEq]at h
 obtain⟨_,rfl⟩:=h
 rw[List.getElem?_take_of_lt hi,List.getElem?_drop]
theorem x8{D:Nat->Prop}{m:Nat->bo}{cs r:List AV}{off n:Nat}(h:iv cs off n=some r)(ho:eI D m cs):eI D m r:=by
 simp only[iv,ay,Option.some.injEq]at h
 obtain⟨_,rfl⟩:=h
 rw[dy]at ho ⊢
 exact λv hv=>ho v (List.mem_of_mem_drop (List.mem_of_mem_take hv))
theorem zL{m:Nat->bo}{cs r:List AV}{off n:Nat}(h:iv cs off n=some r):List.take n (List.drop off (ar m cs))=ar m r:=by
 simp only[iv,ay,Option.some.injEq]at h
 obtain⟨_,rfl⟩:=h
 simp[eB]
section
variable{P:Program}{T:eA}(hT:eE P T)
include hT
theorem iO{t:TypeId}{cs:List AV}{off:Nat}{v:AV}{m:Nat->bo}(h:gN T t cs off=some v)(w:World):(part t (ar m cs).toArray off).run P w=.ok (aj m v) w:=by
 simp only[gN,ag]at h
 obtain⟨d,hd,h⟩:=h
 simp only[part,Sem.run_bind,BG hT hd w,Result.andThen_ok]
 cases hb:rt (some d)with
 | true=>
   simp only[hb,cond_true,ag,Option.some.injEq]at h
   obtain⟨n,hn,r,hr,rfl⟩:=h
   simp[dU hT hn w,zL hr,aj]
 | false=>
   simp only[hb,cond_false]at h
   simp[eS,h]
theorem xz{D:Nat->Prop}{m:Nat->bo}{t:TypeId}{cs:List AV}{off:Nat}{v:AV}(h:gN T t cs off=some v)(ho:eI D m cs):cY D m v:=by
 simp only[gN,ag]at h
 obtain⟨d,hd,h⟩:=h
 cases hb:rt (some d)with
 | true=>
   simp only[hb,cond_true,ag,Option.some.injEq]at h
   obtain⟨n,hn,r,hr,rfl⟩:=h
   exact gA.2 (x8 hr ho)
 | false=>
   simp only[hb,cond_false]at h
   exact dy.1 ho v (List.mem_of_getElem? h)
end
theorem dQ.cells{cfg:cx}{D:Nat->Prop}{m:Nat->bo}{C:bg}{o:aC}{w:World}(h:dQ cfg D m C o w){id:Nat}{cs:List AV}(hd:D id)(hc:cellsOf (get C o id)=some cs) :
 ∃rw g c e fz,get C o id=.cells cs rw g/\w.heap[(m id).blk]? = some (.cells c e fz)/\xJ D m (m id) cs rw g c fz:=by
 have:=h.obj id hd
 cases hx:get C o id with
 | cells cs' rw g=>
   rw[hx]at hc this
   simp only[cellsOf,Option.some.injEq]at hc
   subst hc
   obtain⟨c,e,fz,hb,hr⟩:=this
   exact⟨rw,g,c,e,fz,rfl,hb,hr⟩
 | _=>rw[hx]at hc;cases hc
theorem I_{w:World}{b i:Nat}{c:Array Value}{e:TypeId}{fz:Nat×Nat}(h:w.heap[b]? = some (.cells c e fz)):w.cell? ⟨b,i,none⟩=c[i]? := by
 simp[World.cell?,h]
theorem dQ.cell{cfg:cx}{D:Nat->Prop}{m:Nat->bo}{C:bg}{o:aC}{w:World}(h:dQ cfg D m C o w){id:Nat}{cs:List AV}(hd:D id)(hc:cellsOf (get C o id)=some cs){i:Nat}{v:AV}(hv:cs[i]? = some v) :
 w.cell? ⟨(m id).blk,(m id).base+i,none⟩=some (aj m v)/\cY D m v:=by
 obtain⟨rw,g,c,e,fz,_,hb,hr⟩:=h.cells hd hc
 exact⟨(I_ hb).trans (hr.at' i v hv),dy.1 hr.okc v (List.mem_of_getElem? hv)⟩
theorem dQ.range{cfg:cx}{D:Nat->Prop}{m:Nat->bo}{C:bg}{o:aC}{w:World}(h:dQ cfg D m C o w){id:Nat}{cs r:List AV}{off n:Nat}(hd:D id)(hc:cellsOf (get C o id)=some cs)(hr:iv cs off n=some r)(P:Program) :
 (loadCells ⟨(m id).blk,(m id).base+off,none⟩ n).run P w=.ok (ar m r).toArray w/\eI D m r:=by
 have hl:=pu hr
 refine⟨?_,x8 hr ?_⟩
 · have:=run_loadCells_list (P:=P) (w:=w) ⟨(m id).blk,(m id).base+off,none⟩ (ar m r) (λj v hv=>by
    rw[eS]at hv
    obtain⟨u,hu,rfl⟩:=Option.map_eq_some_iff.1 hv
    have hj:j<n:=by
     grind
    rw[fJ,Nat.add_assoc]
    exact(h.cell hd hc ((vL hr hj).trans hu)).1)
   rw[bZ,hl]at this
   exact this
 · obtain⟨rw,g,c,e,fz,_,_,hr⟩:=h.cells hd hc
   exact hr.okc
section
variable{P:Program}{T:eA}(hT:eE P T)
include hT
theorem tJ{cfg:cx}{D:Nat->Prop}{m:Nat->bo}{C:bg}{o:aC}{w:World}(h:dQ cfg D m C o w){t:TypeId}{p v:AV}(hp:cY D m p)(hv:nI T C o t p=some v) :
 ∃a,aj m p=.pointer (some a)/\(loadVar t a).run P w=.ok (aj m v) w/\cY D m v:=by
 cases p with
 | ptr id off=>
   have hd:D id:=(hp (id,0) (by simp[aq])).1
   simp only[nI,ag]at hv
   obtain⟨cs,hc,hv⟩:=hv
   refine⟨_,rfl,?_⟩
   simp only[gN,ag]at hv
   obtain⟨d,hd',hv⟩:=hv
   simp only[loadVar,Sem.run_bind,BG hT hd' w,Result.andThen_ok]
   cases hb:rt (some d)with
   | true=>
     simp only[hb,cond_true,ag,Option.some.injEq]at hv
     obtain⟨n,hn,r,hr,rfl⟩:=hv
     obtain⟨h1,h2⟩:=h.range hd hc hr P
     refine⟨?_,gA.2 h2⟩
     simp[dU hT hn w,h1,aj]
   | false=>
     simp only[hb,cond_false]at hv
     obtain⟨h1,h2⟩:=h.cell hd hc hv
     refine⟨?_,h2⟩
     simp[h1]
 | _=>simp[nI]at hv
end
end Go.Ev
end
