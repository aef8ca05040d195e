import Derived.Calls
import Derived.Scope
import Derived.Below
import Derived.Laws.Cells
import Derived.Laws.Entries
import Derived.Test.YtoghlpcacfnjbaaGreatDoorP03
set_option linter.all false
set_option maxRecDepth 100000
set_option maxHeartbeats 4000000
section
namespace Go.Ev
open Go
variable{D:Nat->Prop}{vs:List AV}{b:Nat}
structure bq where
 blk:Nat
 base:Nat
 cap:Nat
def jA(l:bq):eZ->Nat
 | .known n=>n
 | .rest k=>l.cap-k
mutual
def aj(m:Nat->bq):AV->Value
 | .bool b=>.bool b
 | .int k n=>.int k n
 | .str s=>.string ⟨⟨s⟩⟩
 | .ptr id off=>.pointer (some ⟨(m id).blk,(m id).base+off,none⟩)
 | .nilptr=>.pointer none
 | .slice id off len c=>.slice (some ⟨(m id).blk,(m id).base+off,none⟩) len (jA (m id) c)
 | .nilslice=>.slice none 0 0
 | .func f a b=>.func (.func f) (ap m a).toArray (ap m b).toArray
 | .nilfunc=>.nilFunc
 | .iface t v=>.iface t (aj m v)
 | .niliface=>.nilIface
 | .agg cs=>.agg (ap m cs).toArray
 | .tuple cs=>.tuple (ap m cs).toArray
 | .map id=>.map (some (m id).blk)
 | .nilmap=>.map none
 | .yield id=>.func (.yield (m id).blk) #[] #[]
 | .any v=>v
def ap(m:Nat->bq):List AV->List Value
 | []=>[]
 | v::vs=>aj m v::ap m vs
end
def fj(len:Nat):eZ->Nat
 | .known _=>0
 | .rest k=>len+k
mutual
def aD:AV->List (Nat×Nat)
 | .ptr id _=>[(id,0)]
 | .slice id _ len c=>[(id,fj len c)]
 | .map id=>[(id,0)]
 | .yield id=>[(id,0)]
 | .func _ a b=>bz a++bz b
 | .iface _ v=>aD v
 | .agg cs=>bz cs
 | .tuple cs=>bz cs
 | _=>[]
def bz:List AV->List (Nat×Nat)
 | []=>[]
 | v::vs=>aD v++bz vs
end
def db(D:Nat->Prop)(m:Nat->bq)(v:AV):Prop:=∀i∈aD v,D i.1/\i.2<=(m i.1).cap
def fN(D:Nat->Prop)(m:Nat->bq)(vs:List AV):Prop:=∀i∈bz vs,D i.1/\i.2<=(m i.1).cap
theorem fh(m:Nat->bq):∀vs,ap m vs=vs.map (aj m)
 | []=>by rw[ap];rfl
 | v::vs=>by rw[ap,fh m vs];rfl
theorem fO{i:Nat×Nat}:∀{vs:List AV},i∈bz vs↔∃v∈vs,i∈aD v
 | []=>by simp[bz]
 | v::vs=>by simp[bz,fO (vs:=vs)]
theorem dK{m:Nat->bq}:fN D m vs↔∀v∈vs,db D m v:=by
 constructor
 . intro h v hv i hi;exact h i (fO.2 ⟨v,hv,hi⟩)
 . intro h i hi;obtain⟨v,hv,hi⟩:=fO.1 hi;exact h v hv i hi
theorem ct{m:Nat->bq}{v:AV}:fN D m (v::vs)↔db D m v/\fN D m vs:=by simp[dK]
theorem eA{m:Nat->bq}{us:List AV}:fN D m (vs++us)↔fN D m vs/\fN D m us:=by
 simp only[dK,List.mem_append];exact⟨λh=>⟨λv hv=>h v (.inl hv),λv hv=>h v (.inr hv)⟩,λh v hv=>hv.elim (h.1 v) (h.2 v)⟩
theorem fH{m:Nat->bq}:fN D m []:=by simp[dK]
theorem iJ{m:Nat->bq}{cs:List AV}:db D m (.agg cs)↔fN D m cs:=by simp[db,fN,aD]
theorem fV{m:Nat->bq}{cs:List AV}:db D m (.tuple cs)↔fN D m cs:=by simp[db,fN,aD]
theorem ik{m:Nat->bq}:db D m bo:=by simp[bo,fV,fH]
theorem db.mono{D':Nat->Prop}{m m':Nat->bq}{v:AV}(h:db D m v)(hd:∀i,D i->D' i)(hs:∀i,D i->m' i=m i):db D' m' v:=
 λi hi=>⟨hd _ (h i hi).1,by rw[hs _ (h i hi).1];exact(h i hi).2⟩
theorem fN.mono{D':Nat->Prop}{m m':Nat->bq}{v:List AV}(h:fN D m v)(hd:∀i,D i->D' i)(hs:∀i,D i->m' i=m i):fN D' m' v:=
 λi hi=>⟨hd _ (h i hi).1,by rw[hs _ (h i hi).1];exact(h i hi).2⟩
theorem bQ{m:Nat->bq}{v:AV}(h:aD v=[]):db D m v:=λi hi=>by rw[h]at hi;cases hi
theorem pt{m:Nat->bq}{v:AV}(h:db D m v):fN D m (bU v):=by
 cases v<;>simp only[bU]<;>first|exact iJ.1 h|exact ct.2 ⟨h,fH⟩|skip
 exact dK.2 λx hx=>by
  obtain⟨y,_,rfl⟩:=List.mem_map.1 hx;exact bQ (by simp[aD])
mutual
theorem iY{m m':Nat->bq}:∀(v:AV),(∀i∈aD v,m i.1=m' i.1)->aj m v=aj m' v
 | .bool b,_=>by simp[aj]
 | .int k n,_=>by simp[aj]
 | .str s,_=>by simp[aj]
 | .ptr id off,h=>by simp[aj,h (id,_) (by simp[aD];rfl)]
 | .nilptr,_=>by simp[aj]
 | .slice id off len c,h=>by simp[aj,h (id,_) (by simp[aD];rfl)]
 | .nilslice,_=>by simp[aj]
 | .func f a b,h=>by
   simp only[aj];rw[ig a (λi hi=>h i (by simp[aD,hi])),ig b (λi hi=>h i (by simp[aD,hi]))]
 | .nilfunc,_=>by simp[aj]
 | .iface t v,h=>by simp only[aj];rw[iY v (λi hi=>h i (by simp[aD,hi]))]
 | .niliface,_=>by simp[aj]
 | .agg cs,h=>by simp only[aj];rw[ig cs (λi hi=>h i (by simp[aD,hi]))]
 | .tuple cs,h=>by simp only[aj];rw[ig cs (λi hi=>h i (by simp[aD,hi]))]
 | .map id,h=>by simp[aj,h (id,_) (by simp[aD];rfl)]
 | .nilmap,_=>by simp[aj]
 | .yield id,h=>by simp[aj,h (id,_) (by simp[aD];rfl)]
 | .any v,_=>by simp[aj]
theorem ig{m m':Nat->bq}:∀(vs:List AV),(∀i∈bz vs,m i.1=m' i.1)->ap m vs=ap m' vs
 | [],_=>by simp[ap]
 | v::vs,h=>by
   simp only[ap];rw[iY v (λi hi=>h i (by simp[bz,hi])),ig vs (λi hi=>h i (by simp[bz,hi]))]
end
theorem jd{m m':Nat->bq}{v:AV}(h:db D m v)(hs:∀i,D i->m' i=m i):aj m' v=aj m v:=
 (iY v λi hi=>(hs i.1 (h i hi).1).symm).symm
theorem xP{m m':Nat->bq}{v:List AV}(h:fN D m v)(hs:∀i,D i->m' i=m i):ap m' v=ap m v:=
 (ig v λi hi=>(hs i.1 (h i hi).1).symm).symm
theorem iW(m:Nat->bq):aj m bo=undef:=by simp[bo,aj,ap,undef]
theorem rM(b want:Bool):(bif want then b else !b)=(b==want):=by cases b<;>cases want<;>rfl
theorem zr(m:Nat->bq):∀vs:List Value,ap m (vs.map .any)=vs
 | []=>by simp[ap]
 | v::vs=>by simp[ap,aj,zr m vs]
theorem fG(m:Nat->bq)(v:AV):(aj m v).cells=(ap m (bU v)).toArray:=by
 cases v with
 | any v=>simp only[aj,bU,zr,Array.toArray_toList]
 | _=>simp[aj,Value.cells,bU,ap]
theorem zH{m:Nat->bq}{v:AV}(h:LY v):(aj m v).oneCell'=true:=by
 cases v<;>simp_all [aj,LY,Value.oneCell']
theorem p9:∀{vs:List AV},ff vs=true↔∀v∈vs,LY v=true
 | []=>by simp[ff]
 | v::vs=>by simp[ff,p9 (vs:=vs)]
theorem gb{a:Nat}(h:a=b):Nat.beq a b=true:=by rw[Nat.beq_eq];exact h
theorem g7{a:Nat}(h:a≠b):Nat.beq a b=false:=by rw[<-Bool.not_eq_true,Nat.beq_eq];exact h
theorem cO{a:Nat}:Nat.beq a b=true↔a=b:=by rw[Nat.beq_eq]
theorem bv{a:Nat}:Nat.ble a b=true↔a<=b:=by rw[Nat.ble_eq]
theorem jK{a:Nat}(h:¬a<=b):Nat.ble a b=false:=by rw[<-Bool.not_eq_true,Nat.ble_eq];exact h
theorem ai{α β:Type}{x:Option α}{f:α->Option β}{b:β}:ob x f=some b↔∃a,x=some a/\f a=some b:=by
 cases x<;>simp[ob]
theorem aA{α:Type}{b:Bool}{x:Option α}{a:α}:ok b x=some a↔b/\x=some a:=by
 cases b<;>simp[ok]
theorem bN{o:aC}{x:Option AV}{r:AV×aC}:gP o x=some r↔x=some r.1/\r.2=o:=by
 obtain⟨v,o'⟩:=r;cases x<;>simp[gP,ob];intro _;exact eq_comm
theorem aS{a:Nat}:aW a b=true↔a<b:=by simp[aW,Nat.ble_eq];omega
theorem nJ{a:Nat}:aW a b=false↔b<=a:=by
 rw[<-Bool.not_eq_true,aS];omega
theorem Ts.get_nil(i:Nat):Ts.nil.get i=bo:=by cases i<;>rfl
theorem Ts.get_val(t:Ts):t.get 0=t.val:=by cases t<;>rfl
theorem Ts.get_odd(t:Ts)(i:Nat)(h:i≠0)(ho:i%2=1):t.get i=t.left.get (i/2):=by
 cases t with
 | nil=>rw[Ts.get_nil];exact(Ts.get_nil _).symm
 | node v l r=>
   have h0:Nat.beq i 0=false:=by simpa [<-Bool.not_eq_true]using h
   have h1:Nat.beq (i%2) 1=true:=by simp[ho]
   simp[Ts.get,h0,h1,Ts.left]
theorem Ts.get_even(t:Ts)(i:Nat)(h:i≠0)(ho:i%2=0):t.get i=t.right.get (i/2-1):=by
 cases t with
 | nil=>rw[Ts.get_nil];exact(Ts.get_nil _).symm
 | node v l r=>
   have h0:Nat.beq i 0=false:=by simpa [<-Bool.not_eq_true]using h
   have h1:Nat.beq (i%2) 1=false:=g7 (by omega);simp[Ts.get,h0,h1,Ts.right]
theorem Ts.get_set:∀(d:Nat) (t:Ts) (i j:Nat) (v:AV),i<2^d-1->(Ts.set d t i v).get j=if j=i then v else t.get j
 | 0,t,i,j,v,h=>by simp at h
 | d+1,t,i,j,v,h=>by
   have hp:2^(d+1)=2*2^d:=by rw[Nat.pow_succ];omega
   have hpos:0<2^d:=Nat.two_pow_pos d;unfold Ts.set;by_cases hi:i=0
   . subst hi;by_cases hj:j=0
     . subst hj;simp[Ts.get]
     . rw[if_neg hj];rcases Nat.mod_two_eq_zero_or_one j with h2|h2
       . simp only[gb (rfl:(0:Nat)=0),cond_true];rw[Ts.get_even _ j hj h2,Ts.get_even t j hj h2];rfl
       . simp only[gb (rfl:(0:Nat)=0),cond_true];rw[Ts.get_odd _ j hj h2,Ts.get_odd t j hj h2];rfl
   . have h0:Nat.beq i 0=false:=by simpa [<-Bool.not_eq_true]using hi
     rw[h0,cond_false];rcases Nat.mod_two_eq_zero_or_one i with h2|h2
     . have h1:Nat.beq (i%2) 1=false:=g7 (by omega);rw[h1,cond_false];by_cases hj:j=0
       . subst hj;rw[if_neg (Ne.symm hi),Ts.get_val,Ts.get_val];rfl
       . rcases Nat.mod_two_eq_zero_or_one j with k2|k2
         . rw[Ts.get_even _ j hj k2,Ts.get_even t j hj k2];simp only[Ts.right];rw[Ts.get_set d _ _ _ _ (by omega)];by_cases e:j=i
           . grind
           . grind
         . rw[Ts.get_odd _ j hj k2,Ts.get_odd t j hj k2,if_neg (by omega)];rfl
     . have h1:Nat.beq (i%2) 1=true:=by simp[h2]
       rw[h1,cond_true];by_cases hj:j=0
       . subst hj;rw[if_neg (Ne.symm hi),Ts.get_val,Ts.get_val];rfl
       . rcases Nat.mod_two_eq_zero_or_one j with k2|k2
         . rw[Ts.get_even _ j hj k2,Ts.get_even t j hj k2,if_neg (by omega)];rfl
         . rw[Ts.get_odd _ j hj k2,Ts.get_odd t j hj k2];simp only[Ts.left];rw[Ts.get_set d _ _ _ _ (by omega)];by_cases e:j=i
           . grind
           . grind
theorem Ts.get_ofList:∀(vs:List AV) (i:Nat) (t:Ts) (j:Nat),i+vs.length<1000000->
 (Ts.ofList i t vs).get j=if i<=j/\j<i+vs.length then vs.getD (j-i) bo else t.get j
 | [],i,t,j,_=>by simp[Ts.ofList];omega
 | v::vs,i,t,j,h=>by
   simp only[List.length_cons]at h;rw[Ts.ofList,Ts.get_ofList vs (i+1) _ j (by omega)];by_cases h1:i+1<=j/\j<i+1+vs.length
   . grind
   . rw[if_neg h1,Ts.get_set 20 t i j v (by omega)];by_cases e:j=i
     . grind
     . grind
theorem vF(x:aE):∀(os:List aE) (k:Nat),(y9 os k x).length=os.length
 | [],_=>rfl
 | _::_,0=>rfl
 | _::os,k+1=>by simp[y9,vF x os k]
theorem Aq(x d:aE):∀(os:List aE) (k j:Nat),(y9 os k x).getD j d=if j=k/\k<os.length then x else os.getD j d
 | [],k,j=>by simp[y9]
 | y::os,0,0=>by simp[y9]
 | y::os,0,j+1=>by simp[y9]
 | y::os,k+1,0=>by simp[y9]
 | y::os,k+1,j+1=>by
   have:=Aq x d os k j;simpa [y9]using this
theorem aC.at_push(o:aC)(x:aE)(i:Nat)(h:i<=o.n):(o.push x).at i=if i=o.n then x else o.at i:=by
 unfold aC.at aC.push;by_cases e:i=o.n
 . grind
 . grind
theorem aC.at_put(o:aC)(x:aE)(i j:Nat)(hl:o.os.length=o.n)(hi:i<o.n)(hj:j<o.n):(o.put i x).at j=if j=i then x else o.at j:=by
 unfold aC.at aC.put;simp only;rw[Aq];by_cases e:j=i
 . grind
 . grind
theorem qw(x:aE):∀(l:List (Nat×aE)) (i j:Nat),fg (xj l i x) j=if j=i/\(fg l i).isSome then some x else fg l j
 | [],i,j=>by simp[xj,fg]
 | p::l,i,j=>by
   unfold xj;by_cases e:p.1=i
   . have h1:Nat.beq p.1 i=true:=by simp[e]
     simp only[h1,cond_true,fg,Option.isSome_some,and_true];by_cases ej:j=i
     . grind
     . have:Nat.beq i j=false:=by simpa [<-Bool.not_eq_true]using Ne.symm ej
       have h2:Nat.beq p.1 j=false:=by rw[e];exact this
       simp[this,h2,ej]
   . have h1:Nat.beq p.1 i=false:=by simpa [<-Bool.not_eq_true]using e
     simp only[h1,cond_false,fg];by_cases ej:p.1=j
     . simp_all
     . have h2:Nat.beq p.1 j=false:=by simpa [<-Bool.not_eq_true]using ej
       simp only[h2,cond_false];exact qw x l i j
theorem zx(x:aE):∀(l:List (Nat×aE)) (i:Nat),(xj l i x).map (·.1)=l.map (·.1)
 | [],_=>rfl
 | p::l,i=>by
   unfold xj;by_cases e:p.1=i
   . simp[e]
   . have h1:Nat.beq p.1 i=false:=by simpa [<-Bool.not_eq_true]using e
     simp[h1,zx x l i]
theorem eV:∀{l:List (Nat×aE)} {i:Nat},(fg l i).isSome=true↔i∈l.map (·.1)
 | [],i=>by simp[fg]
 | p::l,i=>by
   unfold fg;by_cases e:p.1=i
   . simp[e]
   . have h1:Nat.beq p.1 i=false:=by simpa [<-Bool.not_eq_true]using e
     have:=eV (l:=l) (i:=i);simp only[h1,cond_false,this,List.map_cons,List.mem_cons];exact⟨.inr,λh=>h.resolve_left (Ne.symm e)⟩
end Go.Ev
end
section
namespace Go.Ev
open Go Go.RowKit
variable{x y:aE}{D:Nat->Prop}{C:bg}{o:aC}{id n i off:Nat}{w w':World}{st:St}{cs r:List AV}
def nQ:aE->Bool
 | .dead=>false
 | _=>true
def Dp:aE->Bool
 | .cells _ rw _=>rw
 | .map _=>true
 | .siter _ _=>true
 | .loop _=>true
 | .defs=>true
 | .dead=>false
theorem m9(h:Dp x):nQ x=true:=by cases x<;>simp_all [nQ,Dp]
structure Cu(D:Nat->Prop)(m:Nat->bq)(l:bq)(cs:List AV)(rw:Bool)(g:Option Nat)(c:Array Value)(fz:Nat×Nat):Prop where
 at':∀i v,cs[i]? = some v->c[l.base+i]? = some (aj m v)
 okc:fN D m cs
 free:rw->fz=(0,0)
 grow:∀s,g=some s->0<s/\l.base=0/\c.size=l.cap*s
structure j_(D:Nat->Prop)(m:Nat->bq)(r:zZ)(fn:FuncId)(tmps:Array Value):Prop where
 size:tmps.size=r.tn
 at':∀t,tmps.getD t undef=aj m (r.ts.get t)
 okt:∀t,db D m (r.ts.get t)
 defs:D r.defs
def eJ(m:Nat->bq)(r:zZ)(fn:FuncId)(tmps:Array Value):Loop:=
 { state:=r.state,pending:=r.pend,fn,tmps,params:=r.params,assign:=r.assign,body:=r.body,defers:=(m r.defs).blk }
theorem j_.mono{D':Nat->Prop}{m m':Nat->bq}{r:zZ}{fn:FuncId}{tmps:Array Value}(h:j_ D m r fn tmps)(hd:∀i,D i->D' i)(hs:∀i,D i->m' i=m i):j_ D' m' r fn tmps/\eJ m' r fn tmps=eJ m r fn tmps:=
 ⟨⟨h.size,λt=>by rw[h.at' t,jd (h.okt t) hs],λt=>(h.okt t).mono hd hs,hd _ h.defs⟩,by unfold eJ;rw[hs _ h.defs]⟩
def cS(D:Nat->Prop)(m:Nat->bq)(l:bq):aE->Option Obj->Prop
 | .dead,_=>True
 | .cells cs rw g,b=>∃c e fz,b=some (.cells c e fz)/\Cu D m l cs rw g c fz
 | .map es,b=>∃en clock,b=some (.map en clock)/\en.toList.map (λe=>(e.key,e.val))=es.map (λe=>(aj m e.1,aj m e.2))/\∀e∈es,db D m e.1/\db D m e.2
 | .siter s pos,b=>b=some (.stringIter ⟨⟨s⟩⟩ pos)/\l.base=0
 | .loop r,b=>∃fn tmps,b=some (.loop (eJ m r fn tmps))/\j_ D m r fn tmps
 | .defs,b=>b=some (.deferred (some []))
theorem cS.mono{D':Nat->Prop}{m m':Nat->bq}{l:bq}{b:Option Obj}(h:cS D m l x b)(hd:∀i,D i->D' i)(hs:∀i,D i->m' i=m i):cS D' m' l x b:=by
 cases x with
 | dead=>trivial
 | cells cs rw g=>
   obtain⟨c,e,fz,hb,hc⟩:=h;refine⟨c,e,fz,hb,⟨λi v hv=>?_,hc.okc.mono hd hs,hc.free,hc.grow⟩⟩;rw[hc.at' i v hv,jd (dK.1 hc.okc v (List.mem_of_getElem? hv)) hs]
 | map es=>
   obtain⟨en,ck,hb,he,ho⟩:=h;refine⟨en,ck,hb,he.trans (List.map_congr_left λe hm=>?_),λe hm=>⟨(ho e hm).1.mono hd hs,(ho e hm).2.mono hd hs⟩⟩;rw[jd (ho e hm).1 hs,jd (ho e hm).2 hs]
 | siter s pos=>exact h
 | loop r=>
   obtain⟨fn,tmps,hb,hr⟩:=h;obtain⟨h1,h2⟩:=hr.mono hd hs;exact⟨fn,tmps,by rw[h2];exact hb,h1⟩
 | defs=>exact h
structure dV(cfg:cG)(D:Nat->Prop)(m:Nat->bq)(C:bg)(o:aC)(w:World):Prop where
 obj:∀id,D id->cS D m (m id) (get C o id) w.heap[(m id).blk]?
 inj:∀i j,D i->D j->i≠j->nQ (get C o i)->Dp (get C o j)->(m i).blk≠(m j).blk
 lt:∀id,D id->id<C.lo+o.n
 glob:∀g,g<cfg.G->D g/\(m g).blk=g/\(m g).base=0/\(m g).cap=1
 root:∀id,id<cfg.root.n->D id/\get C o id=cfg.root.at id
 le:∀id,id∈o.le.map (·.1)->cfg.root.n<=id/\id<C.lo
 lo:cfg.root.n<=C.lo
 len:o.os.length=o.n
theorem gf(h:dW C o id=some x):get C o id=x:=by
 unfold dW at h;unfold get gy;cases hb:Nat.ble C.lo id with
 | true=>simp only[hb,cond_true,Option.some.injEq]at h;simp only[hb,cond_true,h]
 | false=>simp only[hb,cond_false]at h;simp only[hb,cond_false,h]
theorem xA{j:Nat}(hj:j<=C.lo+o.n):get C (o.push x) j=if j=C.lo+o.n then x else get C o j:=by
 unfold get gy;cases hb:Nat.ble C.lo j with
 | true=>
   have:=bv.1 hb;simp only[cond_true];rw[aC.at_push o x _ (by omega)];by_cases e:j=C.lo+o.n
   . grind
   . grind
 | false=>
   have:¬C.lo<=j:=by intro h;rw[bv.2 h]at hb;cases hb
   rw[if_neg (by omega)];rfl
theorem vZ{j:Nat}(hl:o.os.length=o.n)(hi:id<C.lo+o.n)(hj:j<C.lo+o.n)(ho:(dW C o id).isSome) :
 get C (eF C o id x) j=if j=id then x else get C o j:=by
 unfold dW at ho;unfold get gy eF;cases hb:Nat.ble C.lo id with
 | true=>
   have h1:=bv.1 hb;simp only[cond_true];cases hc:Nat.ble C.lo j with
   | true=>
     have h2:=bv.1 hc;simp only[cond_true];rw[aC.at_put o x _ _ hl (by omega) (by omega)];by_cases e:j=id
     . grind
     . grind
   | false=>
     have h2:¬C.lo<=j:=by intro h;rw[bv.2 h]at hc;cases hc
     rw[if_neg (by omega)];rfl
 | false=>
   have h1:¬C.lo<=id:=by intro h;rw[bv.2 h]at hb;cases hb
   simp only[hb,cond_false]at ho;simp only[cond_false];cases hc:Nat.ble C.lo j with
   | true=>
     have h2:=bv.1 hc;simp only[cond_true];rw[if_neg (by omega)];rfl
   | false=>
     simp only[cond_false];rw[qw];by_cases e:j=id
     . grind
     . grind
theorem qp:(eF C o id x).le.map (·.1)=o.le.map (·.1):=by
 unfold eF;cases Nat.ble C.lo id with
 | true=>rfl
 | false=>exact zx x o.le id
theorem tR:(eF C o id x).n=o.n:=by unfold eF;cases Nat.ble C.lo id<;>rfl
theorem mY(h:o.os.length=o.n):(eF C o id x).os.length=(eF C o id x).n:=by
 rw[tR];unfold eF;cases Nat.ble C.lo id with
 | true=>exact(vF x _ _).trans h
 | false=>exact h
theorem gZ{o':aC}(h:o'.le.map (·.1)=o.le.map (·.1))(id:Nat):(dW C o' id).isSome=(dW C o id).isSome:=by
 unfold dW;cases Nat.ble C.lo id with
 | true=>rfl
 | false=>
   simp only[cond_false];rw[Bool.eq_iff_iff,eV,eV,h]
theorem dV.world{cfg:cG}{m:Nat->bq}(h:dV cfg D m C o w)
 (hw:∀j,D j->nQ (get C o j)->w'.heap[(m j).blk]? = w.heap[(m j).blk]?):dV cfg D m C o w':=
 ⟨λid hd=>by
  have:=h.obj id hd;cases hx:get C o id with
  | dead=>trivial
  | _=>rw[hw id hd (by rw[hx];rfl)];rw[hx]at this;exact this,h.inj,h.lt,h.glob,h.root,h.le,h.lo,h.len⟩
theorem dV.put{cfg:cG}{m:Nat->bq}(h:dV cfg D m C o w)(hd:D id)(ho:dW C o id=some y)(hy:Dp y)
 (hw:∀k,k≠(m id).blk->w'.heap[k]? = w.heap[k]?) (hx:cS D m (m id) x w'.heap[(m id).blk]?):dV cfg D m C (eF C o id x) w':=by
 have hg:=gf ho;have hos:(dW C o id).isSome=true:=by rw[ho];rfl
 have hlt:=h.lt id hd;have gp:∀j,D j->get C (eF C o id x) j=if j=id then x else get C o j:=λj hj=>vZ h.len hlt (h.lt j hj) hos
 have hid:cfg.root.n<=id:=by
  rcases Nat.lt_or_ge id cfg.root.n with hlt'|hge
  . unfold dW at ho;have hlo:=h.lo;have:Nat.ble C.lo id=false:=by rw[<-Bool.not_eq_true,Nat.ble_eq];omega
    rw[this,cond_false]at ho;have:=eV.1 (by rw[ho];rfl:(fg o.le id).isSome=true);exact(h.le id this).1
  . exact hge
 refine{ obj:=λj hj=>?_,inj:=λi j hi hj hij hl hr=>?_,lt:=λj hj=>by rw[tR];exact h.lt j hj,glob:=h.glob,root:=λj hj=>?_,le:=λj hj=>h.le j (by rw[qp]at hj;exact hj),lo:=h.lo,len:=mY h.len }
 . rw[gp j hj];by_cases e:j=id
   . grind
   . rw[if_neg e];have:=h.obj j hj;cases hxj:get C o j with
     | dead=>trivial
     | _=>
       rw[hw _ (h.inj j id hj hd e (by rw[hxj];rfl) (by rw[hg];exact hy))];rw[hxj]at this;exact this
 . rw[gp i hi]at hl;rw[gp j hj]at hr;have hl':nQ (get C o i)=true:=by
    by_cases e:i=id
    . subst e;rw[hg];exact m9 hy
    . grind
   have hr':Dp (get C o j)=true:=by
    grind
   exact h.inj i j hi hj hij hl' hr'
 . refine⟨(h.root j hj).1,?_⟩;rw[gp j (h.root j hj).1,if_neg (by omega)];exact(h.root j hj).2
def zm(m:Nat->bq)(n:Nat)(l:bq)(i:Nat):bq:=if i=n then l else m i
theorem fM(m:Nat->bq)(n:Nat)(l:bq):zm m n l n=l:=if_pos rfl
theorem qC{m:Nat->bq}{l:bq}(h:i≠n):zm m n l i=m i:=if_neg h
def wV(D:Nat->Prop)(n:Nat)(i:Nat):Prop:=D i\/i=n
theorem dV.push{cfg:cG}{m:Nat->bq}(h:dV cfg D m C o w){l:bq}
 (hl:∀j,D j->nQ (get C o j)->(m j).blk≠l.blk) (hx:cS D m l x w.heap[l.blk]?) :
 dV cfg (wV D (C.lo+o.n)) (zm m (C.lo+o.n) l) C (o.push x) w:=by
 have hs:∀i,D i->zm m (C.lo+o.n) l i=m i:=λi hi=>by
  have:=h.lt i hi;exact qC (by omega)
 have gp:∀j,D j->get C (o.push x) j=get C o j:=λj hj=>by
  have:=h.lt j hj;rw[xA (by omega),if_neg (by omega)]
 have gn:get C (o.push x) (C.lo+o.n)=x:=by rw[xA (Nat.le_refl _),if_pos rfl]
 refine{ obj:=?_,inj:=?_,lt:=?_,glob:=λg hg=>?_,root:=λj hj=>?_,le:=h.le,lo:=h.lo,len:=by simp[aC.push,h.len] }
 . rintro id (hd|rfl)
   . rw[gp id hd,hs id hd];exact(h.obj id hd).mono (λi hi=>.inl hi) hs
   . rw[gn];rw[fM];exact hx.mono (λi hi=>.inl hi) hs
 . rintro i j (hi|rfl) (hj|rfl) hij hli hrj
   . rw[hs i hi,hs j hj];rw[gp i hi]at hli;rw[gp j hj]at hrj;exact h.inj i j hi hj hij hli hrj
   . rw[hs i hi];rw[fM];rw[gp i hi]at hli;exact hl i hi hli
   . rw[hs j hj];rw[fM];rw[gp j hj]at hrj;exact λe=>hl j hj (m9 hrj) e.symm
   . omega
 . rintro id (hd|rfl)
   . have:=h.lt id hd;simp only[aC.push];omega
   . simp only[aC.push];omega
 . obtain⟨a,b,c⟩:=h.glob g hg;exact⟨.inl a,by rw[hs g a];exact b,by rw[hs g a];exact c⟩
 . obtain⟨a,b⟩:=h.root j hj;exact⟨.inl a,by rw[gp j a];exact b⟩
structure dk(cfg:cG)(C:bg)(D:Nat->Prop)(m:Nat->bq)(o:aC)(w:World)(D':Nat->Prop)(m':Nat->bq)(o':aC)(w':World):Prop where
 inv:dV cfg D' m' C o' w'
 sub:∀i,D i->D' i
 same:∀i,D i->m' i=m i
 new:∀i,D' i->D i\/C.lo+o.n<=i
 grow:o.n<=o'.n
 os:w'.os=w.os
 tape:w'.tape=w.tape
 output:w'.output=w.output
 size:w.heap.size<=w'.heap.size
 frame:∀k,k<w.heap.size->(∀i,D i->(dW C o i).isSome->(m i).blk≠k)->w'.heap[k]? = w.heap[k]?
 leIds:o'.le.map (·.1)=o.le.map (·.1)
 fresh:∀i,D' i->¬D i->w.heap.size<=(m' i).blk\/∃j,D j/\(dW C o j).isSome/\(m j).blk=(m' i).blk
theorem dk.refl{cfg:cG}{m:Nat->bq}(h:dV cfg D m C o w):dk cfg C D m o w D m o w:=
 ⟨h,λ_ h=>h,λ_ _=>rfl,λ_ h=>.inl h,Nat.le_refl _,rfl,rfl,rfl,Nat.le_refl _,λ_ _ _=>rfl,rfl,λi h h'=>absurd h h'⟩
theorem dk.trans{cfg:cG}{D1 D2:Nat->Prop}{m m1 m2:Nat->bq}{o1 o2:aC}{w1 w2:World}(h:dk cfg C D m o w D1 m1 o1 w1)(k:dk cfg C D1 m1 o1 w1 D2 m2 o2 w2) :
 dk cfg C D m o w D2 m2 o2 w2:=by
 refine⟨k.inv,λi hi=>k.sub i (h.sub i hi),λi hi=>(k.same i (h.sub i hi)).trans (h.same i hi),λi hi=>?_,Nat.le_trans h.grow k.grow,k.os.trans h.os,k.tape.trans h.tape,k.output.trans h.output,Nat.le_trans h.size k.size,λb hb hn=>?_,k.leIds.trans h.leIds,λi hi hni=>?_⟩
 . rcases k.new i hi with hi|hi
   . exact h.new i hi
   . have:=h.grow;exact .inr (by omega)
 . rw[k.frame b (Nat.lt_of_lt_of_le hb h.size) (λi hi ho=>?_),h.frame b hb hn];rw[gZ h.leIds i]at ho;by_cases hd:D i
   . rw[h.same i hd];exact hn i hd ho
   . rcases h.fresh i hi hd with hf|⟨j,hj,hoj,e⟩
     . omega
     . grind
 . by_cases hd:D1 i
   . rw[k.same i hd];exact h.fresh i hd hni
   . rcases k.fresh i hi hd with hf|⟨j,hj,hoj,e⟩
     . exact .inl (Nat.le_trans h.size hf)
     . rw[gZ h.leIds j]at hoj;by_cases hdj:D j
       . exact .inr ⟨j,hdj,hoj,by rw[<-e,h.same j hdj]⟩
       . rcases h.fresh j hj hdj with hf|⟨j',hj',ho',e'⟩
         . omega
         . grind
theorem dk.alloc{cfg:cG}{m:Nat->bq}(h:dV cfg D m C o w){l:bq}
 (hsz:w.heap.size<=w'.heap.size) (hk:∀k,k<w.heap.size->w'.heap[k]? = w.heap[k]?) (hl:w.heap.size<=l.blk) (hx:cS D m l x w'.heap[l.blk]?)
 (ho:w'.os=w.os) (ht:w'.tape=w.tape) (hu:w'.output=w.output) :
 dk cfg C D m o w (wV D (C.lo+o.n)) (zm m (C.lo+o.n) l) (o.push x) w':=by
 have blt:∀j,D j->nQ (get C o j)->(m j).blk<w.heap.size:=λj hj hlv=>by
  have:=h.obj j hj;cases hb:w.heap[(m j).blk]? with
  | some b=>exact(Array.getElem?_eq_some_iff.1 hb).1
  | none=>
    rw[hb]at this;cases hx:get C o j with
    | dead=>rw[hx]at hlv;cases hlv
    | cells cs rw g=>rw[hx]at this;obtain⟨_,_,_,e,_⟩:=this;cases e
    | map es=>rw[hx]at this;obtain⟨_,_,e,_⟩:=this;cases e
    | siter s p=>rw[hx]at this;cases this.1
    | loop r=>rw[hx]at this;obtain⟨_,_,e,_⟩:=this;cases e
    | defs=>rw[hx]at this;cases this
 have h':dV cfg D m C o w':=h.world λj hj hlv=>hk _ (blt j hj hlv);refine⟨h'.push (λj hj hlv=>by have:=blt j hj hlv;omega) hx,λi hi=>.inl hi,λi hi=>?_,?_,by simp[aC.push],ho,ht,hu,hsz,λk hk' _=>hk k hk',rfl,?_⟩
 . have:=h.lt i hi;exact qC (by omega)
 . rintro i (hi|rfl)
   . grind
   . omega
 . rintro i (hi|rfl) hn
   . grind
   . rw[fM];exact .inl hl
theorem dk.put{cfg:cG}{m:Nat->bq}(h:dV cfg D m C o w)(hd:D id)(ho:dW C o id=some y)(hy:Dp y)
 (hsz:w.heap.size<=w'.heap.size) (hw:∀k,k≠(m id).blk->w'.heap[k]? = w.heap[k]?) (hx:cS D m (m id) x w'.heap[(m id).blk]?)
 (hos:w'.os=w.os) (ht:w'.tape=w.tape) (hu:w'.output=w.output):dk cfg C D m o w D m (eF C o id x) w':=
 ⟨h.put hd ho hy hw hx,λ_ hi=>hi,λ_ _=>rfl,λ_ hi=>.inl hi,Nat.le_of_eq tR.symm,hos,ht,hu,hsz,λk _ hn=>hw k (λe=>hn id hd (by rw[ho];rfl) e.symm),qp,λi hi hn=>absurd hi hn⟩
def gH(m:Nat->bq)(ds:List Nat):List Deferred:=ds.map λd=>{ target:=.collected (m d).blk,args:=#[] }
theorem iB{m m':Nat->bq}{ds:List Nat}(h:∀d∈ds,D d)(hs:∀i,D i->m' i=m i):gH m' ds=gH m ds:=
 List.map_congr_left λd hd=>by rw[hs d (h d hd)]
def vL(m:Nat->bq)(ro:Option Nat):Option Nat:=ro.map λi=>(m i).blk
theorem qL{m m':Nat->bq}{ro:Option Nat}(h:∀i,ro=some i->D i)(hs:∀i,D i->m' i=m i):vL m' ro=vL m ro:=by
 cases ro with
 | none=>rfl
 | some i=>simp[vL,hs i (h i rfl)]
structure TR(D:Nat->Prop)(m:Nat->bq)(st:St)(a:Act):Prop where
 size:a.tmps.size=st.tn
 at':∀t,a.tmps.getD t undef=aj m (st.ts.get t)
 okt:∀t,db D m (st.ts.get t)
 defers:a.defers=gH m st.ds
 dsD:∀d∈st.ds,D d
 roD:∀i,st.ro=some i->D i
theorem TR.mono{D':Nat->Prop}{m m':Nat->bq}{a:Act}(h:TR D m st a)(hd:∀i,D i->D' i)(hs:∀i,D i->m' i=m i):TR D' m' st a:=
 ⟨h.size,λt=>by rw[h.at' t,jd (h.okt t) hs],λt=>(h.okt t).mono hd hs,by rw[iB h.dsD hs];exact h.defers,λd hm=>hd d (h.dsD d hm),λi hi=>hd i (h.roD i hi)⟩
theorem TR.put{m:Nat->bq}{st':St}{a:Act}(h:TR D m st a){v:AV}{dst:Option Tmp}(hp:jx st v o dst=some st')(hv:db D m v) :
 TR D m st' (a.put dst (aj m v))/\st'.o=o/\st'.ds=st.ds/\st'.ro=st.ro:=by
 cases dst with
 | none=>
   simp only[jx,Option.some.injEq]at hp;subst hp;exact⟨⟨h.size,h.at',h.okt,h.defers,h.dsD,h.roD⟩,rfl,rfl,rfl⟩
 | some d=>
   simp only[jx,aA,Option.some.injEq,Bool.and_eq_true]at hp;obtain⟨⟨h1,h2⟩,hp⟩:=hp;rw[aS]at h1 h2;subst hp;have hd:d<2^20-1:=Nat.lt_of_lt_of_le h2 (by decide);refine⟨⟨by simp[Act.put,h.size],λt=>?_,λt=>?_,h.defers,h.dsD,h.roD⟩,rfl,rfl,rfl⟩
   . simp only[Act.put];rw[Ts.get_set 20 _ _ _ _ hd];have:=h.at' t;have hs:=h.size;by_cases e:t=d
     . simp_all
     . rw[if_neg e,<-this];simp only[Array.getD,Array.size_setIfInBounds];split
       . rw[Array.getInternal_eq_getElem,Array.getInternal_eq_getElem,Array.getElem_setIfInBounds_ne (h:=λe'=>e e'.symm)]
       . rfl
   . simp only;rw[Ts.get_set 20 _ _ _ _ hd];split
     . exact hv
     . exact h.okt t
theorem Ao{m:Nat->bq}{x:Value}{v:AV}(h:MX x=some v):aj m v=x/\aD v=[]:=by
 unfold MX at h;split at h<;>first|(cases h;simp[aj,aD];done)|(cases h;done)|skip
 all_goals (cases h;simp[aj,aD])
theorem zp{m:Nat->bq}:∀{xs:List Value} {vs:List AV},N7 xs=some vs->ap m vs=xs/\bz vs=[]
 | [],vs,h=>by cases h;simp[ap,bz]
 | x::xs,vs,h=>by
   simp only[N7,ai,Option.some.injEq]at h;obtain⟨a,ha,sa0,has,rfl⟩:=h;obtain⟨h1,h2⟩:=Ao (m:=m) ha;obtain⟨h3,h4⟩:=zp (m:=m) has;simp[ap,bz,h1,h2,h3,h4]
theorem sD{m:Nat->bq}{x:Value}{v:AV}(h:Nm x=some v):aj m v=x/\aD v=[]:=by
 unfold Nm at h;split at h
 . simp only[ai,Option.some.injEq]at h;obtain⟨sa0,has,rfl⟩:=h;obtain⟨h1,h2⟩:=zp (m:=m) has;simp[aj,aD,h1,h2]
 . exact Ao h
theorem mI{cfg:cG}{m:Nat->bq}{a:Act}(hi:dV cfg D m C o w)(ht:TR D m st a){x:Operand}{v:AV}(h:e9 cfg.G st.ts x=some v) :
 a.eval x=aj m v/\db D m v:=by
 cases x with
 | tmp t=>cases h;exact⟨ht.at' t,ht.okt t⟩
 | const c=>obtain⟨h1,h2⟩:=sD (m:=m) h;exact⟨h1.symm,bQ h2⟩
 | global g=>
   simp only[e9,aA,Option.some.injEq,aS]at h;obtain⟨hg,rfl⟩:=h;obtain⟨a1,a2,a3⟩:=hi.glob g hg;refine⟨by simp[Act.eval,aj,a2,a3],λi hi=>?_⟩;simp only[aD,List.mem_singleton]at hi;subst hi;exact⟨a1,Nat.zero_le _⟩
 | func f=>cases h;exact⟨by simp[Act.eval,aj,ap],λi hi=>by simp[aD,bz]at hi⟩
structure fF(P:Program)(T:fb):Prop where
 ty:∀t e,T.ty.get t=some e->P.info? t=some e.i/\P.underlying t=some e.u/\(wR (some e.u)->P.eqGuardType P.depth t=e.guard)/\((oT (some e.u)).isSome->P.stoodInHeld t=e.stood)
 fn:∀f fn,T.fn.get f=some fn->P.funcs[f]? = some fn/\fn.name ≠ "runtime.NumGoroutine"
section
variable{P:Program}{T:fb}(hT:fF P T)
include hT
theorem ju{t:TypeId}{d:TypeDesc}(h:T.und t=some d):P.underlying t=some d:=by
 simp only[fb.und,ai,Option.some.injEq]at h;obtain⟨e,he,rfl⟩:=h;exact(hT.ty t e he).2.1
theorem LX{t:TypeId}{i:TypeInfo}(h:T.inf t=some i):P.info? t=some i:=by
 simp only[fb.inf,ai,Option.some.injEq]at h;obtain⟨e,he,rfl⟩:=h;exact(hT.ty t e he).1
theorem bc{t:TypeId}{d:TypeDesc}(h:T.und t=some d)(w:World):(underlying t).run P w=.ok d w:=run_underlying (ju hT h) w
theorem o9{t:TypeId}{i:TypeInfo}(h:T.inf t=some i)(w:World):(typeInfo t).run P w=.ok i w:=by
 simp[typeInfo,LX hT h]
theorem ek{t:TypeId}(h:gO T t=some n)(w:World):(sizeOf t).run P w=.ok n w:=by
 simp only[gO,ai,Option.some.injEq]at h;obtain⟨e,he,rfl⟩:=h;have:=o9 (T:=T) hT (t:=t) (i:=e.i) (by simp[fb.inf,he,ob]) w;simp[sizeOf,this]
theorem Gn{t:TypeId}{d:TypeDesc}(h:T.und t=some d)(w:World):(isAgg t).run P w=.ok (wR (some d)) w:=by
 simp only[isAgg,Sem.run_bind,bc hT h w,Result.andThen_ok];cases d<;>rfl
theorem l_{t:TypeId}{v:AV}{m:Nat->bq}(h:kW T t=some v)(w:World):(zeroValue t).run P w=.ok (aj m v) w/\aD v=[]:=by
 simp only[kW,ai]at h;obtain⟨i,hi,z,hz,hv⟩:=h;obtain⟨h1,h2⟩:=sD (m:=m) hv;refine⟨?_,h2⟩;simp[zeroValue,o9 hT hi w,hz,h1]
end
theorem gU(b o i:Nat):(⟨b,o,none⟩:Addr).add i=⟨b,o+i,none⟩:=by
 unfold Addr.add;split
 . grind
 . rfl
theorem fZ{m:Nat->bq}:(ap m cs)[i]? = (cs[i]?).map (aj m):=by rw[fh,List.getElem?_map]
theorem b_{m:Nat->bq}:(ap m cs).length=cs.length:=by rw[fh,List.length_map]
theorem lL{m:Nat->bq}{ds:List AV}:ap m (cs++ds)=ap m cs++ap m ds:=by simp only[fh,List.map_append]
theorem tD(h:jW cs off n=some r):r.length=n:=by
 simp only[jW,aA,Option.some.injEq,cO]at h;obtain⟨h1,rfl⟩:=h;exact h1
theorem Ag(h:jW cs off n=some r)(hi:i<n):cs[off+i]? = r[i]? := by
 simp only[jW,aA,Option.some.injEq]at h;obtain⟨_,rfl⟩:=h;rw[List.getElem?_take_of_lt hi,List.getElem?_drop]
theorem C6{m:Nat->bq}(h:jW cs off n=some r)(ho:fN D m cs):fN D m r:=by
 simp only[jW,aA,Option.some.injEq]at h;obtain⟨_,rfl⟩:=h;rw[dK]at ho ⊢;exact λv hv=>ho v (List.mem_of_mem_drop (List.mem_of_mem_take hv))
theorem Ey{m:Nat->bq}(h:jW cs off n=some r):List.take n (List.drop off (ap m cs))=ap m r:=by
 simp only[jW,aA,Option.some.injEq]at h;obtain⟨_,rfl⟩:=h;simp[fh]
section
variable{P:Program}{T:fb}(hT:fF P T)
include hT
theorem kg{t:TypeId}{v:AV}{m:Nat->bq}(h:iQ T t cs off=some v)(w:World):(part t (ap m cs).toArray off).run P w=.ok (aj m v) w:=by
 simp only[iQ,ai]at h;obtain⟨d,hd,h⟩:=h;simp only[part,Sem.run_bind,Gn hT hd w,Result.andThen_ok];cases hb:wR (some d)with
 | true=>
   simp only[hb,cond_true,ai,Option.some.injEq]at h;obtain⟨n,hn,r,hr,rfl⟩:=h;simp[ek hT hn w,Ey hr,aj]
 | false=>
   simp only[hb,cond_false]at h;simp[fZ,h]
theorem Dd{m:Nat->bq}{t:TypeId}{v:AV}(h:iQ T t cs off=some v)(ho:fN D m cs):db D m v:=by
 simp only[iQ,ai]at h;obtain⟨d,hd,h⟩:=h;cases hb:wR (some d)with
 | true=>
   simp only[hb,cond_true,ai,Option.some.injEq]at h;obtain⟨n,hn,r,hr,rfl⟩:=h;exact iJ.2 (C6 hr ho)
 | false=>
   simp only[hb,cond_false]at h;exact dK.1 ho v (List.mem_of_getElem? h)
end
theorem dV.cells{cfg:cG}{m:Nat->bq}(h:dV cfg D m C o w)(hd:D id)(hc:cellsOf (get C o id)=some cs) :
 ∃rw g c e fz,get C o id=.cells cs rw g/\w.heap[(m id).blk]? = some (.cells c e fz)/\Cu D m (m id) cs rw g c fz:=by
 have:=h.obj id hd;cases hx:get C o id with
 | cells cs' rw g=>
   rw[hx]at hc this;simp only[cellsOf,Option.some.injEq]at hc;subst hc;obtain⟨c,e,fz,hb,hr⟩:=this;exact⟨rw,g,c,e,fz,rfl,hb,hr⟩
 | _=>rw[hx]at hc;cases hc
theorem Nz{b:Nat}{c:Array Value}{e:TypeId}{fz:Nat×Nat}(h:w.heap[b]? = some (.cells c e fz)):w.cell? ⟨b,i,none⟩=c[i]? := by
 simp[World.cell?,h]
theorem dV.cell{cfg:cG}{m:Nat->bq}(h:dV cfg D m C o w)(hd:D id)(hc:cellsOf (get C o id)=some cs){v:AV}(hv:cs[i]? = some v) :
 w.cell? ⟨(m id).blk,(m id).base+i,none⟩=some (aj m v)/\db D m v:=by
 obtain⟨rw,g,c,e,fz,_,hb,hr⟩:=h.cells hd hc;exact⟨(Nz hb).trans (hr.at' i v hv),dK.1 hr.okc v (List.mem_of_getElem? hv)⟩
theorem dV.range{cfg:cG}{m:Nat->bq}(h:dV cfg D m C o w)(hd:D id)(hc:cellsOf (get C o id)=some cs)(hr:jW cs off n=some r)(P:Program) :
 (loadCells ⟨(m id).blk,(m id).base+off,none⟩ n).run P w=.ok (ap m r).toArray w/\fN D m r:=by
 have hl:=tD hr;refine⟨?_,C6 hr ?_⟩
 . have:=run_loadCells_list (P:=P) (w:=w) ⟨(m id).blk,(m id).base+off,none⟩ (ap m r) (λj v hv=>by
    rw[fZ]at hv;obtain⟨u,hu,rfl⟩:=Option.map_eq_some_iff.1 hv;have hj:j<n:=by
     grind
    rw[gU,Nat.add_assoc];exact(h.cell hd hc ((Ag hr hj).trans hu)).1)
   rw[b_,hl]at this;exact this
 . obtain⟨rw,g,c,e,fz,_,_,hr⟩:=h.cells hd hc;exact hr.okc
section
variable{P:Program}{T:fb}(hT:fF P T)
include hT
theorem zN{cfg:cG}{m:Nat->bq}(h:dV cfg D m C o w){t:TypeId}{p v:AV}(hp:db D m p)(hv:rJ T C o t p=some v) :
 ∃a,aj m p=.pointer (some a)/\(loadVar t a).run P w=.ok (aj m v) w/\db D m v:=by
 cases p with
 | ptr id off=>
   have hd:D id:=(hp (id,0) (by simp[aD])).1;simp only[rJ,ai]at hv;obtain⟨cs,hc,hv⟩:=hv;refine⟨_,rfl,?_⟩;simp only[iQ,ai]at hv;obtain⟨d,hd',hv⟩:=hv;simp only[loadVar,Sem.run_bind,Gn hT hd' w,Result.andThen_ok];cases hb:wR (some d)with
   | true=>
     simp only[hb,cond_true,ai,Option.some.injEq]at hv;obtain⟨n,hn,r,hr,rfl⟩:=hv;obtain⟨h1,h2⟩:=h.range hd hc hr P;refine⟨?_,iJ.2 h2⟩;simp[ek hT hn w,h1,aj]
   | false=>
     simp only[hb,cond_false]at hv;obtain⟨h1,h2⟩:=h.cell hd hc hv;refine⟨?_,h2⟩;simp[h1]
 | _=>simp[rJ]at hv
end
end Go.Ev
end
