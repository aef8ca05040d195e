import Derived.Calls
import Derived.Scope
import Derived.Below
import Derived.Laws.Cells
import Derived.Laws.Entries
import Derived.Test.YtcffhjfdlflbgaaGreatDoorP03
set_option linter.all false
open Option.some renaming injEq->ν
open Bool renaming not_eq_true->ξ
open Nat renaming mod_two_eq_zero_or_one->ο,beq->π,ble->ς
set_option linter.all false
set_option maxRecDepth 100000
set_option maxHeartbeats 4000000
section
namespace Go.Ev
open Go
variable{D:Nat->Prop}{vs:List AV}{v:AV}{a b:Nat}
structure bv where
 a0:Nat
 b0:Nat
 c0:Nat
def TI(l:bv):fg->Nat
 | .a n=>n
 | .b k=>l.c0-k
mutual
def aj(m:Nat->bv):AV->Value
 | .b b=>.bool b
 | .a k n=>.int k n
 | .e s=>.string ⟨⟨s⟩⟩
 | .h id off=>.pointer (some ⟨(m id).a0,(m id).b0+off,none⟩)
 | .o=>.pointer none
 | .c id off len c=>.slice (some ⟨(m id).a0,(m id).b0+off,none⟩) len (TI (m id) c)
 | .f=>.slice none 0 0
 | .i f a b=>.func (.func f) (aD m a).toArray (aD m b).toArray
 | .l=>.nilFunc
 | .m t v=>.iface t (aj m v)
 | .k=>.nilIface
 | .g cs=>.agg (aD m cs).toArray
 | .d cs=>.tuple (aD m cs).toArray
 | .q id=>.map (some (m id).a0)
 | .p=>.map none
 | .n id=>.func (.yield (m id).a0) #[] #[]
 | .j v=>v
def aD(m:Nat->bv):List AV->List Value
 | []=>[]
 | v::vs=>aj m v::aD m vs
end
def rI(len:Nat):fg->Nat
 | .a _=>0
 | .b k=>len+k
mutual
def aC:AV->List (Nat×Nat)
 | .h id _=>[(id,0)]
 | .c id _ len c=>[(id,rI len c)]
 | .q id=>[(id,0)]
 | .n id=>[(id,0)]
 | .i _ a b=>bw a++bw b
 | .m _ v=>aC v
 | .g cs=>bw cs
 | .d cs=>bw cs
 | _=>[]
def bw:List AV->List (Nat×Nat)
 | []=>[]
 | v::vs=>aC v++bw vs
end
def dh(D:Nat->Prop)(m:Nat->bv)(v:AV):Prop:=∀i∈aC v,D i.1/\i.2<=(m i.1).c0
def fM(D:Nat->Prop)(m:Nat->bv)(vs:List AV):Prop:=∀i∈bw vs,D i.1/\i.2<=(m i.1).c0
theorem d_(m:Nat->bv):∀vs,aD m vs=vs.map (aj m)
 | []=>by rfl
 | v::vs=>by rw[aD,d_ m vs];rfl
theorem ga{i:Nat×Nat}:∀{vs:List AV},i∈bw vs↔∃v∈vs,i∈aC v
 | []=>by simp[bw]
 | v::vs=>by simp[bw,ga (vs:=vs)]
theorem df{m:Nat->bv}:fM D m vs↔∀v∈vs,dh D m v:=by
 constructor
 . intro h v hv i hi;exact h i (ga.2 ⟨v,hv,hi⟩)
 . intro h i hi;obtain⟨v,hv,hi⟩:=ga.1 hi;exact h v hv i hi
theorem fE{m:Nat->bv}:fM D m (v::vs)↔dh D m v/\fM D m vs:=by simp[df]
theorem pi{m:Nat->bv}{us:List AV}:fM D m (vs++us)↔fM D m vs/\fM D m us:=by
 grind [df]
theorem fQ{m:Nat->bv}:fM D m []:=by nofun
theorem aak{m:Nat->bv}{cs:List AV}:dh D m (.g cs)↔fM D m cs:=κ
theorem gh{m:Nat->bv}{cs:List AV}:dh D m (.d cs)↔fM D m cs:=κ
theorem iy{m:Nat->bv}:dh D m bt:=by nofun
theorem dh.a0{D':Nat->Prop}{m m':Nat->bv}(h:dh D m v)(hd:∀i,D i->D' i)(hs:∀i,D i->m' i=m i):dh D' m' v:=
 λi hi=>⟨hd _ (h i hi).1,by rw[hs _ (h i hi).1];exact(h i hi).2⟩
theorem fM.a0{D':Nat->Prop}{m m':Nat->bv}{v:List AV}(h:fM D m v)(hd:∀i,D i->D' i)(hs:∀i,D i->m' i=m i):fM D' m' v:=
 λi hi=>⟨hd _ (h i hi).1,by rw[hs _ (h i hi).1];exact(h i hi).2⟩
theorem ek{m:Nat->bv}(h:aC v=[]):dh D m v:=λi hi=>by grind
theorem pL{m:Nat->bv}(h:dh D m v):fM D m (bU v):=by
 cases v<;>simp only[bU]<;>first|exact aak.1 h|exact fE.2 ⟨h,fQ⟩|skip
 grind [df,ek,aC]
mutual
theorem ja{m m':Nat->bv}:∀(v:AV),(∀i∈aC v,m i.1=m' i.1)->aj m v=aj m' v
 | .b b,_=>by rfl
 | .a k n,_=>by rfl
 | .e s,_=>by rfl
 | .h id off,h=>by simp_all [aj,aC]
 | .o,_=>by rfl
 | .c id off len c,h=>by simp_all [aj,aC]
 | .f,_=>by rfl
 | .i f a b,h=>by
   simp only[aj];rw[tk a (λi hi=>h i (by simp[aC,hi])),tk b (λi hi=>h i (by simp[aC,hi]))]
 | .l,_=>by rfl
 | .m t v,h=>by simp only[aj];rw[ja v (λi hi=>h i (by simp[aC,hi]))]
 | .k,_=>by rfl
 | .g cs,h=>by simp only[aj];rw[tk cs (λi hi=>h i (by simp[aC,hi]))]
 | .d cs,h=>by simp only[aj];rw[tk cs (λi hi=>h i (by simp[aC,hi]))]
 | .q id,h=>by simp_all [aj,aC]
 | .p,_=>by rfl
 | .n id,h=>by simp_all [aj,aC]
 | .j v,_=>by rfl
theorem tk{m m':Nat->bv}:∀(vs:List AV),(∀i∈bw vs,m i.1=m' i.1)->aD m vs=aD m' vs
 | [],_=>by rfl
 | v::vs,h=>by
   simp only[aD];rw[ja v (λi hi=>h i (by simp[bw,hi])),tk vs (λi hi=>h i (by simp[bw,hi]))]
end
theorem iW{m m':Nat->bv}(h:dh D m v)(hs:∀i,D i->m' i=m i):aj m' v=aj m v:=
 (ja v λi hi=>(hs i.1 (h i hi).1).symm).symm
theorem yd{m m':Nat->bv}{v:List AV}(h:fM D m v)(hs:∀i,D i->m' i=m i):aD m' v=aD m v:=
 (tk v λi hi=>(hs i.1 (h i hi).1).symm).symm
theorem td(m:Nat->bv):aj m bt=undef:=κ
theorem ru(b want:Bool):(bif want then b else !b)=(b==want):=η
theorem Aj(m:Nat->bv):∀vs:List Value,aD m (vs.map .j)=vs
 | []=>by rfl
 | v::vs=>by simp[aD,aj,Aj m vs]
theorem fV(m:Nat->bv)(v:AV):(aj m v).cells=(aD m (bU v)).toArray:=by
 cases v<;>grind [aj,bU,Aj,Value.cells,aD]
theorem ZQ{m:Nat->bv}(h:KU v):(aj m v).oneCell'=true:=by
 cases v<;>simp_all [aj,KU,Value.oneCell']
theorem abG:∀{vs:List AV},dM vs=true↔∀v∈vs,KU v=true
 | []=>by simp[dM]
 | v::vs=>by simp[dM,abG (vs:=vs)]
theorem rY(h:a=b):π a b=true:=by simp_all
theorem ic(h:a≠b):π a b=false:=by grind [Nat.beq_eq]
theorem cQ:π a b=true↔a=b:=θ
theorem eK:ς a b=true↔a<=b:=θ
theorem jT(h:¬a<=b):ς a b=false:=by grind [Nat.ble_eq]
theorem ag{α β:Type}{x:Option α}{f:α->Option β}{b:β}:ob x f=some b↔∃a,x=some a/\f a=some b:=by
 cases x<;>simp[ob]
theorem aA{α:Type}{b:Bool}{x:Option α}{a:α}:ok b x=some a↔b/\x=some a:=by
 grind [ok]
theorem bK{o:aB}{x:Option AV}{r:AV×aB}:gS o x=some r↔x=some r.1/\r.2=o:=by
 obtain⟨v,o'⟩:=r;cases x<;>simp[gS,ob];grind
theorem aU:aS a b=true↔a<b:=by grind [aS,Nat.ble_eq]
theorem ou:aS a b=false↔b<=a:=by
 grind [aU]
theorem Ts.g0(i:Nat):Ts.a0.b0 i=bt:=κ
theorem Ts.i0(t:Ts):t.b0 0=t.n0:=by cases t<;>rfl
theorem Ts.f0(t:Ts)(i:Nat)(h:i≠0)(ho:i%2=1):t.b0 i=t.m0.b0 (i/2):=by
 cases t with
 | a0=>rfl
 | c0 v l r=>
   have h0:π i 0=false:=by simpa [<-ξ]using h
   grind [π,Ts.b0,Ts.m0]
theorem Ts.d0(t:Ts)(i:Nat)(h:i≠0)(ho:i%2=0):t.b0 i=t.h0.b0 (i/2-1):=by
 cases t<;>grind [ic,Ts.b0,Ts.h0]
theorem Ts.e0:∀(d:Nat) (t:Ts) (i j:Nat) (v:AV),i<2^d-1->(Ts.k0 d t i v).b0 j=if j=i then v else t.b0 j
 | 0,t,i,j,v,h=>by simp at h
 | d+1,t,i,j,v,h=>by
   have hp:2^(d+1)=2*2^d:=by rw[Nat.pow_succ];omega
   have hpos:0<2^d:=Nat.two_pow_pos d;unfold Ts.k0;by_cases hi:i=0
   . subst hi;by_cases hj:j=0
     . subst hj;simp[Ts.b0]
     . rw[if_neg hj];rcases ο j with h2|h2
       . simp only[rY (rfl:(0:Nat)=0),cond_true];rw[Ts.d0 _ j hj h2,Ts.d0 t j hj h2];rfl
       . simp only[rY (rfl:(0:Nat)=0),cond_true];rw[Ts.f0 _ j hj h2,Ts.f0 t j hj h2];rfl
   . have h0:π i 0=false:=by simpa [<-ξ]using hi
     rw[h0,cond_false];rcases ο i with h2|h2
     . have h1:π (i%2) 1=false:=ic δ;rw[h1,cond_false];by_cases hj:j=0
       . subst hj;rw[if_neg (Ne.symm hi),Ts.i0,Ts.i0];rfl
       . rcases ο j with k2|k2
         . rw[Ts.d0 _ j hj k2,Ts.d0 t j hj k2];simp only[Ts.h0];rw[Ts.e0 d _ _ _ _ δ];by_cases e:j=i
           . grind
           . grind
         . rw[Ts.f0 _ j hj k2,Ts.f0 t j hj k2,if_neg δ];rfl
     . have h1:π (i%2) 1=true:=by simp[h2]
       rw[h1,cond_true];by_cases hj:j=0
       . subst hj;rw[if_neg (Ne.symm hi),Ts.i0,Ts.i0];rfl
       . rcases ο j with k2|k2
         . rw[Ts.d0 _ j hj k2,Ts.d0 t j hj k2,if_neg δ];rfl
         . rw[Ts.f0 _ j hj k2,Ts.f0 t j hj k2];simp only[Ts.m0];rw[Ts.e0 d _ _ _ _ δ];by_cases e:j=i
           . grind
           . grind
theorem Ts.l0:∀(vs:List AV) (i:Nat) (t:Ts) (j:Nat),i+vs.length<1000000->
 (Ts.j0 i t vs).b0 j=if i<=j/\j<i+vs.length then vs.getD (j-i) bt else t.b0 j
 | [],i,t,j,_=>by simp[Ts.j0];omega
 | v::vs,i,t,j,h=>by
   simp only[List.length_cons]at h;rw[Ts.j0,Ts.l0 vs (i+1) _ j δ];by_cases h1:i+1<=j/\j<i+1+vs.length
   . grind
   . rw[if_neg h1,Ts.e0 20 t i j v δ];by_cases e:j=i
     . grind
     . grind
theorem vN(x:cD):∀(os:List cD) (k:Nat),(zG os k x).length=os.length
 | [],_=>rfl
 | _::_,0=>rfl
 | _::os,k+1=>by simp[zG,vN x os k]
theorem ZR(x d:cD):∀(os:List cD) (k j:Nat),(zG os k x).getD j d=if j=k/\k<os.length then x else os.getD j d
 | [],k,j=>by simp[zG]
 | y::os,0,0=>by rfl
 | y::os,0,j+1=>by rfl
 | y::os,k+1,0=>by rfl
 | y::os,k+1,j+1=>by
   have:=ZR x d os k j;grind [zG]
theorem aB.d0(o:aB)(x:cD)(i:Nat)(h:i<=o.n):(o.a0 x).at i=if i=o.n then x else o.at i:=by
 grind [aB.at,aB.a0]
theorem aB.c0(o:aB)(x:cD)(i j:Nat)(hl:o.os.length=o.n)(hi:i<o.n)(hj:j<o.n):(o.e0 i x).at j=if j=i then x else o.at j:=by
 grind [aB.at,aB.e0,ZR]
theorem qD(x:cD):∀(l:List (Nat×cD)) (i j:Nat),fp (yJ l i x) j=if j=i/\(fp l i).isSome then some x else fp l j
 | [],i,j=>by simp[yJ,fp]
 | p::l,i,j=>by
   unfold yJ;by_cases e:p.1=i
   . have h1:π p.1 i=true:=by simp[e]
     simp only[h1,cond_true,fp,Option.isSome_some,and_true];by_cases ej:j=i
     . grind
     . have:π i j=false:=by simpa [<-ξ]using Ne.symm ej
       grind
   . have h1:π p.1 i=false:=by simpa [<-ξ]using e
     simp only[h1,cond_false,fp];by_cases ej:p.1=j
     . simp_all
     . have h2:π p.1 j=false:=by simpa [<-ξ]using ej
       simp only[h2,cond_false];exact qD x l i j
theorem AZ(x:cD):∀(l:List (Nat×cD)) (i:Nat),(yJ l i x).map (·.1)=l.map (·.1)
 | [],_=>rfl
 | p::l,i=>by
   unfold yJ;by_cases e:p.1=i
   . simp[e]
   . have h1:π p.1 i=false:=by simpa [<-ξ]using e
     simp[h1,AZ x l i]
theorem eY:∀{l:List (Nat×cD)} {i:Nat},(fp l i).isSome=true↔i∈l.map (·.1)
 | [],i=>by simp[fp]
 | p::l,i=>by
   unfold fp;by_cases e:p.1=i
   . simp[e]
   . have h1:π p.1 i=false:=by simpa [<-ξ]using e
     have:=eY (l:=l) (i:=i);grind
end Go.Ev
end
section
namespace Go.Ev
open Go Go.RowKit
variable{x y:cD}{D:Nat->Prop}{C:bg}{id n i off:Nat}{w w':World}{st:St}{a:Act}{v:AV}{r:List AV}
def oQ:cD->Bool
 | .b=>false
 | _=>true
def Ep:cD->Bool
 | .a _ rw _=>rw
 | .f _=>true
 | .d _ _=>true
 | .c _=>true
 | .e=>true
 | .b=>false
theorem mY(h:Ep x):oQ x=true:=by grind [oQ,Ep]
structure CZ(D:Nat->Prop)(m:Nat->bv)(l:bv)(cs:List AV)(rw:Bool)(g:Option Nat)(c:Array Value)(fz:Nat×Nat):Prop where
 d0:∀i v,cs[i]? = some v->c[l.b0+i]? = some (aj m v)
 a0:fM D m cs
 b0:rw->fz=(0,0)
 c0:∀s,g=some s->0<s/\l.b0=0/\c.size=l.c0*s
structure j_(D:Nat->Prop)(m:Nat->bv)(r:AK)(fn:FuncId)(tmps:Array Value):Prop where
 b0:tmps.size=r.tn
 d0:∀t,tmps.getD t undef=aj m (r.ts.b0 t)
 c0:∀t,dh D m (r.ts.b0 t)
 a0:D r.d0
def lR(m:Nat->bv)(r:AK)(fn:FuncId)(tmps:Array Value):Loop:=
 { state:=r.f0,pending:=r.e0,fn,tmps,params:=r.b0,assign:=r.a0,body:=r.c0,defers:=(m r.d0).a0 }
theorem j_.e0{D':Nat->Prop}{m m':Nat->bv}{r:AK}{fn:FuncId}{tmps:Array Value}(h:j_ D m r fn tmps)(hd:∀i,D i->D' i)(hs:∀i,D i->m' i=m i):j_ D' m' r fn tmps/\lR m' r fn tmps=lR m r fn tmps:=
 ⟨⟨h.b0,λt=>by rw[h.d0 t,iW (h.c0 t) hs],λt=>(h.c0 t).a0 hd hs,hd _ h.a0⟩,by unfold lR;rw[hs _ h.a0]⟩
def fX(D:Nat->Prop)(m:Nat->bv)(l:bv):cD->Option Obj->Prop
 | .b,_=>True
 | .a cs rw g,b=>∃c e fz,b=some (.cells c e fz)/\CZ D m l cs rw g c fz
 | .f es,b=>∃en clock,b=some (.map en clock)/\en.toList.map (λe=>(e.key,e.val))=es.map (λe=>(aj m e.1,aj m e.2))/\∀e∈es,dh D m e.1/\dh D m e.2
 | .d s pos,b=>b=some (.stringIter ⟨⟨s⟩⟩ pos)/\l.b0=0
 | .c r,b=>∃fn tmps,b=some (.loop (lR m r fn tmps))/\j_ D m r fn tmps
 | .e,b=>b=some (.deferred (some []))
theorem fX.b0{D':Nat->Prop}{m m':Nat->bv}{l:bv}{b:Option Obj}(h:fX D m l x b)(hd:∀i,D i->D' i)(hs:∀i,D i->m' i=m i):fX D' m' l x b:=by
 cases x with
 | b=>trivial
 | a cs rw g=>
   obtain⟨c,e,fz,hb,hc⟩:=h;refine⟨c,e,fz,hb,⟨λi v hv=>?_,hc.a0.a0 hd hs,hc.b0,hc.c0⟩⟩;rw[hc.d0 i v hv,iW (df.1 hc.a0 v (List.mem_of_getElem? hv)) hs]
 | f es=>
   obtain⟨en,ck,hb,he,ho⟩:=h;refine⟨en,ck,hb,he.trans (List.map_congr_left λe hm=>?_),λe hm=>⟨(ho e hm).1.a0 hd hs,(ho e hm).2.a0 hd hs⟩⟩;grind [iW]
 | d s pos=>exact h
 | c r=>
   obtain⟨fn,tmps,hb,hr⟩:=h;obtain⟨h1,h2⟩:=hr.e0 hd hs;exact⟨fn,tmps,by grind,h1⟩
 | e=>exact h
structure dX(cfg:cL)(D:Nat->Prop)(m:Nat->bv)(C:bg)(o:aB)(w:World):Prop where
 a0:∀id,D id->fX D m (m id) (get C o id) w.heap[(m id).a0]?
 inj:∀i j,D i->D j->i≠j->oQ (get C o i)->Ep (get C o j)->(m i).a0≠(m j).a0
 lt:∀id,D id->id<C.lo+o.n
 c0:∀g,g<cfg.G->D g/\(m g).a0=g/\(m g).b0=0/\(m g).c0=1
 b0:∀id,id<cfg.a0.n->D id/\get C o id=cfg.a0.at id
 le:∀id,id∈o.le.map (·.1)->cfg.a0.n<=id/\id<C.lo
 lo:cfg.a0.n<=C.lo
 e0:o.os.length=o.n
theorem fI{o:aB}(h:dQ C o id=some x):get C o id=x:=by
 grind [dQ,get,gB]
theorem xM{o:aB}{j:Nat}(hj:j<=C.lo+o.n):get C (o.a0 x) j=if j=C.lo+o.n then x else get C o j:=by
 unfold get gB;cases hb:ς C.lo j with
 | true=>
   grind [eK,aB.d0]
 | false=>
   have:¬C.lo<=j:=by grind [eK]
   rw[if_neg δ];rfl
theorem wZ{o:aB}{j:Nat}(hl:o.os.length=o.n)(hi:id<C.lo+o.n)(hj:j<C.lo+o.n)(ho:(dQ C o id).isSome) :
 get C (kV C o id x) j=if j=id then x else get C o j:=by
 unfold dQ at ho;unfold get gB kV;cases hb:ς C.lo id with
 | true=>
   have h1:=eK.1 hb;simp only[cond_true];cases hc:ς C.lo j with
   | true=>
     grind [eK,aB.c0]
   | false=>
     have h2:¬C.lo<=j:=by grind [eK]
     rw[if_neg δ];rfl
 | false=>
   have h1:¬C.lo<=id:=by grind [eK]
   simp only[hb,cond_false]at ho;simp only[cond_false];cases hc:ς C.lo j with
   | true=>
     have h2:=eK.1 hc;simp only[cond_true];rw[if_neg δ];rfl
   | false=>
     grind [qD]
theorem qM{o:aB}:(kV C o id x).le.map (·.1)=o.le.map (·.1):=by
 unfold kV;cases ς C.lo id with
 | true=>rfl
 | false=>grind [AZ]
theorem vJ{o:aB}:(kV C o id x).n=o.n:=by unfold kV;cases ς C.lo id<;>rfl
theorem aa4{o:aB}(h:o.os.length=o.n):(kV C o id x).os.length=(kV C o id x).n:=by
 rw[vJ];unfold kV;cases ς C.lo id with
 | true=>exact(vN x _ _).trans h
 | false=>grind
theorem ig{o o':aB}(h:o'.le.map (·.1)=o.le.map (·.1))(id:Nat):(dQ C o' id).isSome=(dQ C o id).isSome:=by
 grind [dQ,eY]
theorem dX.d0{cfg:cL}{m:Nat->bv}{o:aB}(h:dX cfg D m C o w)
 (hw:∀j,D j->oQ (get C o j)->w'.heap[(m j).a0]? = w.heap[(m j).a0]?):dX cfg D m C o w':=
 ⟨λid hd=>by
  have:=h.a0 id hd;cases hx:get C o id with
  | b=>trivial
  | _=>rw[hw id hd (by rw[hx];rfl)];grind,h.inj,h.lt,h.c0,h.b0,h.le,h.lo,h.e0⟩
theorem dX.j0{cfg:cL}{m:Nat->bv}{o:aB}(h:dX cfg D m C o w)(hd:D id)(ho:dQ C o id=some y)(hy:Ep y)
 (hw:∀k,k≠(m id).a0->w'.heap[k]? = w.heap[k]?) (hx:fX D m (m id) x w'.heap[(m id).a0]?):dX cfg D m C (kV C o id x) w':=by
 have hg:=fI ho;have hos:(dQ C o id).isSome=true:=η
 have hlt:=h.lt id hd;have gp:∀j,D j->get C (kV C o id x) j=if j=id then x else get C o j:=λj hj=>wZ h.e0 hlt (h.lt j hj) hos
 have hid:cfg.a0.n<=id:=by
  rcases Nat.lt_or_ge id cfg.a0.n with hlt'|hge
  . unfold dQ at ho;have hlo:=h.lo;have:ς C.lo id=false:=by grind [Nat.ble_eq]
    rw[this,cond_false]at ho;have:=eY.1 (by grind:(fp o.le id).isSome);exact(h.le id this).1
  omega
 refine{ a0:=λj hj=>?_,inj:=λi j hi hj hij hl hr=>?_,lt:=λj hj=>by rw[vJ];exact h.lt j hj,c0:=h.c0,b0:=λj hj=>?_,le:=λj hj=>h.le j (by grind [qM]),lo:=h.lo,e0:=aa4 h.e0 }
 . rw[gp j hj];by_cases e:j=id
   . grind
   . rw[if_neg e];have:=h.a0 j hj;cases hxj:get C o j with
     | b=>trivial
     | _=>
       rw[hw _ (h.inj j id hj hd e (by rw[hxj];rfl) η)];grind
 . rw[gp i hi]at hl;rw[gp j hj]at hr;have hl':oQ (get C o i)=true:=by
    grind [mY]
   have hr':Ep (get C o j)=true:=by
    grind
   exact h.inj i j hi hj hij hl' hr'
 . refine⟨(h.b0 j hj).1,?_⟩;rw[gp j (h.b0 j hj).1,if_neg δ];exact(h.b0 j hj).2
def AT(m:Nat->bv)(n:Nat)(l:bv)(i:Nat):bv:=if i=n then l else m i
theorem pN(m:Nat->bv)(n:Nat)(l:bv):AT m n l n=l:=if_pos rfl
theorem qE{m:Nat->bv}{l:bv}(h:i≠n):AT m n l i=m i:=if_neg h
def xD(D:Nat->Prop)(n:Nat)(i:Nat):Prop:=D i\/i=n
theorem dX.i0{cfg:cL}{m:Nat->bv}{o:aB}(h:dX cfg D m C o w){l:bv}
 (hl:∀j,D j->oQ (get C o j)->(m j).a0≠l.a0) (hx:fX D m l x w.heap[l.a0]?) :
 dX cfg (xD D (C.lo+o.n)) (AT m (C.lo+o.n) l) C (o.a0 x) w:=by
 have hs:∀i,D i->AT m (C.lo+o.n) l i=m i:=λi hi=>by
  have:=h.lt i hi;exact qE δ
 have gp:∀j,D j->get C (o.a0 x) j=get C o j:=λj hj=>by
  have:=h.lt j hj;rw[xM δ,if_neg δ]
 have gn:get C (o.a0 x) (C.lo+o.n)=x:=by rw[xM (Nat.le_refl _),if_pos rfl]
 refine{ a0:=?_,inj:=?_,lt:=?_,c0:=λg hg=>?_,b0:=λj hj=>?_,le:=h.le,lo:=h.lo,e0:=by simp[aB.a0,h.e0] }
 . rintro id (hd|rfl)
   . rw[gp id hd,hs id hd];exact(h.a0 id hd).b0 (λi hi=>.inl hi) hs
   . rw[gn];rw[pN];exact hx.b0 (λi hi=>.inl hi) hs
 . rintro i j (hi|rfl) (hj|rfl) hij hli hrj
   . rw[hs i hi,hs j hj];rw[gp i hi]at hli;rw[gp j hj]at hrj;exact h.inj i j hi hj hij hli hrj
   . rw[hs i hi];rw[pN];rw[gp i hi]at hli;exact hl i hi hli
   . rw[hs j hj];rw[pN];rw[gp j hj]at hrj;exact λe=>hl j hj (mY hrj) e.symm
   . omega
 . rintro id (hd|rfl)
   . have:=h.lt id hd;simp only[aB.a0];omega
   . simp only[aB.a0];omega
 . obtain⟨a,b,c⟩:=h.c0 g hg;exact⟨.inl a,by rw[hs g a];exact b,by rw[hs g a];exact c⟩
 . obtain⟨a,b⟩:=h.b0 j hj;exact⟨.inl a,by rw[gp j a];exact b⟩
structure dw(cfg:cL)(C:bg)(D:Nat->Prop)(m:Nat->bv)(o:aB)(w:World)(D':Nat->Prop)(m':Nat->bv)(o':aB)(w':World):Prop where
 b0:dX cfg D' m' C o' w'
 g0:∀i,D i->D' i
 a0:∀i,D i->m' i=m i
 l0:∀i,D' i->D i\/C.lo+o.n<=i
 o0:o.n<=o'.n
 os:w'.os=w.os
 j0:w'.tape=w.tape
 c0:w'.output=w.output
 i0:w.heap.size<=w'.heap.size
 f0:∀k,k<w.heap.size->(∀i,D i->(dQ C o i).isSome->(m i).a0≠k)->w'.heap[k]? = w.heap[k]?
 m0:o'.le.map (·.1)=o.le.map (·.1)
 e0:∀i,D' i->¬D i->w.heap.size<=(m' i).a0\/∃j,D j/\(dQ C o j).isSome/\(m j).a0=(m' i).a0
theorem dw.h0{cfg:cL}{m:Nat->bv}{o:aB}(h:dX cfg D m C o w):dw cfg C D m o w D m o w:=
 ⟨h,λ_ h=>h,λ_ _=>rfl,λ_ h=>.inl h,Nat.le_refl _,rfl,rfl,rfl,Nat.le_refl _,λ_ _ _=>rfl,rfl,λi h h'=>absurd h h'⟩
theorem dw.d0{cfg:cL}{D1 D2:Nat->Prop}{m m1 m2:Nat->bv}{o o1 o2:aB}{w1 w2:World}(h:dw cfg C D m o w D1 m1 o1 w1)(k:dw cfg C D1 m1 o1 w1 D2 m2 o2 w2) :
 dw cfg C D m o w D2 m2 o2 w2:=by
 refine⟨k.b0,λi hi=>k.g0 i (h.g0 i hi),λi hi=>(k.a0 i (h.g0 i hi)).trans (h.a0 i hi),λi hi=>?_,Nat.le_trans h.o0 k.o0,k.os.trans h.os,k.j0.trans h.j0,k.c0.trans h.c0,Nat.le_trans h.i0 k.i0,λb hb hn=>?_,k.m0.trans h.m0,λi hi hni=>?_⟩
 . rcases k.l0 i hi with hi|hi
   . exact h.l0 i hi
   . have:=h.o0;omega
 . rw[k.f0 b (Nat.lt_of_lt_of_le hb h.i0) (λi hi ho=>?_),h.f0 b hb hn];rw[ig h.m0 i]at ho;by_cases hd:D i
   . rw[h.a0 i hd];grind
   . rcases h.e0 i hi hd with hf|⟨j,hj,hoj,e⟩<;>grind
 . by_cases hd:D1 i
   . rw[k.a0 i hd];exact h.e0 i hd hni
   . rcases k.e0 i hi hd with hf|⟨j,hj,hoj,e⟩
     . exact .inl (Nat.le_trans h.i0 hf)
     . rw[ig h.m0 j]at hoj;by_cases hdj:D j
       . exact .inr ⟨j,hdj,hoj,by rw[<-e,h.a0 j hdj]⟩
       . rcases h.e0 j hj hdj with hf|⟨j',hj',ho',e'⟩<;>grind
theorem dw.p0{cfg:cL}{m:Nat->bv}{o:aB}(h:dX cfg D m C o w){l:bv}
 (hsz:w.heap.size<=w'.heap.size) (hk:∀k,k<w.heap.size->w'.heap[k]? = w.heap[k]?) (hl:w.heap.size<=l.a0) (hx:fX D m l x w'.heap[l.a0]?)
 (ho:w'.os=w.os) (ht:w'.tape=w.tape) (hu:w'.output=w.output) :
 dw cfg C D m o w (xD D (C.lo+o.n)) (AT m (C.lo+o.n) l) (o.a0 x) w':=by
 have blt:∀j,D j->oQ (get C o j)->(m j).a0<w.heap.size:=λj hj hlv=>by
  have:=h.a0 j hj;cases hb:w.heap[(m j).a0]? with
  | some b=>grind
  | none=>
    rw[hb]at this;cases hx:get C o j with
    | b=>rw[hx]at hlv;cases hlv
    | a cs rw g=>rw[hx]at this;obtain⟨_,_,_,e,_⟩:=this;grind
    | f es=>rw[hx]at this;obtain⟨_,_,e,_⟩:=this;grind
    | d s p=>rw[hx]at this;cases this.1
    | c r=>rw[hx]at this;obtain⟨_,_,e,_⟩:=this;grind
    | e=>rw[hx]at this;cases this
 have h':dX cfg D m C o w':=h.d0 λj hj hlv=>hk _ (blt j hj hlv);refine⟨h'.i0 (λj hj hlv=>by grind) hx,λi hi=>.inl hi,λi hi=>?_,?_,by simp[aB.a0],ho,ht,hu,hsz,λk hk' _=>hk k hk',rfl,?_⟩
 . have:=h.lt i hi;grind [qE]
 . rintro i (hi|rfl)<;>grind
 . rintro i (hi|rfl) hn<;>grind [pN]
theorem dw.n0{cfg:cL}{m:Nat->bv}{o:aB}(h:dX cfg D m C o w)(hd:D id)(ho:dQ C o id=some y)(hy:Ep y)
 (hsz:w.heap.size<=w'.heap.size) (hw:∀k,k≠(m id).a0->w'.heap[k]? = w.heap[k]?) (hx:fX D m (m id) x w'.heap[(m id).a0]?)
 (hos:w'.os=w.os) (ht:w'.tape=w.tape) (hu:w'.output=w.output):dw cfg C D m o w D m (kV C o id x) w':=
 ⟨h.j0 hd ho hy hw hx,λ_ hi=>hi,λ_ _=>rfl,λ_ hi=>.inl hi,Nat.le_of_eq vJ.symm,hos,ht,hu,hsz,λk _ hn=>hw k (λe=>hn id hd η e.symm),qM,λi hi hn=>absurd hi hn⟩
def gJ(m:Nat->bv)(ds:List Nat):List Deferred:=ds.map λd=>{ target:=.collected (m d).a0,args:=#[] }
theorem iK{m m':Nat->bv}{ds:List Nat}(h:∀d∈ds,D d)(hs:∀i,D i->m' i=m i):gJ m' ds=gJ m ds:=
 List.map_congr_left λd hd=>by grind
def wo(m:Nat->bv)(ro:Option Nat):Option Nat:=ro.map λi=>(m i).a0
theorem rh{m m':Nat->bv}{ro:Option Nat}(h:∀i,ro=some i->D i)(hs:∀i,D i->m' i=m i):wo m' ro=wo m ro:=by
 cases ro<;>grind [wo]
structure TR(D:Nat->Prop)(m:Nat->bv)(st:St)(a:Act):Prop where
 b0:a.tmps.size=st.tn
 c0:∀t,a.tmps.getD t undef=aj m (st.ts.b0 t)
 d0:∀t,dh D m (st.ts.b0 t)
 a0:a.defers=gJ m st.ds
 e0:∀d∈st.ds,D d
 f0:∀i,st.ro=some i->D i
theorem TR.g0{D':Nat->Prop}{m m':Nat->bv}(h:TR D m st a)(hd:∀i,D i->D' i)(hs:∀i,D i->m' i=m i):TR D' m' st a:=
 ⟨h.b0,λt=>by rw[h.c0 t,iW (h.d0 t) hs],λt=>(h.d0 t).a0 hd hs,by rw[iK h.e0 hs];exact h.a0,λd hm=>hd d (h.e0 d hm),λi hi=>hd i (h.f0 i hi)⟩
theorem TR.h0{m:Nat->bv}{st':St}(h:TR D m st a){o:aB}{dst:Option Tmp}(hp:jm st v o dst=some st')(hv:dh D m v) :
 TR D m st' (a.put dst (aj m v))/\st'.o=o/\st'.ds=st.ds/\st'.ro=st.ro:=by
 cases dst with
 | none=>
   simp only[jm,ν]at hp;subst hp;exact⟨⟨h.b0,h.c0,h.d0,h.a0,h.e0,h.f0⟩,rfl,rfl,rfl⟩
 | some d=>
   simp only[jm,aA,ν,Bool.and_eq_true]at hp;obtain⟨⟨h1,h2⟩,hp⟩:=hp;rw[aU]at h1 h2;subst hp;have hd:d<2^20-1:=Nat.lt_of_lt_of_le h2 ζ;refine⟨⟨by simp[Act.put,h.b0],λt=>?_,λt=>?_,h.a0,h.e0,h.f0⟩,rfl,rfl,rfl⟩
   . simp only[Act.put];rw[Ts.e0 20 _ _ _ _ hd];have:=h.c0 t;have hs:=h.b0;grind [Array.getInternal_eq_getElem]
   . simp only;rw[Ts.e0 20 _ _ _ _ hd];split
     . omega
     . exact h.d0 t
theorem A4{m:Nat->bv}{x:Value}(h:OY x=some v):aj m v=x/\aC v=[]:=by
 unfold OY at h;split at h<;>first|(cases h;simp[aj,aC];done)|grind|skip
 all_goals (cases h;simp[aj,aC])
theorem zU{m:Nat->bv}:∀{xs:List Value} {vs:List AV},Om xs=some vs->aD m vs=xs/\bw vs=[]
 | [],vs,h=>by cases h;simp[aD,bw]
 | x::xs,vs,h=>by
   simp only[Om,ag,ν]at h;obtain⟨a,ha,sa0,has,rfl⟩:=h;obtain⟨h1,h2⟩:=A4 (m:=m) ha;obtain⟨h3,h4⟩:=zU (m:=m) has;grind [aD,bw]
theorem tq{m:Nat->bv}{x:Value}(h:Ng x=some v):aj m v=x/\aC v=[]:=by
 unfold Ng at h;split at h
 . simp only[ag,ν]at h;obtain⟨sa0,has,rfl⟩:=h;obtain⟨h1,h2⟩:=zU (m:=m) has;simp_all [aj,aC]
 . exact A4 h
theorem mM{cfg:cL}{m:Nat->bv}{o:aB}(hi:dX cfg D m C o w)(ht:TR D m st a){x:Operand}(h:fj cfg.G st.ts x=some v) :
 a.eval x=aj m v/\dh D m v:=by
 cases x with
 | tmp t=>cases h;exact⟨ht.c0 t,ht.d0 t⟩
 | const c=>obtain⟨h1,h2⟩:=tq (m:=m) h;exact⟨h1.symm,ek h2⟩
 | global g=>
   simp only[fj,aA,ν,aU]at h;obtain⟨hg,rfl⟩:=h;obtain⟨a1,a2,a3⟩:=hi.c0 g hg;refine⟨by grind [Act.eval,aj],λi hi=>?_⟩;grind [aC]
 | func f=>cases h;exact⟨by rfl,λi hi=>by grind [aC,bw]⟩
structure fH(P:Program)(T:fm):Prop where
 ty:∀t e,T.ty.c0 t=some e->P.info? t=some e.i/\P.underlying t=some e.u/\(xN (some e.u)->P.eqGuardType P.depth t=e.b0)/\((pH (some e.u)).isSome->P.stoodInHeld t=e.a0)
 fn:∀f fn,T.fn.c0 f=some fn->P.funcs[f]? = some fn/\fn.name ≠ "runtime.NumGoroutine"
section
variable{P:Program}{T:fm}(hT:fH P T)
include hT
theorem jp{t:TypeId}{d:TypeDesc}(h:T.a0 t=some d):P.underlying t=some d:=by
 simp only[fm.a0,ag,ν]at h;obtain⟨e,he,rfl⟩:=h;exact(hT.ty t e he).2.1
theorem Ku{t:TypeId}{i:TypeInfo}(h:T.b0 t=some i):P.info? t=some i:=by
 simp only[fm.b0,ag,ν]at h;obtain⟨e,he,rfl⟩:=h;exact(hT.ty t e he).1
theorem a_{t:TypeId}{d:TypeDesc}(h:T.a0 t=some d)(w:World):(underlying t).run P w=.ok d w:=run_underlying (jp hT h) w
theorem pg{t:TypeId}{i:TypeInfo}(h:T.b0 t=some i)(w:World):(typeInfo t).run P w=.ok i w:=by
 simp[typeInfo,Ku hT h]
theorem lC{t:TypeId}(h:gT T t=some n)(w:World):(sizeOf t).run P w=.ok n w:=by
 simp only[gT,ag,ν]at h;obtain⟨e,he,rfl⟩:=h;have:=pg (T:=T) hT (t:=t) (i:=e.i) (by grind [fm.b0,ob]) w;simp_all [sizeOf]
theorem GH{t:TypeId}{d:TypeDesc}(h:T.a0 t=some d)(w:World):(isAgg t).run P w=.ok (xN (some d)) w:=by
 simp only[isAgg,Sem.run_bind,a_ hT h w,Result.andThen_ok];cases d<;>rfl
theorem mc{t:TypeId}{m:Nat->bv}(h:lA T t=some v)(w:World):(zeroValue t).run P w=.ok (aj m v) w/\aC v=[]:=by
 simp only[lA,ag]at h;obtain⟨i,hi,z,hz,hv⟩:=h;obtain⟨h1,h2⟩:=tq (m:=m) hv;refine⟨?_,h2⟩;simp[zeroValue,pg hT hi w,hz,h1]
end
theorem hJ(b o i:Nat):(⟨b,o,none⟩:Addr).add i=⟨b,o+i,none⟩:=by
 grind [Addr.add]
theorem gi{m:Nat->bv}{cs:List AV}:(aD m cs)[i]? = (cs[i]?).map (aj m):=by grind [d_]
theorem b7{m:Nat->bv}{cs:List AV}:(aD m cs).length=cs.length:=by grind [d_]
theorem mF{m:Nat->bv}{cs ds:List AV}:aD m (cs++ds)=aD m cs++aD m ds:=by grind [d_]
theorem X4{cs:List AV}(h:jW cs off n=some r):r.length=n:=by
 grind [jW,aA,cQ]
theorem At{cs:List AV}(h:jW cs off n=some r)(hi:i<n):cs[off+i]? = r[i]? := by
 grind [jW,aA]
theorem Dz{m:Nat->bv}{cs:List AV}(h:jW cs off n=some r)(ho:fM D m cs):fM D m r:=by
 grind [jW,aA,df]
theorem E5{m:Nat->bv}{cs:List AV}(h:jW cs off n=some r):List.take n (List.drop off (aD m cs))=aD m r:=by
 simp only[jW,aA,ν]at h;obtain⟨_,rfl⟩:=h;simp[d_]
section
variable{P:Program}{T:fm}(hT:fH P T)
include hT
theorem kj{t:TypeId}{cs:List AV}{m:Nat->bv}(h:zc T t cs off=some v)(w:World):(part t (aD m cs).toArray off).run P w=.ok (aj m v) w:=by
 simp only[zc,ag]at h;obtain⟨d,hd,h⟩:=h;simp only[part,Sem.run_bind,GH hT hd w,Result.andThen_ok];cases hb:xN (some d)with
 | true=>
   simp only[hb,cond_true,ag,ν]at h;obtain⟨n,hn,r,hr,rfl⟩:=h;simp[lC hT hn w,E5 hr,aj]
 | false=>
   simp_all [gi]
theorem CX{m:Nat->bv}{t:TypeId}{cs:List AV}(h:zc T t cs off=some v)(ho:fM D m cs):dh D m v:=by
 grind [zc,ag,aak,Dz,df]
end
theorem dX.g0{cfg:cL}{m:Nat->bv}{o:aB}(h:dX cfg D m C o w){cs:List AV}(hd:D id)(hc:cellsOf (get C o id)=some cs) :
 ∃rw g c e fz,get C o id=.a cs rw g/\w.heap[(m id).a0]? = some (.cells c e fz)/\CZ D m (m id) cs rw g c fz:=by
 have:=h.a0 id hd;cases hx:get C o id with
 | a cs' rw g=>
   rw[hx]at hc this;simp only[cellsOf,ν]at hc;subst hc;obtain⟨c,e,fz,hb,hr⟩:=this;grind
 | _=>rw[hx]at hc;cases hc
theorem Gl{b:Nat}{c:Array Value}{e:TypeId}{fz:Nat×Nat}(h:w.heap[b]? = some (.cells c e fz)):w.cell? ⟨b,i,none⟩=c[i]? := by
 grind [World.cell?]
theorem dX.h0{cfg:cL}{m:Nat->bv}{o:aB}(h:dX cfg D m C o w){cs:List AV}(hd:D id)(hc:cellsOf (get C o id)=some cs)(hv:cs[i]? = some v) :
 w.cell? ⟨(m id).a0,(m id).b0+i,none⟩=some (aj m v)/\dh D m v:=by
 obtain⟨rw,g,c,e,fz,_,hb,hr⟩:=h.g0 hd hc;exact⟨(Gl hb).trans (hr.d0 i v hv),df.1 hr.a0 v (List.mem_of_getElem? hv)⟩
theorem dX.f0{cfg:cL}{m:Nat->bv}{o:aB}(h:dX cfg D m C o w){cs:List AV}(hd:D id)(hc:cellsOf (get C o id)=some cs)(hr:jW cs off n=some r)(P:Program) :
 (loadCells ⟨(m id).a0,(m id).b0+off,none⟩ n).run P w=.ok (aD m r).toArray w/\fM D m r:=by
 have hl:=X4 hr;refine⟨?_,Dz hr ?_⟩
 . have:=run_loadCells_list (P:=P) (w:=w) ⟨(m id).a0,(m id).b0+off,none⟩ (aD m r) (λj v hv=>by
    rw[gi]at hv;obtain⟨u,hu,rfl⟩:=Option.map_eq_some_iff.1 hv;have hj:j<n:=by
     grind
    rw[hJ,Nat.add_assoc];exact(h.h0 hd hc ((At hr hj).trans hu)).1)
   grind [b7]
 . obtain⟨rw,g,c,e,fz,_,_,hr⟩:=h.g0 hd hc;exact hr.a0
section
variable{P:Program}{T:fm}(hT:fH P T)
include hT
theorem AB{cfg:cL}{m:Nat->bv}{o:aB}(h:dX cfg D m C o w){t:TypeId}{p:AV}(hp:dh D m p)(hv:ab2 T C o t p=some v) :
 ∃a,aj m p=.pointer (some a)/\(loadVar t a).run P w=.ok (aj m v) w/\dh D m v:=by
 cases p with
 | h id off=>
   have hd:D id:=(hp (id,0) (by simp[aC])).1;simp only[ab2,ag]at hv;obtain⟨cs,hc,hv⟩:=hv;refine⟨_,rfl,?_⟩;simp only[zc,ag]at hv;obtain⟨d,hd',hv⟩:=hv;simp only[loadVar,Sem.run_bind,GH hT hd' w,Result.andThen_ok];cases hb:xN (some d)with
   | true=>
     simp only[hb,cond_true,ag,ν]at hv;obtain⟨n,hn,r,hr,rfl⟩:=hv;obtain⟨h1,h2⟩:=h.f0 hd hc hr P;refine⟨?_,aak.2 h2⟩;simp[lC hT hn w,h1,aj]
   | false=>
     simp only[hb,cond_false]at hv;obtain⟨h1,h2⟩:=h.h0 hd hc hv;simp_all
 | _=>simp[ab2]at hv
end
end Go.Ev
end
