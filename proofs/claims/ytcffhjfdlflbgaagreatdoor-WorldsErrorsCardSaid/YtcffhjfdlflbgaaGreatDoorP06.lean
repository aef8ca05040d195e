import Derived.Test.YtcffhjfdlflbgaaGreatDoorP05
set_option linter.all false
open Option.some renaming injEq->ν
open Bool renaming and_eq_true->ξ,false_eq_true->ο
open Nat renaming add_zero->π
open List renaming getElem?_append->ς,mem_singleton->σ
set_option linter.all false
set_option maxRecDepth 100000
set_option maxHeartbeats 4000000
namespace Go.Ev
open Go Go.RowKit
variable{C:bg}{D:Nat->Prop}{m:Nat->bv}{w:World}{n size elem sl sc:Nat}{l:bv}{v x k s:AV}{r:AV×aB}{P:Program}
theorem alloc_heap_new(w:World)(x:Obj):(w.alloc x).heap[w.heap.size]? = some x:=by
 show(w.heap.push x)[w.heap.size]? = _;simp
theorem dw.k0{cfg:cL}{o:aB}{w0:World}(hi:dX cfg D m C o w)(x:cD)(l:bv)(b:Obj)(hw:w0.heap=w.heap)(hos:w0.os=w.os)(ht:w0.tape=w.tape)(hu:w0.output=w.output)(hl:l.a0=w.heap.size)(hx:fX D m l x (some b)) :
 dw cfg C D m o w (xD D (C.lo+o.n)) (AT m (C.lo+o.n) l) (o.a0 x) (w0.alloc b):=by
 refine dw.p0 hi (by simp[hw]) (λk hk=>?_) δ ?_ hos ht hu<;>grind [Below.heap_alloc,alloc_heap_new]
theorem tj:xD D n n:=.inr rfl
theorem tH{cs:List AV}{rw:Bool}{e:TypeId}(hb:l.b0=0)(ho:fM D m cs):fX D m l (.a cs rw none) (some (.cells (aD m cs).toArray e)):=
 ⟨_,e,(0,0),rfl,⟨λi v hv=>by grind [gi],ho,λ_=>rfl,λs hs=>by grind⟩⟩
theorem yI{off:Nat}:dh (xD D n) (AT m n l) (.h n off):=λi hi=>by
 grind [aC,tj]
theorem zu(z:List AV):∀k,(mX z k).length=k*z.length
 | 0=>by simp[mX]
 | k+1=>by rw[mX,List.length_append,zu z k,Nat.succ_mul,Nat.add_comm]
theorem Ea(z:List AV)(hz:0<z.length):∀k i,i<k*z.length->(mX z k)[i]? = z[i%z.length]?
 | 0,i,h=>by omega
 | k+1,i,h=>by
   rw[mX,ς];by_cases hi:i<z.length
   . grind [Nat.mod_eq_of_lt]
   . rw[if_neg hi,Ea z hz k (i-z.length) η,<-Nat.mod_eq_sub_mod δ]
theorem DA(z:List AV)(hz:0<z.length)(k n:Nat)(hn:n=k*z.length) :
 (Array.range n).map (λi=>(aD m z).toArray[i%(aD m z).toArray.size]!)=(aD m (mX z k)).toArray:=by
 subst hn;apply Array.ext
 . simp[b7,zu]
 . intro i h1 h2;have hi:i<k*z.length:=η
   have hm:i%z.length<z.length:=Nat.mod_lt _ hz;have h3:(aD m (mX z k))[i]? = (aD m z)[i%z.length]? := by grind [gi,Ea]
   grind [b7]
theorem Cl{D:Nat->Prop}{m:Nat->bv}{z:List AV}(hz:fM D m z):∀k,fM D m (mX z k)
 | 0=>fQ
 | k+1=>pi.2 ⟨hz,Cl hz k⟩
section
variable{P:Program}{T:fm}(hT:fH P T){cfg:cL}{C:bg}{D:Nat->Prop}{m:Nat->bv}{o:aB}{w:World}(hi:dX cfg D m C o w){ρ:Operand->Option AV}{ev:Operand->Value}(hρ:mE D m ρ ev)
include hT hi hρ
omit hT hρ in
theorem Dy{s:Sem Next}{e:TypeId}(hv:dh D m v)(hs:s.run P w=.ok (.value (.pointer (some ⟨w.heap.size,0,none⟩))) (w.alloc (.cells (aj m v).cells e)))(h:lG C o v=some r):gO P cfg C D m o w s r:=by
 simp only[lG,aA,ν]at h;obtain⟨_,rfl⟩:=h;have he:=dw.k0 hi (.a (bU v) true none) ⟨w.heap.size,0,0⟩ (.cells (aj m v).cells e) rfl rfl rfl rfl rfl (by grind [fV,tH,pL]);refine⟨_,_,_,_,hs,.inl ?_,yI,he⟩;grind [aj,pN]
theorem Mu{oo:Oper}{t:TypeId}(ho:oo.op=.alloc t)(h:pq t T C ρ o=some r):vy P cfg C D m o w ev oo r:=by
 simp only[pq,ag]at h;obtain⟨z,hz,h⟩:=h;obtain⟨h1,h2⟩:=mc hT (m:=m) hz w;refine Dy (e:=t) hi (ek h2) ?_ h;simp_all [execOp,Instr.alloc,newVar,newRow]
omit hT in
theorem R8{oo:Oper}{t:TypeId}{x:Operand}(ho:oo.op=.box t x)(h:xG x T C ρ o=some r):vy P cfg C D m o w ev oo r:=by
 simp only[xG,ag]at h;obtain⟨v,hv,h⟩:=h;obtain⟨h3,h4⟩:=hρ x _ hv;refine Dy (e:=t) hi h4 ?_ h;simp_all [execOp,Instr.box,newVar,newRow]
theorem zD{oo:Oper}{t:TypeId}{len:Nat}{parts:Array (Nat×Operand)}(ho:oo.op=.buildSlice t len parts)(h:qa t len parts T C ρ o=some r):vy P cfg C D m o w ev oo r:=by
 simp only[qa,iq,ag,aA,ξ,eK,cQ,aU,ν]at h;obtain⟨elem,he,n,hn,z,hz,ps,hps,⟨⟨hb,hl⟩,h0⟩,cs,hcs,_,rfl⟩:=h;obtain⟨hp1,hp2⟩:=VT hρ hps;obtain⟨hz1,hz2⟩:=mc hT (m:=m) hz w;have hparts:(parts.map λ(x:Nat×Operand)=>(x.1,ev x.2)).toList=ps.map λp=>(p.1,aj m p.2):=by simp_all
 have hf:=abr (m:=m) hcs;have hok:=rZ (D:=D) (m:=m) hcs (Cl (abW hz2) len) hp2;have he':=dw.k0 hi (.a cs true none) ⟨w.heap.size,0,0⟩ (.cells (aD m cs).toArray elem) rfl rfl rfl rfl rfl (tH rfl hok);refine⟨_,_,_,.value (.slice (some ⟨w.heap.size,0,none⟩) len len),?_,.inl ?_,?_,he'⟩
 . have h1:¬(len*n > 2^24):=δ
   by_cases hlz:len*n=0
   . have hln:len=0:=by grind [Nat.mul_eq_zero]
     subst hln;simp only[mX,aD]at hf;simp only[execOp,ho,Instr.buildSlice,Sem.run_bind,a_ hT (pA he) w,Result.andThen_ok,lC hT hn w,hparts];have e0:∀f:Nat->Value,(Array.range 0).map f=#[]:=λf=>by simp
     simp only[Nat.zero_mul,if_true,gt_iff_lt,Nat.not_lt_zero,if_false,Sem.run_pure,Result.andThen_ok,e0,hf];rfl
   . have hrep:=DA (m:=m) (bU z) δ len (len*n) (by rw[hl]);simp only[execOp,ho,Instr.buildSlice,Sem.run_bind,a_ hT (pA he) w,Result.andThen_ok,lC hT hn w,if_neg h1,hparts,Sem.run_pure,if_neg hlz,hz1,fV,hrep,hf];rfl
 . simp[aj,TI,aB.b0,pN]
 . intro i hm;simp only[aC,σ,rI]at hm;subst hm;exact⟨tj,Nat.zero_le _⟩
omit hT in
theorem E3{oo:Oper}{t:TypeId}{x:Option Operand}(ho:oo.op=.makeMap t x)(h:abo x T C ρ o=some r):vy P cfg C D m o w ev oo r:=by
 simp only[abo,aA,ν,Option.isNone_iff_eq_none]at h;obtain⟨rfl,rfl⟩:=h;have he':=dw.k0 hi (.f []) ⟨w.heap.size,0,0⟩ (.map #[] 0) rfl rfl rfl rfl rfl ⟨#[],0,rfl,rfl,λe hm=>by grind⟩;refine⟨_,_,_,.value (.map (some w.heap.size)),?_,.inl ?_,?_,he'⟩
 . simp[execOp,ho,Instr.makeMap]
 . simp[aj,aB.b0,pN]
 . intro i hm;simp only[aC,σ]at hm;subst hm;exact⟨tj,Nat.zero_le _⟩
theorem Mg{oo:Oper}{t:TypeId}{a x:Operand}(ho:oo.op=.store t a x)(h:oY t a x T C ρ o=some r):vy P cfg C D m o w ev oo r:=by
 simp only[oY,ag,ν]at h;obtain⟨p,hp,v,hv,o',hs,rfl⟩:=h;obtain⟨h1,h2⟩:=hρ a _ hp;obtain⟨h3,h4⟩:=hρ x _ hv;obtain⟨w',hr,he⟩:=ED hT hi h2 h4 hs;exact⟨D,m,w',.skip,by grind [execOp,Sem.run_bind,Result.andThen_ok,Sem.run_pure],.inr ⟨rfl,rfl⟩,iy,he⟩
end
theorem DF{b:UInt8}(h:ya v=some b):v=.a .u8 (.ofNat b.toNat):=by
 unfold ya at h;split at h<;>grind [aA,aU,UInt8.toNat_ofNat_of_lt']
theorem qj:∀{vs:List AV} {s:List UInt8},Uo vs=some s->vs=s.map jx
 | [],s,h=>by cases h;rfl
 | v::vs,s,h=>by
   simp only[Uo,ag,ν]at h;obtain⟨b,hb,s',hs,rfl⟩:=h;rw[DF hb,qj hs];rfl
theorem Dq(w:World)(need old:Nat)(e:TypeId)(h:need<2^63):need<=grownCap w need old e:=by
 grind [grownCap,Question.cut]
section
variable{P:Program}{T:fm}(hT:fH P T){cfg:cL}{C:bg}{D:Nat->Prop}{m:Nat->bv}{o:aB}{w:World}(hi:dX cfg D m C o w){ρ:Operand->Option AV}{ev:Operand->Value}(hρ:mE D m ρ ev)
include hT hi hρ
omit hi hρ in
theorem zm{e:TypeId}(h:mT (T.a0 e)):T.a0 e=some (.int .u8):=by
 cases hu:T.a0 e<;>grind [mT]
omit hi hρ in
theorem Ah{t:TypeId}(h:zF (T.a0 t)):T.a0 t=some .string:=wT h
theorem E4{oo:Oper}{src dst:TypeId}{x:Operand}(ho:oo.op=.convert src dst x)(h:ip src dst x T C ρ o=some r):vy P cfg C D m o w ev oo r:=by
 simp only[ip,ag]at h;obtain⟨v,hv,h⟩:=h;obtain⟨h1,h2⟩:=hρ x _ hv;cases v<;>simp only[jA,reduceCtorEq,aA,bK]at h
 case a k n=>
  obtain⟨hs,h,h3⟩:=h;obtain⟨d,hd⟩:=Option.isSome_iff_exists.1 hs;cases hu:T.a0 dst with
  | none=>simp[hu,w7]at h
  | some d'=>
    cases d'<;>simp only[hu,w7,reduceCtorEq,sP,ν]at h
    . refine gO.a0 hi h3 ?_ (ek (by grind [aC]));rw[<-h];simp only[execOp,ho,h1,convert,Sem.run_bind,a_ hT hd w,a_ hT hu w,Result.andThen_ok,aj,Conv.intToInt,Sem.run_pure]
    . refine gO.a0 hi h3 ?_ (ek (by grind [aC]));rw[<-h];simp only[execOp,ho,h1,convert,Sem.run_bind,a_ hT hd w,a_ hT hu w,Result.andThen_ok,aj,Conv.intToString,Sem.run_pure]
 case e s=>
  obtain⟨hs,h⟩:=h;have hsu:=Ah hT hs;cases hu:T.a0 dst with
  | none=>simp[hu,o8]at h
  | some d'=>
    cases d'<;>simp only[hu,o8,reduceCtorEq,ν,aA,ξ,eK]at h
    . subst h;refine gO.a0 hi rfl ?_ h2;simp only[execOp,ho,h1,convert,Sem.run_bind,a_ hT hsu w,a_ hT hu w,Result.andThen_ok,aj,Sem.run_pure]
    . rename_i e;obtain⟨⟨hb,hl⟩,rfl⟩:=h;have hbu:=zm hT hb;have hr:=run_bytes_of_string (P:=P) w src dst e ⟨⟨s⟩⟩ (jp hT hsu) (jp hT hu) (jp hT hbu);have hge:=Dq w s.length 0 e δ;have hat:∀(i:Nat) (v:AV),(s.map jx)[i]? = some v->(bytesRow ⟨⟨s⟩⟩ (grownCap w (ByteArray.mk ⟨s⟩).size 0 e))[0+i]? = some (aj m v):=by
       grind [bytesRow_at,aj,jx]
      have hokb:fM D m (s.map jx):=by
       grind [df,ek,jx,aC]
      have he:=dw.k0 hi (.a (s.map jx) false none) ⟨w.heap.size,0,grownCap w s.length 0 e⟩ (.cells (bytesRow ⟨⟨s⟩⟩ (grownCap w (ByteArray.mk ⟨s⟩).size 0 e)) e ((bytesRow ⟨⟨s⟩⟩ (grownCap w (ByteArray.mk ⟨s⟩).size 0 e)).size,(bytesRow ⟨⟨s⟩⟩ (grownCap w (ByteArray.mk ⟨s⟩).size 0 e)).size+1)) (w0:=w.drew) rfl rfl rfl rfl rfl
       ⟨_,_,_,rfl,⟨hat,hokb,(λh=>by grind),(λs h=>by grind)⟩⟩
      refine⟨_,_,_,.value (.slice (some ⟨w.heap.size,0,none⟩) (ByteArray.mk ⟨s⟩).size (grownCap w (ByteArray.mk ⟨s⟩).size 0 e)),?_,.inl ?_,?_,he⟩
      . grind [execOp,aj,Sem.run_bind,Result.andThen_ok,Sem.run_pure]
      . simp only[aj,TI,aB.b0,pN,Nat.sub_zero,π];rfl
      . intro i hm;grind [aC,rI,tj,aB.b0,pN]
 case c id off len c=>
  obtain⟨h,h3⟩:=h;have hd:D id:=(h2 (id,rI len c) (by simp[aC])).1;simp only[po,ag,aA,ξ,ν,mA]at h;obtain⟨e,he,⟨hb,hst⟩,cs,⟨cs0,hc0,hcs⟩,s,hs,h⟩:=h;have hbu:=zm hT hb;have hsu:=Ah hT hst;have hel:=pA he;have hcse:=qj hs;subst hcse;have hlen:s.length=len:=by
   have:=X4 hcs;grind
  refine gO.a0 hi h3 ?_ (ek (by grind [aC]));rw[<-h];have hr:=run_convert_bytes_back (P:=P) w src dst e ⟨(m id).a0,(m id).b0+off,none⟩ (TI (m id) c) s (jp hT hel) (jp hT hbu) (jp hT hsu) (λj hj=>by
   rw[hJ,Nat.add_assoc];have hg:=At hcs (i:=j) δ;rw[List.getElem?_map,List.getElem?_eq_getElem hj]at hg;have:=(hi.h0 hd hc0 hg).1;simpa [aj,jx]using this)
  rw[hlen]at hr;simp only[execOp,ho,h1,aj,Sem.run_bind,hr,Result.andThen_ok,Sem.run_pure]
end
theorem zo(n:Nat)(h:n<=10000):IntKind.i64.wrap (n:Int)=(n:Int):=Bx .i64 _ (by grind [eH]) (by grind [eE])
theorem qF{r:Nat}{x:Obj}(h:w.heap[r]? = some x)(hx:∀c e f,x≠.cells c e f):(getObj r).run P w=.ok x w:=by
 grind [getObj,Sem.run]
theorem qC{r:Nat}{x y:Obj}(h:w.heap[r]? = some x)(hx:∀c e f,x≠.cells c e f):(setObj r y).run P w=.ok () { w with heap:=w.heap.setIfInBounds r y }:=by
 grind [setObj,Sem.run]
theorem oa(w:World)(r:Nat)(x y:Obj)(h:w.heap[r]? = some x):({ w with heap:=w.heap.setIfInBounds r y }:World).heap[r]? = some y:=by
 grind
theorem y7{d:TypeDesc}{e:AV}{b:Bool}(hk:sG k (some d))(h:yU k e=some b):Instr.sameNow d (aj m k) (aj m e)=some b:=by
 cases d<;>simp only[sG,ο]at hk<;>cases k<;>simp at hk<;>cases e<;>simp only[yU,reduceCtorEq,aA,iv,ν]at h<;>grind [Instr.sameNow,aj,nc,vA,bV,beq_toListBytes,ny]
theorem adl{m:Nat->bv}{d:TypeDesc}{k:AV}(hk:sG k (some d)):∀{es:List (AV×AV)} {en:List MapEntry} {r:Option AV} {i:Nat},en.map (λe=>(e.key,e.val))=es.map (λe=>(aj m e.1,aj m e.2))->qq k es=some r->
 ∃q,Instr.findNow d (aj m k) en i=some q/\q.map (·.2)=r.map (aj m)
 | [],en,r,i,he,h=>by
   cases h;cases en with
   | nil=>exact⟨none,rfl,rfl⟩
   | cons _ _=>grind
 | e::es,en,r,i,he,h=>by
   cases en with
   | nil=>grind
   | cons n en=>
     simp only[List.map_cons,List.cons.injEq,Prod.mk.injEq]at he;obtain⟨⟨h1,h2⟩,he⟩:=he;simp only[qq,ag]at h;obtain⟨b,hb,h⟩:=h;have hs:=y7 (m:=m) hk hb;cases b with
     | true=>
       simp only[cond_true,ν]at h;subst h;simp_all [Instr.findNow]
     | false=>
       simp only[cond_false]at h;obtain⟨q,hq,hqr⟩:=adl hk (i:=i+1) he h;grind [Instr.findNow]
theorem FD{e:AV}(h:yU k e=some true):k=e:=by
 cases e<;>simp only[yU,reduceCtorEq]at h<;>cases k<;>simp only[reduceCtorEq,aA,iv,ν]at h<;>grind [nc,o7,bV]
theorem vC{m:Nat->bv}{d:TypeDesc}{k v:AV}(hk:sG k (some d)):∀{es es':List (AV×AV)} {en:List MapEntry} {i:Nat},en.map (λe=>(e.key,e.val))=es.map (λe=>(aj m e.1,aj m e.2))->Iz k v es=some es'->
 ∃j x,Instr.findNow d (aj m k) en i=some (some (i+j,x))/\(∃e,en[j]? = some e/\e.key=aj m k)/\(en.modify j λe=>{ e with key:=aj m k,val:=aj m v }).map (λe=>(e.key,e.val))=es'.map (λe=>(aj m e.1,aj m e.2))
 | [],es',en,i,he,h=>by cases h
 | e::es,es',en,i,he,h=>by
   cases en with
   | nil=>grind
   | cons n en=>
     simp only[List.map_cons,List.cons.injEq,Prod.mk.injEq]at he;obtain⟨⟨h1,h2⟩,he⟩:=he;simp only[Iz,ag]at h;obtain⟨b,hb,h⟩:=h;have hs:=y7 (m:=m) hk hb;cases b with
     | true=>
       simp only[cond_true,ν]at h;subst h;exact⟨0,n.val,by grind [Instr.findNow],⟨n,rfl,by rw[h1,FD hb]⟩,by grind⟩
     | false=>
       simp only[cond_false,ag,ν]at h;obtain⟨es1,hes,rfl⟩:=h;obtain⟨j,x,a1,⟨e1,a2,a3⟩,a4⟩:=vC hk (i:=i+1) he hes;refine⟨j+1,x,?_,⟨e1,by grind,a3⟩,?_⟩<;>grind [Instr.findNow]
theorem FX{D:Nat->Prop}{m:Nat->bv}{k v:AV}(hk:dh D m k)(hv:dh D m v):∀{es es':List (AV×AV)},Iz k v es=some es'->(∀e∈es,dh D m e.1/\dh D m e.2)->∀e∈es',dh D m e.1/\dh D m e.2
 | [],es',h,_=>by cases h
 | e::es,es',h,ho=>by
   simp only[Iz,ag]at h;obtain⟨b,hb,h⟩:=h;cases b with
   | true=>
     grind
   | false=>
     simp only[cond_false,ag,ν]at h;obtain⟨es1,hes,rfl⟩:=h;intro x hx;rcases List.mem_cons.1 hx with rfl|hx
     . grind
     . exact FX hk hv hes (λe he=>ho e (List.mem_cons_of_mem _ he)) x hx
theorem zE{d:TypeDesc}(hk:sG k (some d)):Instr.sameBits 10000 (aj m k) (aj m k)=true:=by
 cases d<;>simp only[sG,ο]at hk<;>cases k<;>simp at hk<;>simp only[aj,Instr.sameBits]<;>first|(simp;done)|grind [beq_toListBytes]
theorem rG{d:TypeDesc}{t:TypeId}{b:Bool}(hk:sG k (some d))(hu:(underlying t).run P w=.ok d w):(Instr.checkKey b 10000 t (aj m k)).run P w=.ok () w:=by
 unfold Instr.checkKey;simp only[Sem.run_bind,hu,Result.andThen_ok];cases d<;>simp only[sG,ο]at hk<;>cases k<;>simp at hk<;>simp[aj]
theorem wg{d:TypeDesc}{t:TypeId}{es:List (AV×AV)}{en:List MapEntry}{r:Option AV}(hk:sG k (some d))(hu:(underlying t).run P w=.ok d w)
 (he:en.map (λe=>(e.key,e.val))=es.map (λe=>(aj m e.1,aj m e.2))) (h:qq k es=some r):∃q,(Instr.findKey t (aj m k) en).run P w=.ok q w/\q.map (·.2)=r.map (aj m):=by
 obtain⟨q,hq,hqr⟩:=adl (m:=m) hk (i:=0) he h;simp_all [Instr.findKey]
theorem Zy{D:Nat->Prop}{m:Nat->bv}{k v:AV}:∀{es:List (AV×AV)},qq k es=some (some v)->(∀e∈es,dh D m e.1/\dh D m e.2)->dh D m v
 | [],h,_=>by cases h
 | e::es,h,ho=>by
   simp only[qq,ag]at h;obtain⟨b,hb,h⟩:=h;cases b with
   | true=>grind
   | false=>simp only[cond_false]at h;exact Zy h (λe he=>ho e η)
section
variable{P:Program}{T:fm}(hT:fH P T){cfg:cL}{C:bg}{D:Nat->Prop}{m:Nat->bv}{o:aB}{w:World}(hi:dX cfg D m C o w){ρ:Operand->Option AV}{ev:Operand->Value}(hρ:mE D m ρ ev)
include hT hi hρ
omit hi hρ in
theorem xO{t:TypeId}(h:s_ T t):∃i,T.b0 t=some i/\i.bytes<=100000:=by
 unfold s_ at h;split at h<;>simp_all
theorem Z7{oo:Oper}{t:TypeId}{l c:Operand}(ho:oo.op=.makeSlice t l c)(h:ik t l c T C ρ o=some r):vy P cfg C D m o w ev oo r:=by
 simp only[ik,na,ag,aA,ξ,eK,cQ,aU,ν]at h;obtain⟨lv,hlv,cv,hcv,elem,he,n,hn,z,hz,cn,hcn,ln,hln,⟨⟨⟨⟨hl,h0⟩,hb⟩,hsm⟩,_⟩,rfl⟩:=h;obtain⟨kc,rfl,hc1⟩:=pj hcn;obtain⟨kl,rfl,hl1⟩:=pj hln;have e1:=(hρ l _ hlv).1;have e2:=(hρ c _ hcv).1;obtain⟨hz1,hz2⟩:=mc hT (m:=m) hz w;obtain⟨inf,hinf,hby⟩:=xO hT hsm;have hmul:inf.bytes*cn<=100000*10000:=Nat.mul_le_mul hby hc1;have hmul2:inf.bytes*ln<=100000*10000:=Nat.mul_le_mul hby (Nat.le_trans hl1 hc1);have hcs:fM D m (mX (bU z) cn):=Cl (abW hz2) cn;have he':=dw.k0 hi (.a (mX (bU z) cn) true none) ⟨w.heap.size,0,0⟩ (.cells (aD m (mX (bU z) cn)).toArray elem) rfl rfl rfl rfl rfl (tH rfl hcs);refine⟨_,_,_,.value (.slice (some ⟨w.heap.size,0,none⟩) ln cn),?_,.inl ?_,?_,he'⟩
 . have hrep:(Array.range (cn*n)).map (λi=>(if cn*n=0 then #[]else(aD m (bU z)).toArray)[i%(if cn*n=0 then #[]else(aD m (bU z)).toArray).size]!)=(aD m (mX (bU z) cn)).toArray:=by
    grind [DA]
   have hw1:=zo cn hc1;have hw2:=zo ln δ;have t1:¬((cn:Int)<0):=δ
   have t2:¬((inf.bytes:Int)*(cn:Int) > 2^48):=by
    omega
   have t3:¬((ln:Int)<0):=δ
   have t4:¬((ln:Int) > (cn:Int)):=δ
   simp only[execOp,ho,e1,e2,aj,Int.ofNat_eq_natCast,Instr.makeSlice,Sem.run_bind,a_ hT (pA he) w,Result.andThen_ok,asInt,asIntOf,Sem.run_pure,pg hT hinf w,hw1,hw2,t1,t2,t3,t4,decide_false,Bool.or_self,ο,if_false,run_askRoom,lC hT hn w,Int.toNat_natCast];by_cases hz0:cn*n=0<;>simp_all [newRow,fV]
 . simp[aj,TI,aB.b0,pN]
 . intro i hm;simp only[aC,σ,rI]at hm;subst hm;exact⟨tj,Nat.zero_le _⟩
omit hi hρ in
theorem pC{t kt et:TypeId}(h:H3 (T.a0 t)=some (kt,et)):T.a0 t=some (.map kt et):=by
 cases hu:T.a0 t with
 | none=>simp[hu,H3]at h
 | some d=>cases d<;>simp[hu,H3]at h;grind
theorem DM{oo:Oper}{t:TypeId}{mo k x:Operand}(ho:oo.op=.insert t mo k x\/oo.op=.mapUpdate t mo k x)(h:aay t mo k x T C ρ o=some r):vy P cfg C D m o w ev oo r:=by
 simp only[aay,BC,ag,aA]at h;obtain⟨mv,hmv,kv,hkv,v,hv,⟨kt,et⟩,hmt,hkd,h⟩:=h;simp only at hkd;obtain⟨e1,o1⟩:=hρ mo _ hmv;obtain⟨e2,o2⟩:=hρ k _ hkv;obtain⟨e3,o3⟩:=hρ x _ hv;cases mv<;>simp only[wV,reduceCtorEq,ag]at h;rename_i id;have hd:D id:=(o1 (id,0) (by simp[aC])).1;obtain⟨y,hy,es,hes,rr,hf,h⟩:=h;cases y<;>simp only[lX,reduceCtorEq,ν]at hes;subst hes;have hob:=hi.a0 id hd;rw[fI hy]at hob;obtain⟨en,ck,hb,hen,hoe⟩:=hob;cases hud:T.a0 kt with
 | none=>grind [sG]
 | some d=>
   rw[hud]at hkd;have hck:=rG (P:=P) (w:=w) (m:=m) (b:=false) hkd (a_ hT hud w);have hg:=qF (P:=P) hb θ;cases rr with
   | none=>
     simp only[ν]at h;subst h;obtain⟨q,hq,hqr⟩:=wg (P:=P) (w:=w) (m:=m) hkd (a_ hT hud w) hen hf;have hq0:q=none:=by simp_all
     subst hq0;have hst:=qC (P:=P) (y:=.map (en.push { key:=aj m kv,val:=aj m v,born:=ck }) (ck+1)) hb θ;refine⟨D,m,{ w with heap:=w.heap.setIfInBounds (m id).a0 (.map (en.push { key:=aj m kv,val:=aj m v,born:=ck }) (ck+1)) },.skip,?_,.inr ⟨rfl,rfl⟩,iy,dw.n0 hi hd hy rfl ?_ ?_ ?_ rfl rfl rfl⟩
     . have:(Instr.mapUpdate t (aj m (.q id)) (aj m kv) (aj m v)).run P w=.ok () { w with heap:=w.heap.setIfInBounds (m id).a0 (.map (en.push { key:=aj m kv,val:=aj m v,born:=ck }) (ck+1)) }:=by
        simp only[Instr.mapUpdate,aj,Sem.run_bind,a_ hT (pC hT hmt) w,Result.andThen_ok,hg,hck,hq,hst]
       grind [execOp,Sem.run_bind,Result.andThen_ok,Sem.run_pure]
     . simp
     . grind
     . rw[oa _ _ _ _ hb];refine⟨_,_,rfl,?_,?_⟩<;>grind
   | some old=>
     simp only[ag,ν]at h;obtain⟨es',hset,rfl⟩:=h;obtain⟨j,xv,hfn,⟨e0,he0,hek⟩,hmap⟩:=vC (m:=m) hkd (i:=0) hen hset;rw[Nat.zero_add]at hfn;have hq:(Instr.findKey kt (aj m kv) en.toList).run P w=.ok (some (j,xv)) w:=by simp[Instr.findKey,a_ hT hud w,hfn]
     have hst:=qC (P:=P) (y:=.map (en.modify j λe=>{ e with key:=aj m kv,val:=aj m v }) ck) hb θ;have hek':((en[j]?).map (·.key)).getD (aj m kv)=aj m kv:=by
      grind
     refine⟨D,m,{ w with heap:=w.heap.setIfInBounds (m id).a0 (.map (en.modify j λe=>{ e with key:=aj m kv,val:=aj m v }) ck) },.skip,?_,.inr ⟨rfl,rfl⟩,iy,dw.n0 hi hd hy rfl ?_ ?_ ?_ rfl rfl rfl⟩
     . have:(Instr.mapUpdate t (aj m (.q id)) (aj m kv) (aj m v)).run P w=.ok () { w with heap:=w.heap.setIfInBounds (m id).a0 (.map (en.modify j λe=>{ e with key:=aj m kv,val:=aj m v }) ck) }:=by
        simp only[Instr.mapUpdate,aj,Sem.run_bind,a_ hT (pC hT hmt) w,Result.andThen_ok,hg,hck,hq,hek',Instr.keyThatStays,zE hkd,if_true,Sem.run_pure,hst]
       grind [execOp,Sem.run_bind,Result.andThen_ok,Sem.run_pure]
     . simp
     . grind
     . rw[oa _ _ _ _ hb];exact⟨_,_,rfl,by grind,FX o2 o3 hset hoe⟩
theorem Ic{oo:Oper}{t:TypeId}{x ix:Operand}{okv:Bool}(ho:oo.op=.lookup t x ix okv)(h:oe t x ix okv T C ρ o=some r):vy P cfg C D m o w ev oo r:=by
 simp only[oe,bK,C_,ag,aA]at h;obtain⟨⟨mv,hmv,kv,hkv,⟨kt,et⟩,hmt,hkd,h⟩,hr⟩:=h;simp only at hkd h;obtain⟨e1,o1⟩:=hρ x _ hmv;obtain⟨e2,o2⟩:=hρ ix _ hkv;cases mv<;>simp only[Xf,reduceCtorEq,ag]at h;rename_i id;have hd:D id:=(o1 (id,0) (by simp[aC])).1;obtain⟨es,hes,rr,hf,h⟩:=h;have hob:=hi.a0 id hd;cases hy:get C o id<;>simp only[hy,lX,reduceCtorEq,ν]at hes;subst hes;rw[hy]at hob;obtain⟨en,ck,hb,hen,hoe⟩:=hob;cases hud:T.a0 kt with
 | none=>grind [sG]
 | some d=>
   rw[hud]at hkd;obtain⟨q,hq,hqr⟩:=wg (P:=P) (w:=w) (m:=m) hkd (a_ hT hud w) hen hf;have hck:=rG (P:=P) (w:=w) (m:=m) (b:=en.isEmpty) hkd (a_ hT hud w);have hg:=qF (P:=P) hb θ;cases rr with
   | some v=>
     simp only[ν]at h;have hv:=Zy hf hoe;cases q with
     | none=>grind
     | some q=>
       simp only[Option.map_some,ν]at hqr;refine gO.a0 hi hr ?_ ?_
       . rw[<-h];simp only[execOp,ho,e1,e2,aj,Instr.lookup,Sem.run_bind,a_ hT (pC hT hmt) w,Result.andThen_ok,hg,hck,hq,Sem.run_pure];grind [py,aj,aD]
       . rw[<-h];cases okv
         . exact hv
         . exact gh.2 (fE.2 ⟨hv,fE.2 ⟨sj,fQ⟩⟩)
   | none=>
     simp only[ag,ν]at h;obtain⟨z,hz,h⟩:=h;obtain⟨hz1,hz2⟩:=mc hT (m:=m) hz w;have hq0:q=none:=by simp_all
     subst hq0;refine gO.a0 hi hr ?_ ?_
     . rw[<-h];simp only[execOp,ho,e1,e2,aj,Instr.lookup,Sem.run_bind,a_ hT (pC hT hmt) w,Result.andThen_ok,hg,hck,hq,Sem.run_pure,hz1];grind [py,aj,aD]
     . rw[<-h];cases okv
       . exact ek hz2
       . exact gh.2 (fE.2 ⟨ek hz2,fE.2 ⟨sj,fQ⟩⟩)
theorem MF{oo:Oper}{t:TypeId}{x:Operand}(ho:oo.op=.range t x)(h:rJ t x T C ρ o=some r):vy P cfg C D m o w ev oo r:=by
 simp only[rJ,ag]at h;obtain⟨v,hv,h⟩:=h;obtain⟨e1,o1⟩:=hρ x _ hv;cases v<;>simp only[Fe,reduceCtorEq,aA,ν]at h;rename_i s;obtain⟨hs,rfl⟩:=h;have he':=dw.k0 hi (.d s 0) ⟨w.heap.size,0,0⟩ (.stringIter ⟨⟨s⟩⟩ 0) rfl rfl rfl rfl rfl ⟨rfl,rfl⟩;refine⟨_,_,_,.value (.pointer (some ⟨w.heap.size,0,none⟩)),?_,.inl ?_,yI,he'⟩
 . simp only[execOp,ho,e1,aj,Instr.range,Sem.run_bind,a_ hT (wT hs) w,Result.andThen_ok,Sem.run_pure,run_newObj];rfl
 grind [aj,pN]
omit hT in
theorem Nj{oo:Oper}{it:Operand}{s:Bool}(ho:oo.op=.next it s)(h:qS it s T C ρ o=some r):vy P cfg C D m o w ev oo r:=by
 simp only[qS,aA,ag]at h;obtain⟨rfl,v,hv,h⟩:=h;obtain⟨e1,o1⟩:=hρ it _ hv;unfold DN at h;split at h
 . rename_i id;simp only[ag]at h;obtain⟨y,hy,h⟩:=h;have hd:D id:=(o1 (id,0) (by simp[aC])).1;cases y<;>simp only[ace,reduceCtorEq,ν]at h;rename_i s pos;subst h;have hob:=hi.a0 id hd;rw[fI hy]at hob;obtain⟨hob,hbase⟩:=hob;have hg:=qF (P:=P) hob θ;have hsz:(ByteArray.mk ⟨s⟩).size=s.length:=rfl;unfold Dl;cases hlt:aS pos s.length with
   | true=>
     have hp:=aU.1 hlt;simp only[cond_true];have hst:=qC (P:=P) (y:=.stringIter ⟨⟨s⟩⟩ (pos+(Utf8.decode ⟨⟨s⟩⟩ pos).2)) hob θ;refine⟨D,m,{ w with heap:=w.heap.setIfInBounds (m id).a0 (.stringIter ⟨⟨s⟩⟩ (pos+(Utf8.decode ⟨⟨s⟩⟩ pos).2)) },.value (.tuple #[.bool true,.int .i64 pos,.int .i32 (Utf8.decode ⟨⟨s⟩⟩ pos).1]),?_,.inl ?_,?_,dw.n0 hi hd hy rfl ?_ ?_ ?_ rfl rfl rfl⟩
     . simp_all [execOp,aj,Instr.next,Go.goInt]
     . simp[aj,aD,gE,GP]
     . grind [gh,fE,sj,gE,wJ,GP,fQ]
     . simp
     . grind
     . rw[oa _ _ _ _ hob];exact⟨rfl,hbase⟩
   | false=>
     grind [ou,gO.a0,gh,fE,sj,fQ,execOp,aj,Instr.next,Sem.run_bind,Result.andThen_ok,Sem.run_pure,aD]
 grind
end
theorem A8(newLen:Nat):∀(r c:Nat),Builtin.growBy newLen r c<=2^r*(c+768)
 | 0,c=>by simp[Builtin.growBy]
 | r+1,c=>by
   have hp:2^(r+1)=2*2^r:=δ
   have h1:0<2^r:=Nat.two_pow_pos r;unfold Builtin.growBy;split
   . rw[hp,Nat.mul_assoc];have:1*(c+768)<=2^r*(c+768):=Nat.mul_le_mul_right _ h1;omega
   . refine Nat.le_trans (A8 newLen r _) ?_;rw[hp,Nat.mul_comm 2,Nat.mul_assoc];exact Nat.mul_le_mul_left _ δ
theorem Fy{need cap:Nat}(h:cap<need)(hn:need<=1000000):Builtin.nextslicecap need cap<=20000000:=by
 grind [Builtin.nextslicecap,A8]
theorem dw.q0{cfg:cL}{o:aB}{w':World}(h:dX cfg D m C o w){x:cD}{id:Nat}(hd:D id)(ho:(dQ C o id).isSome)(hl:l.a0=(m id).a0)
 (hlv:∀j,D j->oQ (get C o j)->(m j).a0≠(m id).a0) (hw:∀k,k≠(m id).a0->w'.heap[k]? = w.heap[k]?) (hsz:w.heap.size<=w'.heap.size) (hx:fX D m l x w'.heap[l.a0]?)
 (hos:w'.os=w.os) (ht:w'.tape=w.tape) (hu:w'.output=w.output) :
 dw cfg C D m o w (xD D (C.lo+o.n)) (AT m (C.lo+o.n) l) (o.a0 x) w':=by
 have h':dX cfg D m C o w':=h.d0 λj hj hlj=>hw _ (hlv j hj hlj);refine⟨h'.i0 (λj hj hlj=>by grind) hx,λi hi=>.inl hi,λi hi=>?_,?_,by simp[aB.a0],hos,ht,hu,hsz,λk _ hn=>hw k (λe=>hn id hd ho e.symm),rfl,?_⟩
 . have:=h.lt i hi;grind [qE]
 . rintro i (hi|rfl)<;>grind
 . rintro i (hi|rfl) hn<;>grind [pN]
section
variable{P:Program}{T:fm}(hT:fH P T){cfg:cL}{C:bg}{D:Nat->Prop}{m:Nat->bv}{o:aB}{w:World}(hi:dX cfg D m C o w)
include hT hi
omit hT in
theorem aao{cs:List AV}(hx:dh D m x)(h:jN C o size n x=some cs):(Builtin.firstCells size n (aj m x)).run P w=.ok (aD m cs).toArray w/\fM D m cs:=by
 cases x<;>simp only[jN,reduceCtorEq,aA,ν]at h
 . rename_i s;obtain⟨hn,rfl⟩:=h;refine⟨?_,df.2 (λv hm=>by grind [ek,jx,aC])⟩;simp[aj,Builtin.firstCells,d_,jx,Function.comp_def]
 . rename_i id off len c;have hd:D id:=(hx (id,rI len c) (by simp[aC])).1;obtain⟨hn,h⟩:=h;simp only[mA,ag]at h;obtain⟨cs0,hc0,h⟩:=h;obtain⟨h1,h2⟩:=hi.f0 hd hc0 h P;grind [aj,Builtin.firstCells]
 simp_all [aj,Builtin.firstCells,aD,fQ]
omit hT hi in
theorem abO(h:pU x=some n):(Builtin.lenOf (aj m x)).run P w=.ok n w:=by
 cases x<;>simp only[pU,reduceCtorEq,ν]at h<;>subst h<;>simp[aj,Builtin.lenOf]<;>rfl
omit hT hi in
theorem E6(z:Array Value)(n:Nat):(Builtin.zeroCells z n).size=n*z.size:=by simp[Builtin.zeroCells]
omit hT hi in
theorem ze{cs:List AV}(h:jN C o size n x=some cs)(hs:∀s,x=.e s->size=1):cs.length=n*size:=by
 cases x<;>simp only[jN,reduceCtorEq,aA,ν,eK,cQ]at h<;>grind [mA,ag,X4]
omit hT hi in
theorem CL{c:Nat}{k:Nat}(hk:k<=l.c0):dh (xD D n) (AT m n l) (.c n 0 k (.b 0)):=λi hm=>by
 grind [aC,rI,tj,pN]
theorem qO{ts:Array TypeId}{ty:TypeId}{old new:List AV}{z:AV}{t u:TypeId}{base:Option Addr}{inf:TypeInfo}
 (hts:ts[0]? = some t) (htu:ts[1]? = some u) (he:T.a0 t=some (.slice elem)) (hu:o6 T u) (hinf:T.b0 elem=some inf) (hby:inf.bytes<=100000) (hz:lA T elem=some z) (hsz:gT T elem=some size) (hzl:(bU z).length=size) (h0:0<size)
 (hs:aj m s=.slice base sl sc) (hx:pU x=some n) (hn:¬sl+n<=sc) (hlim:sl+n<=1000000)
 (hold:(Builtin.firstCells size sl (aj m s)).run P w.drew=.ok (aD m old).toArray w.drew) (hnew:(Builtin.firstCells size n (aj m x)).run P w.drew=.ok (aD m new).toArray w.drew)
 (hoo:fM D m old) (hon:fM D m new) (hol:old.length=sl*size) (hnl:new.length=n*size) :
 ∃D' m' w',(Builtin.append_ ts ty #[aj m s,aj m x]).run P w=.ok (aj m' (VK C o size (sl+n) (old++new)).1) w'/\dh D' m' (VK C o size (sl+n) (old++new)).1/\dw cfg C D m o w D' m' (VK C o size (sl+n) (old++new)).2 w':=by
 have hcap:=Dq w (sl+n) sc elem δ;obtain⟨d,hd,hdi⟩:∃d,T.a0 u=some d/\∀k,d≠.int k:=by
  grind [o6]
 obtain⟨hz1,hz2⟩:=mc hT (m:=m) hz w.drew;have hok:fM D m (old++new):=pi.2 ⟨hoo,hon⟩;have hrest:(Builtin.zeroCells (aD m (bU z)).toArray (grownCap w (sl+n) sc elem-(sl+n))).size=(grownCap w (sl+n) sc elem-(sl+n))*size:=by
  grind [E6,b7]
 have hsize:((aD m old).toArray++(aD m new).toArray++Builtin.zeroCells (aD m (bU z)).toArray (grownCap w (sl+n) sc elem-(sl+n))).size=grownCap w (sl+n) sc elem*size:=by
  simp only[Array.size_append,hrest,List.size_toArray,b7,hol,hnl];rw[<-Nat.add_mul,<-Nat.add_mul];grind
 have hext:=dw.k0 hi (.a (old++new) true (some size)) ⟨w.heap.size,0,grownCap w (sl+n) sc elem⟩ (.cells ((aD m old).toArray++(aD m new).toArray++Builtin.zeroCells (aD m (bU z)).toArray (grownCap w (sl+n) sc elem-(sl+n))) elem) (w0:=w.drew) rfl rfl rfl rfl rfl
  ⟨_,elem,(0,0),rfl,⟨(λi v hv=>by
   grind [b7,gi]),hok,(λ_=>rfl),(λs hs=>by grind)⟩⟩
 refine⟨_,_,_,?_,CL (c:=0) δ,hext⟩;have hnc:¬(Builtin.nextslicecap (sl+n) sc*inf.bytes > 2^48):=by
  have h1:=Fy (need:=sl+n) (cap:=sc) δ hlim;have h2:Builtin.nextslicecap (sl+n) sc*inf.bytes<=20000000*100000:=Nat.mul_le_mul h1 hby
  omega
 have hmax:¬(((sl+n:Nat):Int) > IntKind.i64.max):=by
  simp;omega
 rw[hs]at hold ⊢;have ha0:(#[Value.slice base sl sc,aj m x]:Array Value)[0]? = some (.slice base sl sc):=rfl;have ha1:(#[Value.slice base sl sc,aj m x]:Array Value)[1]? = some (aj m x):=rfl;have hq:(Question.appendCap (sl+n) sc elem).cut (w.tape w.drawn (.appendCap (sl+n) sc elem))=grownCap w (sl+n) sc elem:=rfl;have hdr:({ w with drawn:=w.drawn+1 }:World)=w.drew:=rfl;have hrd:=a_ hT hd w;clear hd;cases d
 case int k=>grind
 all_goals
  simp only[Builtin.append_,hts,htu,ha0,ha1,Sem.run_bind,a_ hT he w,Result.andThen_ok,lC hT hsz w,hrd,Sem.run_pure,ο,if_false,abO hx,hn,pg hT hinf w,hmax,false_and,hnc,run_choose,Question.forced,hq,hdr,pg hT hinf w.drew,run_askRoom,hold,Bool.not_false,if_true,hnew,hz1,fV,newRow,run_newObj];simp only[VK,aj,TI,aB.b0,pN,Nat.sub_zero,π];rfl
theorem pu{ts:Array TypeId}{ty:TypeId}{new:List AV}{t u:TypeId}{base:Option Addr}{w':World}
 (hts:ts[0]? = some t) (htu:ts[1]? = some u) (he:T.a0 t=some (.slice elem)) (hu:o6 T u) (hsz:gT T elem=some size)
 (hs:aj m s=.slice base sl sc) (hx:pU x=some n) (hn:sl+n<=sc)
 (hnew:(Builtin.firstCells size n (aj m x)).run P w=.ok (aD m new).toArray w)
 (hst:∀a,base=some a->(storeCells (a.add (sl*size)) (aD m new) 0).run P w=.ok () w') (hst':base=none->w'=w) :
 (Builtin.append_ ts ty #[aj m s,aj m x]).run P w=.ok (.slice base (sl+n) sc) w':=by
 obtain⟨d,hd,hdi⟩:∃d,T.a0 u=some d/\∀k,d≠.int k:=by
  grind [o6]
 rw[hs];have ha0:(#[Value.slice base sl sc,aj m x]:Array Value)[0]? = some (.slice base sl sc):=rfl;have ha1:(#[Value.slice base sl sc,aj m x]:Array Value)[1]? = some (aj m x):=rfl;have hrd:=a_ hT hd w;clear hd;cases d
 case int k=>exact absurd rfl (hdi k)
 all_goals
  simp only[Builtin.append_,hts,htu,ha0,ha1,Sem.run_bind,a_ hT he w,Result.andThen_ok,lC hT hsz w,hrd,Sem.run_pure,ο,if_false,abO hx,hn,if_true,Bool.not_false,hnew];cases base with
  | none=>simp only[Sem.run_pure];rw[hst' rfl]
  | some a=>simp only[Sem.run_bind,hst a rfl,Result.andThen_ok,Sem.run_pure]
omit hT hi in
theorem vP(h:pU s=some sl)(hs:lW s):s=.f/\sl=0\/∃id off c,s=.c id off sl c:=by
 cases s<;>simp[lW]at hs<;>grind [pU]
theorem IE{ts:Array TypeId}{ty t u:TypeId}(hts:ts[0]? = some t)(htu:ts[1]? = some u)(hs:dh D m s)(hx:dh D m x)(h:pt T C o t u s x=some r) :
 ∃D' m' w',(Builtin.append_ ts ty #[aj m s,aj m x]).run P w=.ok (aj m' r.1) w'/\dh D' m' r.1/\dw cfg C D m o w D' m' r.2 w':=by
 simp only[pt,ag,aA,ξ]at h;obtain⟨elem,he,⟨⟨hni,hsm⟩,hsl⟩,size,hsz,z,hz,n,hn,sl,hl,h⟩:=h;have heu:=pA he;obtain⟨inf,hinf,hby⟩:=xO hT hsm;have hslc:=vP hl hsl;by_cases hn0:n=0
 . rw[rY hn0,cond_true,aA,ν]at h;obtain⟨hfit,rfl⟩:=h;subst hn0;have hfc:(Builtin.firstCells size 0 (aj m x)).run P w=.ok (aD m []).toArray w:=by
    cases x<;>simp[pU]at hn<;>simp[aj,Builtin.firstCells,aD,loadCells,loadCellsFrom]
   refine⟨D,m,w,?_,hs,dw.h0 hi⟩;rcases hslc with⟨rfl,rfl⟩|⟨id,off,c,rfl⟩
   . have:=pu (ty:=ty) (sc:=0) (w':=w) hT hi hts htu heu hni hsz (s:=.f) (base:=none) (sl:=0) rfl hn (Nat.le_refl _) hfc (λa e=>by rfl) (λ_=>rfl);grind [aj]
   . have hroom:sl<=TI (m id) c:=by
      cases c with
      | a c=>exact eK.1 hfit
      | b k=>
        have:=(hs (id,sl+k) (by simp[aC,rI])).2;grind [TI]
     have:=pu (ty:=ty) (w':=w) hT hi hts htu heu hni hsz (s:=.c id off sl c) rfl hn hroom hfc (λa e=>by rfl) (λe=>by rfl);grind [aj]
 . rw[ic hn0,cond_false,aA]at h;simp only[ξ,I9,eK,aU,cQ,ag,aA]at h;obtain⟨⟨⟨⟨⟨hlim,h0⟩,hs1⟩,hzl⟩,hstr⟩,new,hnew,hone,h⟩:=h;obtain⟨hfr,hfo⟩:=aao (P:=P) hi hx hnew;have hid:dX cfg D m C o w.drew:=hi.d0 λ_ _ _=>rfl;obtain⟨hfr',_⟩:=aao (P:=P) hid hx hnew;have hnl:=ze hnew (λs e=>by subst e;exact cQ.1 hstr);rcases hslc with⟨rfl,rfl⟩|⟨id,off,c,rfl⟩
   . simp only[jt,ν]at h;subst h;have:=qO (ty:=ty) (old:=[]) (base:=none) (sc:=0) hT hi hts htu heu hni hinf hby hz hsz hzl h0 (s:=.f) (sl:=0) rfl hn δ δ κ hfr' fQ hfo θ hnl;grind
   . have hd:D id:=(hs (id,rI sl c) (by simp[aC])).1;have hneed:=(hs (id,rI sl c) (by simp[aC])).2;cases c with
     | a c=>
       simp only[jt,appendCap,lB]at h;by_cases hcap:sl+n<=c
       . rw[eK.2 hcap,cond_true,ag]at h;obtain⟨o',hw,h⟩:=h;simp only[ν]at h;subst h;obtain⟨w',hw1,hw2⟩:=np (P:=P) hi hd hfo hone hw;have:=pu (ty:=ty) (w':=w') hT hi hts htu heu hni hsz (s:=.c id off sl (.a c)) rfl hn (by grind [TI]) hfr (λa e=>by
          grind [hJ]) (λe=>by grind)
         refine⟨D,m,w',?_,?_,hw2⟩
         . grind [aj]
         . intro i hm;grind [aC,rI]
       . rw[jT hcap,cond_false,ag]at h;obtain⟨old,hold,h⟩:=h;simp only[ν]at h;subst h;have hof:jN C o size sl (.c id off sl (.a c))=some old:=by
          grind [jN,aA,eK]
         obtain⟨hor,hoo⟩:=aao (P:=P) hid hs hof;exact qO (ty:=ty) hT hi hts htu heu hni hinf hby hz hsz hzl h0 rfl hn (by grind [TI]) hlim hor hfr' hoo hfo (ze hof (λs e=>by grind)) hnl
     | b k=>
       simp only[jt,appendCap,UR,aA,ξ,cQ,ag]at h;obtain⟨⟨rfl,rfl⟩,y,hy,cs,hcs,h⟩:=h;simp only[ν]at h;subst h;simp only[rI,π]at hneed;cases y<;>simp only[zl,reduceCtorEq]at hcs;rename_i cs' rw g;cases rw<;>cases g<;>simp only[reduceCtorEq,aA,ξ,cQ,ν]at hcs;obtain⟨⟨rfl,hcl⟩,rfl⟩:=hcs;rename_i size;have hob:=hi.a0 id hd;rw[fI hy]at hob;obtain⟨c,e,fz,hb,hr⟩:=hob;obtain rfl:=hr.b0 rfl;obtain⟨_,hbase,hcsz⟩:=hr.c0 size rfl;have hk:=dw.n0 (w':=w) hi (x:=.b) hd hy rfl (Nat.le_refl _) (λ_ _=>rfl) trivial rfl rfl rfl;have hnx:(kV C o id .b).b0 C=C.lo+o.n:=by simp[aB.b0,vJ]
       by_cases hcap:sl+n<=(m id).c0
       . have hlen:sl*size+n*size<=(m id).c0*size:=by rw[<-Nat.add_mul];simp_all [Nat.mul_le_mul_right]
         have hst:=run_storeCells_at P (m id).a0 (sl*size) e (aD m new) 0 c w hb (by grind [b7]) (λv hvm=>by
          grind [d_,ZQ,abG])
         have hap:=pu (ty:=ty) hT hi hts htu heu hni hsz (s:=.c id 0 sl (.b 0)) rfl hn (by grind [TI]) hfr (λa e=>by
          cases e;rw[hJ,hbase,π,Nat.zero_add];omega) (λe=>by grind)
         have hg:dw cfg C D m (kV C o id .b) w (xD D (C.lo+(kV C o id .b).n)) (AT m (C.lo+(kV C o id .b).n) ⟨(m id).a0,0,(m id).c0⟩) ((kV C o id .b).a0 (.a (cs'++new) true (some size))) (w.setRow (m id).a0 (c.toList.take (sl*size+0)++aD m new++c.toList.drop (sl*size+0+(aD m new).length)).toArray):=by
          refine dw.q0 hk.b0 hd (by grind [ig,qM]) rfl (λj hj hlj=>?_) (λk hk=>setRow_other _ _ _ _ hk) (Nat.le_of_eq (vK _ _ _).symm) ?_ rfl rfl rfl
          . rw[wZ hi.e0 (hi.lt id hd) (hi.lt j hj) η]at hlj;by_cases ej:j=id
            . rw[if_pos ej]at hlj;cases hlj
            . rw[if_neg ej]at hlj;exact hi.inj j id hj hd ej hlj (by rw[fI hy];rfl)
          . refine⟨_,e,(0,0),setRow_heap w _ c _ e _ hb,⟨λi v hv=>?_,pi.2 ⟨hr.a0,hfo⟩,λ_=>rfl,λs hs=>?_⟩⟩
            . simp only[π,Nat.zero_add,List.getElem?_toArray];rw[List.append_assoc,ς,List.length_take,Array.length_toList,Nat.min_eq_left δ];rw[ς,hcl]at hv;by_cases hi1:i<sl*size
              . rw[if_pos hi1]at hv ⊢;have:=hr.d0 i v hv;grind
              grind [b7,gi]
            . cases hs;refine⟨h0,rfl,?_⟩;simp only[π,List.size_toArray,List.length_append,List.length_take,List.length_drop,Array.length_toList,b7,hnl];rw[hcsz];omega
         refine⟨_,_,_,?_,CL (c:=0) (n:=(kV C o id .b).b0 C) (l:=⟨(m id).a0,0,(m id).c0⟩) (m:=m) (D:=D) hcap,hk.d0 hg⟩;rw[hap];simp only[VK,aj,TI,aB.b0,pN,Nat.sub_zero,π,hbase]
       . have hof:jN C o size sl (.c id 0 sl (.b 0))=some cs':=by
          simp only[jN,aA,eK];refine⟨Nat.le_refl _,?_⟩;simp only[mA,fI hy,cellsOf,ob,jW,List.drop_zero];rw[<-hcl,List.take_length,rY rfl];rfl
         obtain⟨hor,hoo⟩:=aao (P:=P) hid hs hof;have hki:dX cfg D m C (kV C o id .b) w:=hk.b0;obtain⟨D',m',w',h1,h2,h3⟩:=qO (ty:=ty) hT hki hts htu heu hni hinf hby hz hsz hzl h0 (s:=.c id 0 sl (.b 0)) rfl hn (by simpa [TI]using hcap) hlim hor hfr' hoo hfo δ hnl;exact⟨D',m',w',h1,h2,hk.d0 h3⟩
end
end Go.Ev
