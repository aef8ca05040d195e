import Derived.Test.YtoghlpcacfnjbaaGreatDoorP12
set_option linter.all false
set_option maxRecDepth 100000
set_option maxHeartbeats 4000000
namespace Go.Ev
open Go
variable{x:AV}{cs:List AV}{off size id:Nat}{o:aC}
section
variable(P:fb)
def pA(cmp:TypeId->AV->AV->Option Bool)(xs ys:List AV):List Field->Option Bool
 | []=>some true
 | f::fs=>ok (!(f.name == "_")) (ob (iQ P f.type xs f.offset) λa=>ob (iQ P f.type ys f.offset) λb=>ob (cmp f.type a b) λr=>ob (pA cmp xs ys fs) λq=>some (r&&q))
def rO(cmp:AV->AV->Option Bool)(elem:TypeId)(n:Nat)(xs ys:List AV)(i:Nat):Nat->Option Bool
 | 0=>some true
 | k+1=>ob (iQ P elem xs (i*n)) λa=>ob (iQ P elem ys (i*n)) λb=>ob (cmp a b) λr=>ob (rO cmp elem n xs ys (i+1) k) λq=>some (r&&q)
def GG(cmp:TypeId->AV->AV->Option Bool)(t:TypeId)(xs ys:List AV):Option TypeDesc->Option Bool
 | some (.struct fields)=>ob (P.ty.get t) λe=>ok (!e.stood) (pA P cmp xs ys fields.toList)
 | some (.array len elem)=>ob (gO P elem) λn=>rO P (cmp elem) elem n xs ys 0 len
 | _=>none
def IM(cmp:TypeId->AV->AV->Option Bool)(t:TypeId)(xs:List AV):AV->Option Bool
 | .agg ys=>GG P cmp t xs ys (P.und t)
 | _=>none
def S_(cmp:TypeId->AV->AV->Option Bool)(t:TypeId)(x y:AV):Option Bool:=match x with
 | .bool a=>BL P t a y
 | .int k a=>EV P t k a y
 | .str a=>ET P t a y
 | .agg xs=>IM P cmp t xs y
 | .iface a u=>nX P cmp t a u y
 | x=>CW (P.und t) x y
def SV:Nat->TypeId->AV->AV->Option Bool
 | 0,_,_,_=>none
 | d+1,t,x,y=>S_ P (SV d) t x y
theorem rZ{c c':TypeId->AV->AV->Option Bool}(hc:∀t a b r,c t a b=some r->c' t a b=some r){xs ys:List AV}:∀{fs:List Field} {r:Bool},pA P c xs ys fs=some r->iR P c' xs ys fs=some r
 | [],r,h=>h
 | f::fs,r,h=>by
   simp only[pA,aA,ai,Option.some.injEq]at h;obtain⟨h0,a,ha,b,hb,q,hq,q',hq',rfl⟩:=h;have:=rZ hc hq';simp only[iR,aA,ai];refine⟨h0,a,ha,b,hb,q,hc _ _ _ _ hq,?_⟩;cases q<;>simp[this]
theorem tZ{c c':AV->AV->Option Bool}(hc:∀a b r,c a b=some r->c' a b=some r){elem:TypeId}{n:Nat}{xs ys:List AV}:∀{k i:Nat} {r:Bool},rO P c elem n xs ys i k=some r->kz P c' elem n xs ys i k=some r
 | 0,i,r,h=>h
 | k+1,i,r,h=>by
   simp only[rO,ai,Option.some.injEq]at h;obtain⟨a,ha,b,hb,q,hq,q',hq',rfl⟩:=h;have:=tZ hc hq';simp only[kz,ai];refine⟨a,ha,b,hb,q,hc _ _ _ hq,?_⟩;cases q<;>simp[this]
theorem Ez:∀{d:Nat} {t:TypeId} {x y:AV} {r:Bool},SV P d t x y=some r->Of P d t x y=some r
 | 0,t,x,y,r,h=>by cases h
 | d+1,t,x,y,r,h=>by
   have ih:∀t a b r,SV P d t a b=some r->Of P d t a b=some r:=λt a b r=>Ez;unfold SV S_ at h;unfold Of Md;cases x<;>simp only at h ⊢<;>first|exact h|skip
   . rename_i a u;unfold nX at h ⊢;cases y<;>simp only at h ⊢<;>first|exact h|skip
     simp only[aA]at h ⊢;refine⟨h.1,?_⟩;have h2:=h.2;cases hb:Nat.beq a _<;>rw[hb]at h2<;>simp only[cond_true,cond_false,ai,aA]at h2 ⊢
     . exact h2
     . grind
   . unfold IM at h;unfold DD;cases y<;>simp only[reduceCtorEq]at h ⊢;generalize P.und t=dd at h ⊢;unfold GG at h;unfold AG;split at h
     . simp only[ai,aA]at h ⊢;obtain⟨e,he,hs,h⟩:=h;exact⟨e,he,hs,rZ P ih h⟩
     . simp only[ai]at h ⊢;obtain⟨n,hn,h⟩:=h;exact⟨n,hn,tZ P (ih _) h⟩
     . cases h
variable{R:Type}
def KA(op:BinOp)(t:TypeId)(xo yo:Operand)(x y:AV)(K:AV->Tr R):Tr R:=match x with
 | .int k a=>KQ op k a y K
 | .str a=>IR op a y K
 | x=>aU (CG op (ok (jM P t xo yo x y) (SV P 100 t x y))) K
theorem HG{op:BinOp}{t:TypeId}{xo yo:Operand}{y:AV}{K:AV->Tr R}{s:R}(h:(KA P op t xo yo x y K).run=some s):∃v,Jv P op t xo yo x y=some v/\(K v).run=some s:=by
 have other:∀{x:AV},(aU (CG op (ok (jM P t xo yo x y) (SV P 100 t x y))) K).run=some s->∃v,CG op (ok (jM P t xo yo x y) (Of P 100 t x y))=some v/\(K v).run=some s:=λh=>by
  obtain⟨v,hv,hk⟩:=ar h;refine⟨v,?_,hk⟩;unfold CG at hv ⊢;split at hv<;>simp only[ai,aA,reduceCtorEq]at hv ⊢
  . obtain⟨b,⟨hg,he⟩,hb⟩:=hv;exact⟨b,⟨hg,Ez P he⟩,hb⟩
  . obtain⟨b,⟨hg,he⟩,hb⟩:=hv;exact⟨b,⟨hg,Ez P he⟩,hb⟩
 unfold KA at h;unfold Jv;cases x<;>simp only at h ⊢<;>first|exact Ht h|exact GN h|exact other h
def P6(op:UnOp)(x:AV)(K:AV->Tr R):Tr R:=match x with
 | .int k n=>match op with
   | .neg=>mU k (Int.sub 0 n) K
   | op=>aU (Vf op (.int k n)) K
 | .bool b=>match op with
   | .not=>K (.bool !b)
   | _=>.fail
 | _=>.fail
theorem I_{op:UnOp}{K:AV->Tr R}{s:R}(h:(P6 op x K).run=some s):∃v,Vf op x=some v/\(K v).run=some s:=by
 unfold P6 at h;cases x<;>simp only at h<;>first|(cases h;done)|skip
 . cases op<;>simp only at h<;>first|(cases h;done)|exact⟨_,rfl,h⟩
 . cases op<;>simp only at h<;>first|exact ar h|skip
   exact qn h
def KH(a b:Option AV)(c:AV)(K:AV->Tr R):Tr R:=match c with
 | .bool d=>.test d λe=>aU (bif e then a else b) K
 | _=>.fail
theorem G2{a b:Option AV}{c:AV}{K:AV->Tr R}{s:R}(h:(KH a b c K).run=some s):∃v,GF a b c=some v/\(K v).run=some s:=by
 unfold KH at h;cases c<;>simp only at h<;>first|(cases h;done)|skip
 rename_i d;simp only[Tr.run]at h;cases d<;>exact ar h
def cq(k:IntKind):AV->Bool
 | .int k' _=>gN k' k
 | _=>false
def bC:AV->Int
 | .int _ n=>n
 | _=>0
def PA:AV->Bool
 | .bool _=>true
 | _=>false
def Jf:AV->Bool
 | .bool b=>b
 | _=>false
def G0:AV->Bool
 | .str _=>true
 | _=>false
def CB:AV->List UInt8
 | .str s=>s
 | _=>[]
theorem G1{k:IntKind}{v:AV}(h:cq k v):v=.int k (bC v):=by
 cases v<;>simp only[cq,Bool.false_eq_true]at h;rw[ic]at h;rw[h];rfl
theorem GT{v:AV}(h:PA v):v=.bool (Jf v):=by cases v<;>simp only[PA,Bool.false_eq_true]at h;rfl
theorem HW{v:AV}(h:G0 v):v=.str (CB v):=by cases v<;>simp only[G0,Bool.false_eq_true]at h;rfl
theorem getD_some{i:Nat}{v:AV}(h:cs.getD i bo=v)(hv:v≠bo):cs[i]? = some v:=by
 grind
def Gx(z:AV)(cs:List AV)(off:Nat)(K:AV->Tr R):Tr R:=match z with
 | .int k _=>fI (cq k (cs.getD off bo)) (K (.int k (bC (cs.getD off bo))))
 | .bool _=>fI (PA (cs.getD off bo)) (K (.bool (Jf (cs.getD off bo))))
 | .str _=>fI (G0 (cs.getD off bo)) (K (.str (CB (cs.getD off bo))))
 | _=>.pickN off λj=>aU cs[j]? K
theorem z7{z:AV}{K:AV->Tr R}{s:R}(h:(Gx z cs off K).run=some s):∃v,cs[off]? = some v/\(K v).run=some s:=by
 have other:(Tr.pickN off λj=>aU cs[j]? K).run=some s->∃v,cs[off]? = some v/\(K v).run=some s:=λh=>ar h;unfold Gx at h;cases z<;>simp only at h<;>first|exact other h|skip
 . obtain⟨h1,h2⟩:=bE h;exact⟨_,getD_some (GT h1) (by simp[bo]),h2⟩
 . obtain⟨h1,h2⟩:=bE h;exact⟨_,getD_some (G1 h1) (by simp[bo]),h2⟩
 . obtain⟨h1,h2⟩:=bE h;exact⟨_,getD_some (HW h1) (by simp[bo]),h2⟩
def EX(cs:List AV):List AV->Nat->(List AV->Tr R)->Tr R
 | [],_,K=>K []
 | z::zs,off,K=>Gx z cs off λv=>EX cs zs (off+1) λvs=>K (v::vs)
theorem wX{cs:List AV}:∀{zs:List AV} {off:Nat} {K:List AV->Tr R} {s:R},(EX cs zs off K).run=some s->∃vs,vs.length=zs.length/\(∀i,i<zs.length->cs[off+i]? = vs[i]?)/\(K vs).run=some s
 | [],off,K,s,h=>⟨[],rfl,λi hi=>absurd hi (Nat.not_lt_zero i),h⟩
 | z::zs,off,K,s,h=>by
   obtain⟨v,hv,h⟩:=z7 h;obtain⟨vs,h1,h2,h⟩:=wX h;refine⟨v::vs,by simp[h1],λi hi=>?_,h⟩;cases i with
   | zero=>exact hv
   | succ i=>
     grind
theorem JN{vs:List AV}{n:Nat}(h1:vs.length=n)(h2:∀i,i<n->cs[off+i]? = vs[i]?):jW cs off n=some vs:=by
 have e:(cs.drop off).take n=vs:=by
  apply List.ext_getElem?;intro i;rw[List.getElem?_take];split
  . grind
  . grind
 rw[jW,e,gb h1];rfl
def IL(t:TypeId)(cs:List AV)(off:Nat)(K:AV->Tr R):Tr R:=
 aU (P.und t) λd=>bif wR (some d)then aU (gO P t) λn=>aU (kW P t) λz=>bif Nat.beq (bU z).length n then EX cs (bU z) off λvs=>K (.agg vs)else .fail
  else aU (kW P t) λz=>Gx z cs off K
theorem Ae{t:TypeId}{K:AV->Tr R}{s:R}(h:(IL P t cs off K).run=some s):∃v,iQ P t cs off=some v/\(K v).run=some s:=by
 obtain⟨d,hd,h⟩:=ar h;unfold iQ;simp only[hd,ob];cases ha:wR (some d)with
 | true=>
   rw[ha,cond_true]at h;rw[cond_true];obtain⟨n,hn,h⟩:=ar h;obtain⟨z,hz,h⟩:=ar h;obtain⟨hl,h⟩:=c_ h;rw[cO]at hl;obtain⟨vs,h1,h2,h⟩:=wX h;exact⟨_,by simp only[hn,JN (h1.trans hl) λi hi=>h2 i (by omega)],h⟩
 | false=>
   rw[ha,cond_false]at h;rw[cond_false];obtain⟨z,hz,h⟩:=ar h;exact z7 h
def JH(i:AV)(K:Nat->Tr R):Tr R:=match i with
 | .int _ n=>fI (ab 0 n) (K n.toNat)
 | _=>.fail
theorem wE{i:AV}{K:Nat->Tr R}{s:R}(h:(JH i K).run=some s):∃n,Hx i=some n/\(K n).run=some s:=by
 unfold JH at h;cases i<;>simp only at h<;>first|(cases h;done)|skip
 rename_i k n;obtain⟨h1,h2⟩:=bE h;have hn:0<=n:=by rw[ea]at h1;simpa using h1
 refine⟨_,?_,h2⟩;obtain⟨j,rfl⟩:∃j:Nat,n=Int.ofNat j:=⟨n.toNat,(Int.toNat_of_nonneg hn).symm⟩;rfl
def L7(hi:Nat)(v:AV)(K:Nat->Tr R):Tr R:=JH v λn=>fI (Nat.ble n hi) (K n)
theorem qN{hi:Nat}{v:AV}{K:Nat->Tr R}{s:R}(h:(L7 hi v K).run=some s):∃n,yX hi v=some n/\(K n).run=some s:=by
 obtain⟨n,h1,h⟩:=wE h;obtain⟨h2,h⟩:=bE h;refine⟨n,?_,h⟩;unfold Hx at h1;split at h1
 . cases h1;simp only[yX,h2,ok,cond_true]
 . cases h1
def iV(most dflt:Nat)(v:Option AV)(K:Nat->Tr R):Tr R:=match v with
 | none=>K dflt
 | some v=>L7 most v K
theorem dS{most dflt:Nat}{v:Option AV}{K:Nat->Tr R}{s:R}(h:(iV most dflt v K).run=some s):∃n,dT most dflt v=some n/\(K n).run=some s:=by
 cases v with
 | none=>exact⟨dflt,rfl,h⟩
 | some v=>exact qN h
def AB{α:Type}(b:Bool)(x y:α)(K:α->Tr R):Tr R:=.test b λd=>bif d then K x else K y
theorem nW{α:Type}{b:Bool}{x y:α}{K:α->Tr R}{s:R}(h:(AB b x y K).run=some s):(K (bif b then x else y)).run=some s:=by
 cases b<;>exact h
def Ac(id off size m h l:Nat)(K:AV->Tr R):Tr R:=AB (Nat.beq m l) (AV.slice id off (h-l) (.known (m-l))) (.slice id (off+l*size) (h-l) (.known (m-l))) K
def GL(s:List UInt8)(lo hi:Option AV)(K:AV->Tr R):Tr R:=iV s.length s.length hi λh=>iV h 0 lo λl=>K (.str ((s.take h).drop l))
def nO(size id off len c:Nat)(lo hi max:Option AV)(K:AV->Tr R):Tr R:=
 bif max.isNone || hi.isSome then iV c c max λm=>iV m len hi λh=>iV h 0 lo λl=>Ac id off size m h l K else .fail
theorem nr{len c:Nat}{lo hi max:Option AV}{K:AV->Tr R}{s:R}(h:(nO size id off len c lo hi max K).run=some s):∃v,i_ size id off len c lo hi max=some v/\(K v).run=some s:=by
 obtain⟨h0,h⟩:=c_ h;obtain⟨m,hm,h⟩:=dS h;obtain⟨h',hh,h⟩:=dS h;obtain⟨l,hl,h⟩:=dS h;exact⟨_,by simp only[i_,h0,ok,cond_true,hm,ob,hh,hl,js],nW h⟩
def qr(size id off k h l:Nat)(K:AV->Tr R):Tr R:=.test (Nat.beq l 0) λb=>bif b then K (.slice id off h (.rest k))else fI (aW l h) (K (.slice id (off+l*size) (h-l) (.rest (k+l))))
theorem w9{k h' l:Nat}{K:AV->Tr R}{s:R}(h:(qr size id off k h' l K).run=some s):∃v,pz size id off k h' l=some v/\(K v).run=some s:=by
 unfold qr at h;unfold pz;simp only[Tr.run]at h;cases hb:Nat.beq l 0 with
 | true=>rw[hb]at h;exact⟨_,by simp only[cond_true],h⟩
 | false=>
   rw[hb,cond_false]at h;obtain⟨h1,h⟩:=bE h;exact⟨_,by simp only[cond_false,h1,ok,cond_true],h⟩
def zU(size id off len:Nat)(lo hi max:Option AV)(c:eZ)(K:AV->Tr R):Tr R:=match c with
 | .known c=>nO size id off len c lo hi max K
 | .rest k=>match max with
   | none=>iV len len hi λh=>iV h 0 lo λl=>qr size id off k h l K
   | some mx=>bif hi.isSome then L7 len mx λm=>iV m len hi λh=>iV h 0 lo λl=>Ac id off size m h l K else .fail
def w8(t:TypeId)(lo hi mx:Option AV)(v:AV)(K:AV->Tr R):Tr R:=match v with
 | .ptr id off=>aU (BR P t) λne=>aU (gO P ne.2) λsize=>nO size id off ne.1 ne.1 lo hi mx K
 | .str s=>bif za P t&&mx.isNone then GL s lo hi K else .fail
 | .nilslice=>aU (kx P t) λe=>aU (gO P e) λ_=>bif mx.isNone || hi.isSome then iV 0 0 mx λ_=>iV 0 0 hi λ_=>iV 0 0 lo λ_=>K .nilslice else .fail
 | .slice id off len c=>aU (kx P t) λe=>aU (gO P e) λsize=>zU size id off len lo hi mx c K
 | _=>.fail
theorem Ay{t:TypeId}{lo hi mx:Option AV}{v:AV}{K:AV->Tr R}{s:R}(h:(w8 P t lo hi mx v K).run=some s):∃r,q8 P t lo hi mx v=some r/\(K r).run=some s:=by
 unfold w8 at h;unfold q8;cases v<;>simp only at h<;>first|(cases h;done)|skip
 case ptr id off=>
  obtain⟨ne,h1,h⟩:=ar h;obtain⟨size,h2,h⟩:=ar h;obtain⟨v,hv,h⟩:=nr h;exact⟨v,by simp only[h1,ob,h2,hv],h⟩
 case str s=>
  obtain⟨h1,h⟩:=c_ h;obtain⟨a,ha,h⟩:=dS h;obtain⟨b,hb,h⟩:=dS h;exact⟨_,by simp only[h1,ok,cond_true,xn,ha,ob,hb],h⟩
 case nilslice=>
  obtain⟨e,h1,h⟩:=ar h;obtain⟨sz,h2,h⟩:=ar h;obtain⟨h3,h⟩:=c_ h;obtain⟨a,ha,h⟩:=dS h;obtain⟨b,hb,h⟩:=dS h;obtain⟨c,hc,h⟩:=dS h;exact⟨_,by simp only[h1,ob,h2,xT,h3,ok,cond_true,ha,hb,hc],h⟩
 case slice id off len c=>
  obtain⟨e,h1,h⟩:=ar h;obtain⟨size,h2,h⟩:=ar h;simp only[h1,ob,h2];unfold zU at h;unfold n9;cases c with
  | known c=>exact nr h
  | rest k=>
    cases mx with
    | none=>
      obtain⟨a,ha,h⟩:=dS h;obtain⟨b,hb,h⟩:=dS h;obtain⟨v,hv,h⟩:=w9 h;exact⟨v,by simp only[sH,ha,ob,hb,hv],h⟩
    | some mx=>
      obtain⟨h3,h⟩:=c_ h;obtain⟨a,ha,h⟩:=qN h;obtain⟨b,hb,h⟩:=dS h;obtain⟨c,hc,h⟩:=dS h;exact⟨_,by simp only[na,h3,ok,cond_true,ha,ob,hb,hc,js],nW h⟩
def GD:List AV->List AV->List AV
 | cs,[]=>cs
 | [],_::_=>[]
 | _::cs,v::vs=>v::GD cs vs
def Ka:List AV->Nat->List AV->List AV
 | cs,0,vs=>GD cs vs
 | [],_+1,_=>[]
 | c::cs,n+1,vs=>c::Ka cs n vs
theorem Cy:∀{cs vs:List AV},vs.length<=cs.length->vu cs vs=some (GD cs vs)
 | cs,[],_=>by cases cs<;>rfl
 | [],v::vs,h=>by simp at h
 | c::cs,v::vs,h=>by simp only[vu,Cy (cs:=cs) (vs:=vs) (by simpa using h),ob,GD]
theorem F3:∀{cs:List AV} {n:Nat} {vs:List AV},n+vs.length<=cs.length->xV cs n vs=some (Ka cs n vs)
 | cs,0,vs,h=>by rw[xV.eq_def,Ka.eq_def];exact Cy (by omega)
 | [],n+1,vs,h=>by simp at h
 | c::cs,n+1,vs,h=>by simp only[xV,F3 (cs:=cs) (n:=n) (vs:=vs) (by simp at h;omega),ob,Ka]
def Np(off:Nat)(vs:List AV)(x:aE)(K:aE->Tr R):Tr R:=match x with
 | .cells cs true g=>fI (Nat.ble (off+vs.length) cs.length) (K (.cells (Ka cs off vs) true g))
 | _=>.fail
theorem Ck{vs:List AV}{x:aE}{K:aE->Tr R}{s:R}(h:(Np off vs x K).run=some s):∃y,A8 off vs x=some y/\(K y).run=some s:=by
 unfold Np at h;split at h
 . obtain⟨h1,h⟩:=bE h;rw[bv]at h1;exact⟨_,by simp only[A8,F3 h1,ob],h⟩
 . cases h
def FF(cs:List AV)(off n:Nat)(K:List AV->Tr R):Tr R:=fI (Nat.ble (off+n) cs.length) (K ((cs.drop off).take n))
theorem sA{n:Nat}{K:List AV->Tr R}{s:R}(h:(FF cs off n K).run=some s):∃vs,jW cs off n=some vs/\(K vs).run=some s:=by
 obtain⟨h1,h⟩:=bE h;rw[bv]at h1;exact⟨_,by rw[jW,gb (by simp;omega)];rfl,h⟩
def RF:AV->Bool
 | .int .u8 n=>ab 0 n&&ab n 255
 | _=>false
def Nt(v:AV):UInt8:=UInt8.ofNat (bC v).toNat
theorem Ie{v:AV}(h:RF v):wG v=some (Nt v):=by
 unfold RF at h;split at h
 . rename_i n;rw[Bool.and_eq_true,ea,ea]at h;simp only[decide_eq_true_eq]at h;obtain⟨j,rfl⟩:∃j:Nat,n=Int.ofNat j:=⟨n.toNat,(Int.toNat_of_nonneg h.1).symm⟩;have:j<256:=by have:=h.2;simp only[Int.ofNat_eq_natCast]at this;omega
   simp only[wG,aS.2 this,ok,cond_true,Nt,bC];rfl
 . cases h
def F7:List AV->Bool
 | []=>true
 | v::vs=>RF v&&F7 vs
theorem yG:∀{vs:List AV},F7 vs->lY vs=some (vs.map Nt)
 | [],_=>rfl
 | v::vs,h=>by
   rw[F7,Bool.and_eq_true]at h;simp only[lY,Ie h.1,ob,yG h.2,List.map_cons]
end
abbrev qZ(R:Type):Type:=fb->bg->(Operand->Option AV)->aC->(AV×aC->Tr R)->Tr R
section
variable{R:Type}
def RK(op:BinOp)(t:TypeId)(x y:Operand):qZ R:=λP C ρ o K=>aU (ρ x) λa=>aU (ρ y) λb=>KA P op t x y a b λv=>K (v,o)
def TX(op:UnOp)(x:Operand):qZ R:=λP C ρ o K=>aU (ρ x) λa=>P6 op a λv=>K (v,o)
def Mh(c a b:Operand):qZ R:=λP C ρ o K=>aU (ρ c) λcv=>KH (ρ a) (ρ b) cv λv=>K (v,o)
def OX(P:fb)(C:bg)(o:aC)(src dst:TypeId)(v:AV)(K:AV×aC->Tr R):Tr R:=match v with
 | .int _ n=>bif (P.und src).isSome then(match P.und dst with
   | some (.int k)=>mU k n λv=>K (v,o)
   | d=>aU (gP o (wv n d)) K)else .fail
 | .str s=>bif yY (P.und src)then(match P.und dst with
   | some .string=>K (.str s,o)
   | some (.slice e)=>fI (mP (P.und e)&&Nat.ble s.length 1000000) (K (.slice (o.next C) 0 s.length (.rest 0),o.push (.cells (s.map jt) false none)))
   | _=>.fail)else .fail
 | .slice id off len _=>aU (CY (P.und src)) λe=>bif mP (P.und e)&&yY (P.und dst)then aU (cellsOf (get C o id)) λcs=>FF cs off len λbs=>fI (F7 bs) (K (.str (bs.map Nt),o))else .fail
 | v=>aU (jr P C o src dst v) K
def D9(src dst:TypeId)(x:Operand):qZ R:=λP C ρ o K=>aU (ρ x) λv=>OX P C o src dst v K
def FE(P:fb)(t:TypeId)(n:Nat)(v:AV)(K:AV->Tr R):Tr R:=match v with
 | .agg cs=>aU (BR P t) λne=>fI (aW n ne.1) (aU (gO P ne.2) λsz=>IL P ne.2 cs (n*sz) K)
 | .str s=>bif za P t then fI (aW n s.length) (K (jt (s.getD n 0)))else .fail
 | _=>.fail
def Kn(t:TypeId)(x ix:Operand):qZ R:=λP C ρ o K=>aU (ρ x) λv=>aU (ρ ix) λi=>JH i λn=>FE P t n v λr=>K (r,o)
def vC(P:fb)(t:TypeId)(n:Nat)(v:AV)(K:AV->Tr R):Tr R:=match v with
 | .ptr id off=>aU (BR P t) λne=>fI (aW n ne.1) (aU (gO P ne.2) λsz=>K (.ptr id (off+n*sz)))
 | .slice id off len _=>aU (kx P t) λe=>fI (aW n len) (aU (gO P e) λsz=>K (.ptr id (off+n*sz)))
 | _=>.fail
def Bo(t:TypeId)(x ix:Operand):qZ R:=λP C ρ o K=>aU (ρ x) λv=>aU (ρ ix) λi=>JH i λn=>vC P t n v λr=>K (r,o)
def Kx(t:TypeId)(x:Operand)(lo hi mx:Option Operand):qZ R:=λP C ρ o K=>
 aU (ρ x) λv=>aU (xU ρ lo) λl=>aU (xU ρ hi) λh=>aU (xU ρ mx) λm=>w8 P t l h m v λr=>K (r,o)
def BE(t:TypeId)(l c:Operand):qZ R:=λP C ρ o K=>aU (ρ l) λlv=>aU (ρ c) λcv=>
 aU (kx P t) λelem=>aU (gO P elem) λn=>aU (kW P elem) λz=>L7 10000 cv λcn=>L7 cn lv λln=>
  bif Nat.beq (bU z).length n&&aW 0 n&&Nat.ble n 10000&&tj P elem&&ff (bU z)then K (.slice (o.next C) 0 ln (.known cn),o.push (.cells (m6 (bU z) cn) true none))else .fail
def N0(t:TypeId)(a:Operand):qZ R:=λP C ρ o K=>aU (ρ a) λp=>match p with
 | .ptr id off=>aU (cellsOf (get C o id)) λcs=>IL P t cs off λv=>K (v,o)
 | _=>.fail
def IX(t:TypeId)(a x:Operand):qZ R:=λP C ρ o K=>aU (ρ a) λp=>aU (ρ x) λv=>match p with
 | .ptr id off=>aU (gO P t) λn=>bif Nat.beq (bU v).length n&&ff (bU v)then aU (dW C o id) λx=>Np off (bU v) x λx'=>K (bo,eF C o id x')else .fail
 | _=>.fail
def CR(C:bg)(o:aC)(id:Nat)(x:aE)(K:AV×aC->Tr R):Tr R:=match x with
 | .siter s pos=>.test (aW pos s.length) λb=>bif b then K (.tuple [.bool true,.int .i64 (.ofNat pos),.int .i32 (.ofNat (Utf8.decode ⟨⟨s⟩⟩ pos).1)],eF C o id (.siter s (pos+(Utf8.decode ⟨⟨s⟩⟩ pos).2)))else K (.tuple [.bool false],o)
 | _=>.fail
def Nb(it:Operand)(st:Bool):qZ R:=λP C ρ o K=>bif st then aU (ρ it) λv=>match v with
 | .ptr id off=>bif Nat.beq off 0 then aU (dW C o id) λx=>CR C o id x K else .fail
 | _=>.fail
 else .fail
def KB(k:AV):List (AV×AV)->(Option AV->Tr R)->Tr R
 | [],K=>K none
 | e::es,K=>aU (x9 k e.1) λr=>.test r λb=>bif b then K (some e.2)else KB k es K
def G_(t:TypeId)(x ix:Operand)(okv:Bool):qZ R:=λP C ρ o K=>aU (ρ x) λm=>aU (ρ ix) λk=>aU (Hy (P.und t)) λke=>bif rv k (P.und ke.1)then(match m with
 | .map id=>aU (lP (get C o id)) λes=>KB k es λr=>match r with
   | some v=>K (oK okv v true,o)
   | none=>aU (kW P ke.2) λz=>K (oK okv z false,o)
 | _=>.fail)else .fail
def E9(op:Op):qZ R:=λP C ρ o K=>aU (gT op P C ρ o) K
def Ea:Op->qZ R
 | .pick c a b=>Mh c a b
 | .binOp op t x y _=>RK op t x y
 | .unOp op _ x=>TX op x
 | .convert src dst x=>D9 src dst x
 | .makeSlice t l c=>BE t l c
 | .slice t x lo hi mx=>Kx t x lo hi mx
 | .indexAddr t x ix=>Bo t x ix
 | .index t x ix=>Kn t x ix
 | .load t a=>N0 t a
 | .store t a x=>IX t a x
 | .next it s=>Nb it s
 | .lookup t x ix okv=>G_ t x ix okv
 | op=>E9 op
theorem jj{x:Option AV}{v:AV}(h:x=some v):gP o x=some (v,o):=by rw[h];rfl
theorem zg{k:AV}:∀{es:List (AV×AV)} {K:Option AV->Tr R} {s:R},(KB k es K).run=some s->∃r,pY k es=some r/\(K r).run=some s
 | [],K,s,h=>⟨none,rfl,h⟩
 | e::es,K,s,h=>by
   obtain⟨r,hr,h⟩:=ar h;simp only[Tr.run]at h;simp only[pY,hr,ob];cases r with
   | true=>exact⟨_,rfl,h⟩
   | false=>exact zg h
theorem Na{op:Op}{P:fb}{C:bg}{ρ:Operand->Option AV}{K:AV×aC->Tr R}{s:R}(h:(Ea op P C ρ o K).run=some s):∃r,Do P C ρ o op=some r/\(K r).run=some s:=by
 unfold Do;cases op<;>simp only[Ea,E9]at h<;>first|exact ar h|skip
 case pick c a b=>
  obtain⟨cv,hc,h⟩:=ar h;obtain⟨v,hv,h⟩:=G2 h;exact⟨_,by simp only[gT,xM];exact jj (ai.2 ⟨cv,hc,hv⟩),h⟩
 case binOp op t x y e=>
  obtain⟨a,ha,h⟩:=ar h;obtain⟨b,hb,h⟩:=ar h;obtain⟨v,hv,h⟩:=HG P h;exact⟨_,by simp only[gT,CC];exact jj (ai.2 ⟨a,ha,ai.2 ⟨b,hb,hv⟩⟩),h⟩
 case unOp op t x=>
  obtain⟨a,ha,h⟩:=ar h;obtain⟨v,hv,h⟩:=I_ h;exact⟨_,by simp only[gT,IO];exact jj (ai.2 ⟨a,ha,hv⟩),h⟩
 case convert src dst x=>
  obtain⟨v,hv,h⟩:=ar h;simp only[gT,ij,hv,ob];unfold OX at h;cases v<;>simp only at h<;>first|exact ar h|skip
  case int k n=>
   obtain⟨h1,h⟩:=c_ h;simp only[jr,h1];split at h
   . rename_i k hk;rw[hk];obtain⟨v,h2,h3⟩:=qn h;exact⟨_,by simp only[ok,cond_true];exact jj h2,h3⟩
   . obtain⟨r,h2,h3⟩:=ar h;exact⟨r,by simpa only[ok,cond_true]using h2,h3⟩
  case str str=>
   obtain⟨h1,h⟩:=c_ h;simp only[jr,h1,ok,cond_true];split at h
   . rename_i hk;rw[hk];exact⟨_,rfl,h⟩
   . rename_i e hk;obtain⟨h2,h⟩:=bE h;rw[hk];exact⟨_,by simp only[oM,h2,ok,cond_true],h⟩
   . cases h
  case slice id off len c=>
   obtain⟨e,he,h⟩:=ar h;obtain⟨h1,h⟩:=c_ h;obtain⟨cs,hc,h⟩:=ar h;obtain⟨bs,hb,h⟩:=sA h;obtain⟨h2,h⟩:=bE h;exact⟨_,by simp only[jr,pD,he,ob,h1,ok,cond_true,mc,hc,hb,yG h2,gP],h⟩
 case makeSlice t l c=>
  obtain⟨lv,hl,h⟩:=ar h;obtain⟨cv,hc,h⟩:=ar h;obtain⟨e,he,h⟩:=ar h;obtain⟨n,hn,h⟩:=ar h;obtain⟨z,hz,h⟩:=ar h;obtain⟨cn,h1,h⟩:=qN h;obtain⟨ln,h2,h⟩:=qN h;obtain⟨h3,h⟩:=c_ h;exact⟨_,by simp only[gT,hZ,hl,hc,ob,mW,he,hn,hz,h1,h2,h3,ok,cond_true],h⟩
 case slice t x lo hi mx=>
  obtain⟨v,hv,h⟩:=ar h;obtain⟨l,hl,h⟩:=ar h;obtain⟨hh,hhe,h⟩:=ar h;obtain⟨m,hm,h⟩:=ar h;obtain⟨r,hr,h⟩:=Ay P h;exact⟨_,by simp only[gT,qW,hv,hl,hhe,hm,ob];exact jj hr,h⟩
 case indexAddr t x ix=>
  obtain⟨v,hv,h⟩:=ar h;obtain⟨i,hi,h⟩:=ar h;obtain⟨n,hn,h⟩:=wE h;simp only[gT,jz,hv,hi,ob,hn];unfold vC at h;cases v<;>simp only at h<;>first|(cases h;done)|skip
  . obtain⟨ne,h1,h⟩:=ar h;obtain⟨h2,h⟩:=bE h;obtain⟨sz,h3,h⟩:=ar h;exact⟨_,jj (by simp only[ky,h1,ob,h2,ok,cond_true,h3]),h⟩
  . obtain⟨ne,h1,h⟩:=ar h;obtain⟨h2,h⟩:=bE h;obtain⟨sz,h3,h⟩:=ar h;exact⟨_,jj (by simp only[ky,h1,ob,h2,ok,cond_true,h3]),h⟩
 case index t x ix=>
  obtain⟨v,hv,h⟩:=ar h;obtain⟨i,hi,h⟩:=ar h;obtain⟨n,hn,h⟩:=wE h;simp only[gT,qG,hv,hi,ob,hn];unfold FE at h;cases v<;>simp only at h<;>first|(cases h;done)|skip
  . rename_i str;obtain⟨h1,h⟩:=c_ h;obtain⟨h2,h⟩:=bE h;rw[aS]at h2;refine⟨_,jj ?_,h⟩;simp only[wU,h1,ok,cond_true];rw[List.getD_eq_getElem?_getD,List.getElem?_eq_getElem h2];rfl
  . obtain⟨ne,h1,h⟩:=ar h;obtain⟨h2,h⟩:=bE h;obtain⟨sz,h3,h⟩:=ar h;obtain⟨r,h4,h⟩:=Ae P h;exact⟨_,jj (by simp only[wU,h1,ob,h2,ok,cond_true,h3,h4]),h⟩
 case load t a=>
  obtain⟨p,hp,h⟩:=ar h;cases p<;>simp only at h<;>first|(cases h;done)|skip
  obtain⟨cs,hc,h⟩:=ar h;obtain⟨v,hv,h⟩:=Ae P h;exact⟨_,by simp only[gT,th,hp,ob,rJ,hc];exact jj hv,h⟩
 case store t a x=>
  obtain⟨p,hp,h⟩:=ar h;obtain⟨v,hv,h⟩:=ar h;cases p<;>simp only at h<;>first|(cases h;done)|skip
  obtain⟨n,hn,h⟩:=ar h;obtain⟨h1,h⟩:=c_ h;obtain⟨y,hy,h⟩:=ar h;obtain⟨z,hz,h⟩:=Ck h;exact⟨_,by simp only[gT,oY,hp,hv,ob,yz,hn,h1,ok,cond_true,ly,hy,hz],h⟩
 case next it st=>
  obtain⟨h1,h⟩:=c_ h;obtain⟨v,hv,h⟩:=ar h;cases v<;>simp only at h<;>first|(cases h;done)|skip
  obtain⟨h2,h⟩:=c_ h;rw[cO]at h2;subst h2;obtain⟨x,hx,h⟩:=ar h;unfold CR at h;split at h
  . rename_i str pos;simp only[Tr.run]at h;have hd:∀n,Hs .i32 .ofNat n=.int .i32 (.ofNat n):=λn=>by cases n<;>rfl
    have hg:goInt pos=.int .i64 (.ofNat pos):=by cases pos<;>rfl
    cases hb:aW pos str.length with
    | true=>
      rw[hb,cond_true]at h;exact⟨_,by simp only[gT,qd,h1,ok,cond_true,hv,ob,B7,hx,rS,CM,hb,hd,hg],h⟩
    | false=>
      rw[hb,cond_false]at h;exact⟨_,by simp only[gT,qd,h1,ok,cond_true,hv,ob,B7,hx,rS,CM,hb,cond_false],h⟩
  . cases h
 case lookup t x ix okv=>
  obtain⟨mv,hm,h⟩:=ar h;obtain⟨k,hk,h⟩:=ar h;obtain⟨ke,hke,h⟩:=ar h;obtain⟨h1,h⟩:=c_ h;cases mv<;>simp only at h<;>first|(cases h;done)|skip
  obtain⟨es,he,h⟩:=ar h;obtain⟨r,hr,h⟩:=zg h;simp only[gT,nV,hm,hk,ob,BX,hke,h1,ok,cond_true,rQ,he,hr];cases r with
  | some v=>exact⟨_,rfl,h⟩
  | none=>
    obtain⟨z,hz,h⟩:=ar h;exact⟨_,by simp only[hz,gP,ob],h⟩
end
end Go.Ev
