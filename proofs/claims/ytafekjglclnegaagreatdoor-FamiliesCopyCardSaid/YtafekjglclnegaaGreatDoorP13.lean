import Derived.Test.YtafekjglclnegaaGreatDoorP12
set_option linter.all false
namespace Go.Ev
open Go
section
variable(P:eA)
def lx(cmp:TypeId->AV->AV->Option Bool)(xs ys:List AV):List Field->Option Bool
 | []=>some true
 | f::fs=>ok (!(f.name == "_")) (ob (gN P f.type xs f.offset) λa=>ob (gN P f.type ys f.offset) λb=>ob (cmp f.type a b) λr=>ob (lx cmp xs ys fs) λq=>some (r&&q))
def oi(cmp:AV->AV->Option Bool)(elem:TypeId)(n:Nat)(xs ys:List AV)(i:Nat):Nat->Option Bool
 | 0=>some true
 | k+1=>ob (gN P elem xs (i*n)) λa=>ob (gN P elem ys (i*n)) λb=>ob (cmp a b) λr=>ob (oi cmp elem n xs ys (i+1) k) λq=>some (r&&q)
def AM(cmp:TypeId->AV->AV->Option Bool)(t:TypeId)(xs ys:List AV):Option TypeDesc->Option Bool
 | some (.struct fields)=>ob (P.ty.get t) λe=>ok (!e.stood) (lx P cmp xs ys fields.toList)
 | some (.array len elem)=>ob (fx P elem) λn=>oi P (cmp elem) elem n xs ys 0 len
 | _=>none
def Fz(cmp:TypeId->AV->AV->Option Bool)(t:TypeId)(xs:List AV):AV->Option Bool
 | .agg ys=>AM P cmp t xs ys (P.und t)
 | _=>none
def TA(cmp:TypeId->AV->AV->Option Bool)(t:TypeId)(x y:AV):Option Bool:=match x with
 | .bool a=>wq P t a y
 | .int k a=>Ad P t k a y
 | .str a=>zr P t a y
 | .agg xs=>Fz P cmp t xs y
 | .iface a u=>lh P cmp t a u y
 | x=>yr (P.und t) x y
def Oo:Nat->TypeId->AV->AV->Option Bool
 | 0,_,_,_=>none
 | d+1,t,x,y=>TA P (Oo d) t x y
theorem nT{c c':TypeId->AV->AV->Option Bool}(hc:∀t a b r,c t a b=some r->c' t a b=some r){xs ys:List AV}:∀{fs:List Field} {r:Bool},lx P c xs ys fs=some r->gU P c' xs ys fs=some r
 | [],r,h=>h
 | f::fs,r,h=>by
   simp only[lx,ay,ag,Option.some.injEq]at h
   obtain⟨h0,a,ha,b,hb,q,hq,q',hq',rfl⟩:=h
   have:=nT hc hq'
   simp only[gU,ay,ag]
   refine⟨h0,a,ha,b,hb,q,hc _ _ _ _ hq,?_⟩
   cases q<;>simp[this]
theorem p4{c c':AV->AV->Option Bool}(hc:∀a b r,c a b=some r->c' a b=some r){elem:TypeId}{n:Nat}{xs ys:List AV}:∀{k i:Nat} {r:Bool},oi P c elem n xs ys i k=some r->iP P c' elem n xs ys i k=some r
 | 0,i,r,h=>h
 | k+1,i,r,h=>by
   simp only[oi,ag,Option.some.injEq]at h
   obtain⟨a,ha,b,hb,q,hq,q',hq',rfl⟩:=h
   have:=p4 hc hq'
   simp only[iP,ag]
   refine⟨a,ha,b,hb,q,hc _ _ _ hq,?_⟩
   cases q<;>simp[this]
theorem Ao:∀{d:Nat} {t:TypeId} {x y:AV} {r:Bool},Oo P d t x y=some r->Ip P d t x y=some r
 | 0,t,x,y,r,h=>by cases h
 | d+1,t,x,y,r,h=>by
   have ih:∀t a b r,Oo P d t a b=some r->Ip P d t a b=some r:=λt a b r=>Ao
   unfold Oo TA at h
   unfold Ip G4
   cases x<;>simp only at h ⊢<;>first|exact h|skip
   · rename_i a u
     unfold lh at h ⊢
     cases y<;>simp only at h ⊢<;>first|exact h|skip
     simp only[ay]at h ⊢
     refine⟨h.1,?_⟩
     have h2:=h.2
     cases hb:Nat.beq a _<;>rw[hb]at h2<;>simp only[cond_true,cond_false,ag,ay]at h2 ⊢
     · exact h2
     · grind
   · unfold Fz at h
     unfold zN
     cases y<;>simp only[reduceCtorEq]at h ⊢
     generalize P.und t=dd at h ⊢
     unfold AM at h
     unfold xi
     split at h
     · simp only[ag,ay]at h ⊢
       obtain⟨e,he,hs,h⟩:=h
       exact⟨e,he,hs,nT P ih h⟩
     · simp only[ag]at h ⊢
       obtain⟨n,hn,h⟩:=h
       exact⟨n,hn,p4 P (ih _) h⟩
     · cases h
variable{R:Type}
def Fy(op:BinOp)(t:TypeId)(xo yo:Operand)(x y:AV)(K:AV->Tr R):Tr R:=match x with
 | .int k a=>Ft op k a y K
 | .str a=>Fk op a y K
 | x=>aV (yq op (ok (ip P t xo yo x y) (Oo P 100 t x y))) K
theorem BX{op:BinOp}{t:TypeId}{xo yo:Operand}{x y:AV}{K:AV->Tr R}{s:R}(h:(Fy P op t xo yo x y K).run=some s):∃v,EF P op t xo yo x y=some v/\(K v).run=some s:=by
 have other:∀{x:AV},(aV (yq op (ok (ip P t xo yo x y) (Oo P 100 t x y))) K).run=some s->∃v,yq op (ok (ip P t xo yo x y) (Ip P 100 t x y))=some v/\(K v).run=some s:=λh=>by
  obtain⟨v,hv,hk⟩:=au h
  refine⟨v,?_,hk⟩
  unfold yq at hv ⊢
  split at hv<;>simp only[ag,ay,reduceCtorEq]at hv ⊢
  · obtain⟨b,⟨hg,he⟩,hb⟩:=hv;exact⟨b,⟨hg,Ao P he⟩,hb⟩
  · obtain⟨b,⟨hg,he⟩,hb⟩:=hv;exact⟨b,⟨hg,Ao P he⟩,hb⟩
 unfold Fy at h
 unfold EF
 cases x<;>simp only at h ⊢<;>first|exact BT h|exact Cg h|exact other h
def Mk(op:UnOp)(x:AV)(K:AV->Tr R):Tr R:=match x with
 | .int k n=>match op with
   | .neg=>ki k (Int.sub 0 n) K
   | op=>aV (Th op (.int k n)) K
 | .bool b=>match op with
   | .not=>K (.bool !b)
   | _=>.fail
 | _=>.fail
theorem FG{op:UnOp}{x:AV}{K:AV->Tr R}{s:R}(h:(Mk op x K).run=some s):∃v,Th op x=some v/\(K v).run=some s:=by
 unfold Mk at h
 cases x<;>simp only at h<;>first|(cases h;done)|skip
 · cases op<;>simp only at h<;>first|(cases h;done)|exact⟨_,rfl,h⟩
 · cases op<;>simp only at h<;>first|exact au h|skip
   exact np h
def Dc(a b:Option AV)(c:AV)(K:AV->Tr R):Tr R:=match c with
 | .bool d=>.test d λe=>aV (bif e then a else b) K
 | _=>.fail
theorem Ch{a b:Option AV}{c:AV}{K:AV->Tr R}{s:R}(h:(Dc a b c K).run=some s):∃v,AE a b c=some v/\(K v).run=some s:=by
 unfold Dc at h
 cases c<;>simp only at h<;>first|(cases h;done)|skip
 rename_i d
 simp only[Tr.run]at h
 cases d<;>exact au h
def bM(k:IntKind):AV->Bool
 | .int k' _=>hU k' k
 | _=>false
def bL:AV->Int
 | .int _ n=>n
 | _=>0
def NA:AV->Bool
 | .bool _=>true
 | _=>false
def DM:AV->Bool
 | .bool b=>b
 | _=>false
def xR:AV->Bool
 | .str _=>true
 | _=>false
def yU:AV->List UInt8
 | .str s=>s
 | _=>[]
theorem B6{k:IntKind}{v:AV}(h:bM k v=true):v=.int k (bL v):=by
 cases v<;>simp only[bM,Bool.false_eq_true]at h
 rw[gi]at h
 rw[h];rfl
theorem Ca{v:AV}(h:NA v=true):v=.bool (DM v):=by cases v<;>simp only[NA,Bool.false_eq_true]at h;rfl
theorem C3{v:AV}(h:xR v=true):v=.str (yU v):=by cases v<;>simp only[xR,Bool.false_eq_true]at h;rfl
theorem getD_some{cs:List AV}{i:Nat}{v:AV}(h:cs.getD i bj=v)(hv:v≠bj):cs[i]? = some v:=by
 grind
def BA(z:AV)(cs:List AV)(off:Nat)(K:AV->Tr R):Tr R:=match z with
 | .int k _=>eh (bM k (cs.getD off bj)) (K (.int k (bL (cs.getD off bj))))
 | .bool _=>eh (NA (cs.getD off bj)) (K (.bool (DM (cs.getD off bj))))
 | .str _=>eh (xR (cs.getD off bj)) (K (.str (yU (cs.getD off bj))))
 | _=>.pickN off λj=>aV cs[j]? K
theorem vP{z:AV}{cs:List AV}{off:Nat}{K:AV->Tr R}{s:R}(h:(BA z cs off K).run=some s):∃v,cs[off]? = some v/\(K v).run=some s:=by
 have other:(Tr.pickN off λj=>aV cs[j]? K).run=some s->∃v,cs[off]? = some v/\(K v).run=some s:=λh=>au h
 unfold BA at h
 cases z<;>simp only at h<;>first|exact other h|skip
 · obtain⟨h1,h2⟩:=bu h
   exact⟨_,getD_some (Ca h1) (by simp[bj]),h2⟩
 · obtain⟨h1,h2⟩:=bu h
   exact⟨_,getD_some (B6 h1) (by simp[bj]),h2⟩
 · obtain⟨h1,h2⟩:=bu h
   exact⟨_,getD_some (C3 h1) (by simp[bj]),h2⟩
def Av(cs:List AV):List AV->Nat->(List AV->Tr R)->Tr R
 | [],_,K=>K []
 | z::zs,off,K=>BA z cs off λv=>Av cs zs (off+1) λvs=>K (v::vs)
theorem qN{cs:List AV}:∀{zs:List AV} {off:Nat} {K:List AV->Tr R} {s:R},(Av cs zs off K).run=some s->∃vs,vs.length=zs.length/\(∀i,i<zs.length->cs[off+i]? = vs[i]?)/\(K vs).run=some s
 | [],off,K,s,h=>⟨[],rfl,λi hi=>absurd hi (Nat.not_lt_zero i),h⟩
 | z::zs,off,K,s,h=>by
   obtain⟨v,hv,h⟩:=vP h
   obtain⟨vs,h1,h2,h⟩:=qN h
   refine⟨v::vs,by simp[h1],λi hi=>?_,h⟩
   cases i with
   | zero=>exact hv
   | succ i=>
     grind
theorem Em{cs vs:List AV}{off n:Nat}(h1:vs.length=n)(h2:∀i,i<n->cs[off+i]? = vs[i]?):iv cs off n=some vs:=by
 have e:(cs.drop off).take n=vs:=by
  apply List.ext_getElem?
  intro i
  rw[List.getElem?_take]
  split
  · grind
  · grind
 rw[iv,e,dI h1];rfl
def Fc(t:TypeId)(cs:List AV)(off:Nat)(K:AV->Tr R):Tr R:=
 aV (P.und t) λd=>bif rt (some d)then aV (fx P t) λn=>aV (jh P t) λz=>bif Nat.beq (bP z).length n then Av cs (bP z) off λvs=>K (.agg vs)else .fail
  else aV (jh P t) λz=>BA z cs off K
theorem vn{t:TypeId}{cs:List AV}{off:Nat}{K:AV->Tr R}{s:R}(h:(Fc P t cs off K).run=some s):∃v,gN P t cs off=some v/\(K v).run=some s:=by
 obtain⟨d,hd,h⟩:=au h
 unfold gN
 simp only[hd,ob]
 cases ha:rt (some d)with
 | true=>
   rw[ha,cond_true]at h
   rw[cond_true]
   obtain⟨n,hn,h⟩:=au h
   obtain⟨z,hz,h⟩:=au h
   obtain⟨hl,h⟩:=cW h
   rw[cK]at hl
   obtain⟨vs,h1,h2,h⟩:=qN h
   exact⟨_,by simp only[hn,Em (h1.trans hl) λi hi=>h2 i (by omega)],h⟩
 | false=>
   rw[ha,cond_false]at h
   rw[cond_false]
   obtain⟨z,hz,h⟩:=au h
   exact vP h
def FY(i:AV)(K:Nat->Tr R):Tr R:=match i with
 | .int _ n=>eh (ab 0 n) (K n.toNat)
 | _=>.fail
theorem sQ{i:AV}{K:Nat->Tr R}{s:R}(h:(FY i K).run=some s):∃n,CN i=some n/\(K n).run=some s:=by
 unfold FY at h
 cases i<;>simp only at h<;>first|(cases h;done)|skip
 rename_i k n
 obtain⟨h1,h2⟩:=bu h
 have hn:0<=n:=by rw[eV]at h1;simpa using h1
 refine⟨_,?_,h2⟩
 obtain⟨j,rfl⟩:∃j:Nat,n=Int.ofNat j:=⟨n.toNat,(Int.toNat_of_nonneg hn).symm⟩
 rfl
def Gc(hi:Nat)(v:AV)(K:Nat->Tr R):Tr R:=FY v λn=>eh (Nat.ble n hi) (K n)
theorem oG{hi:Nat}{v:AV}{K:Nat->Tr R}{s:R}(h:(Gc hi v K).run=some s):∃n,tE hi v=some n/\(K n).run=some s:=by
 obtain⟨n,h1,h⟩:=sQ h
 obtain⟨h2,h⟩:=bu h
 refine⟨n,?_,h⟩
 unfold CN at h1
 split at h1
 · cases h1;simp only[tE,h2,ok,cond_true]
 · cases h1
def gW(most dflt:Nat)(v:Option AV)(K:Nat->Tr R):Tr R:=match v with
 | none=>K dflt
 | some v=>Gc most v K
theorem dJ{most dflt:Nat}{v:Option AV}{K:Nat->Tr R}{s:R}(h:(gW most dflt v K).run=some s):∃n,dK most dflt v=some n/\(K n).run=some s:=by
 cases v with
 | none=>exact⟨dflt,rfl,h⟩
 | some v=>exact oG h
def w5{α:Type}(b:Bool)(x y:α)(K:α->Tr R):Tr R:=.test b λd=>bif d then K x else K y
theorem kL{α:Type}{b:Bool}{x y:α}{K:α->Tr R}{s:R}(h:(w5 b x y K).run=some s):(K (bif b then x else y)).run=some s:=by
 cases b<;>exact h
def tK(id off size m h l:Nat)(K:AV->Tr R):Tr R:=w5 (Nat.beq m l) (AV.slice id off (h-l) (.known (m-l))) (.slice id (off+l*size) (h-l) (.known (m-l))) K
def CW(s:List UInt8)(lo hi:Option AV)(K:AV->Tr R):Tr R:=gW s.length s.length hi λh=>gW h 0 lo λl=>K (.str ((s.take h).drop l))
def lk(size id off len c:Nat)(lo hi max:Option AV)(K:AV->Tr R):Tr R:=
 bif max.isNone || hi.isSome then gW c c max λm=>gW m len hi λh=>gW h 0 lo λl=>tK id off size m h l K else .fail
theorem ks{size id off len c:Nat}{lo hi max:Option AV}{K:AV->Tr R}{s:R}(h:(lk size id off len c lo hi max K).run=some s):∃v,gQ size id off len c lo hi max=some v/\(K v).run=some s:=by
 obtain⟨h0,h⟩:=cW h
 obtain⟨m,hm,h⟩:=dJ h
 obtain⟨h',hh,h⟩:=dJ h
 obtain⟨l,hl,h⟩:=dJ h
 exact⟨_,by simp only[gQ,h0,ok,cond_true,hm,ob,hh,hl,hN],kL h⟩
def mT(size id off k h l:Nat)(K:AV->Tr R):Tr R:=.test (Nat.beq l 0) λb=>bif b then K (.slice id off h (.rest k))else eh (bm l h) (K (.slice id (off+l*size) (h-l) (.rest (k+l))))
theorem sr{size id off k h' l:Nat}{K:AV->Tr R}{s:R}(h:(mT size id off k h' l K).run=some s):∃v,mc size id off k h' l=some v/\(K v).run=some s:=by
 unfold mT at h
 unfold mc
 simp only[Tr.run]at h
 cases hb:Nat.beq l 0 with
 | true=>rw[hb]at h;exact⟨_,by simp only[cond_true],h⟩
 | false=>
   rw[hb,cond_false]at h
   obtain⟨h1,h⟩:=bu h
   exact⟨_,by simp only[cond_false,h1,ok,cond_true],h⟩
def tI(size id off len:Nat)(lo hi max:Option AV)(c:dv)(K:AV->Tr R):Tr R:=match c with
 | .known c=>lk size id off len c lo hi max K
 | .rest k=>match max with
   | none=>gW len len hi λh=>gW h 0 lo λl=>mT size id off k h l K
   | some mx=>bif hi.isSome then Gc len mx λm=>gW m len hi λh=>gW h 0 lo λl=>tK id off size m h l K else .fail
def qQ(t:TypeId)(lo hi mx:Option AV)(v:AV)(K:AV->Tr R):Tr R:=match v with
 | .ptr id off=>aV (yp P t) λne=>aV (fx P ne.2) λsize=>lk size id off ne.1 ne.1 lo hi mx K
 | .str s=>bif tt P t&&mx.isNone then CW s lo hi K else .fail
 | .nilslice=>aV (iU P t) λe=>aV (fx P e) λ_=>bif mx.isNone || hi.isSome then gW 0 0 mx λ_=>gW 0 0 hi λ_=>gW 0 0 lo λ_=>K .nilslice else .fail
 | .slice id off len c=>aV (iU P t) λe=>aV (fx P e) λsize=>tI size id off len lo hi mx c K
 | _=>.fail
theorem w7{t:TypeId}{lo hi mx:Option AV}{v:AV}{K:AV->Tr R}{s:R}(h:(qQ P t lo hi mx v K).run=some s):∃r,nA P t lo hi mx v=some r/\(K r).run=some s:=by
 unfold qQ at h
 unfold nA
 cases v<;>simp only at h<;>first|(cases h;done)|skip
 case ptr id off=>
  obtain⟨ne,h1,h⟩:=au h
  obtain⟨size,h2,h⟩:=au h
  obtain⟨v,hv,h⟩:=ks h
  exact⟨v,by simp only[h1,ob,h2,hv],h⟩
 case str s=>
  obtain⟨h1,h⟩:=cW h
  obtain⟨a,ha,h⟩:=dJ h
  obtain⟨b,hb,h⟩:=dJ h
  exact⟨_,by simp only[h1,ok,cond_true,rR,ha,ob,hb],h⟩
 case nilslice=>
  obtain⟨e,h1,h⟩:=au h
  obtain⟨sz,h2,h⟩:=au h
  obtain⟨h3,h⟩:=cW h
  obtain⟨a,ha,h⟩:=dJ h
  obtain⟨b,hb,h⟩:=dJ h
  obtain⟨c,hc,h⟩:=dJ h
  exact⟨_,by simp only[h1,ob,h2,rn,h3,ok,cond_true,ha,hb,hc],h⟩
 case slice id off len c=>
  obtain⟨e,h1,h⟩:=au h
  obtain⟨size,h2,h⟩:=au h
  simp only[h1,ob,h2]
  unfold tI at h
  unfold kY
  cases c with
  | known c=>exact ks h
  | rest k=>
    cases mx with
    | none=>
      obtain⟨a,ha,h⟩:=dJ h
      obtain⟨b,hb,h⟩:=dJ h
      obtain⟨v,hv,h⟩:=sr h
      exact⟨v,by simp only[pg,ha,ob,hb,hv],h⟩
    | some mx=>
      obtain⟨h3,h⟩:=cW h
      obtain⟨a,ha,h⟩:=oG h
      obtain⟨b,hb,h⟩:=dJ h
      obtain⟨c,hc,h⟩:=dJ h
      exact⟨_,by simp only[j5,h3,ok,cond_true,ha,ob,hb,hc,hN],kL h⟩
def vF:List AV->List AV->List AV
 | cs,[]=>cs
 | [],_::_=>[]
 | _::cs,v::vs=>v::vF cs vs
def gP:List AV->Nat->List AV->List AV
 | cs,0,vs=>vF cs vs
 | [],_+1,_=>[]
 | c::cs,n+1,vs=>c::gP cs n vs
theorem xQ:∀{cs vs:List AV},vs.length<=cs.length->qf cs vs=some (vF cs vs)
 | cs,[],_=>by cases cs<;>rfl
 | [],v::vs,h=>by simp at h
 | c::cs,v::vs,h=>by simp only[qf,xQ (cs:=cs) (vs:=vs) (by simpa using h),ob,vF]
theorem AD:∀{cs:List AV} {n:Nat} {vs:List AV},n+vs.length<=cs.length->rS cs n vs=some (gP cs n vs)
 | cs,0,vs,h=>by rw[rS.eq_def,gP.eq_def];exact xQ (by omega)
 | [],n+1,vs,h=>by simp at h
 | c::cs,n+1,vs,h=>by simp only[rS,AD (cs:=cs) (n:=n) (vs:=vs) (by simp at h;omega),ob,gP]
def G_(off:Nat)(vs:List AV)(x:aw)(K:aw->Tr R):Tr R:=match x with
 | .cells cs true g=>eh (Nat.ble (off+vs.length) cs.length) (K (.cells (gP cs off vs) true g))
 | _=>.fail
theorem yW{off:Nat}{vs:List AV}{x:aw}{K:aw->Tr R}{s:R}(h:(G_ off vs x K).run=some s):∃y,wD off vs x=some y/\(K y).run=some s:=by
 unfold G_ at h
 split at h
 · obtain⟨h1,h⟩:=bu h
   rw[bt]at h1
   exact⟨_,by simp only[wD,AD h1,ob],h⟩
 · cases h
def Bg(cs:List AV)(off n:Nat)(K:List AV->Tr R):Tr R:=eh (Nat.ble (off+n) cs.length) (K ((cs.drop off).take n))
theorem pB{cs:List AV}{off n:Nat}{K:List AV->Tr R}{s:R}(h:(Bg cs off n K).run=some s):∃vs,iv cs off n=some vs/\(K vs).run=some s:=by
 obtain⟨h1,h⟩:=bu h
 rw[bt]at h1
 exact⟨_,by rw[iv,dI (by simp;omega)];rfl,h⟩
def Mt:AV->Bool
 | .int .u8 n=>ab 0 n&&ab n 255
 | _=>false
def IS(v:AV):UInt8:=UInt8.ofNat (bL v).toNat
theorem C7{v:AV}(h:Mt v=true):rz v=some (IS v):=by
 unfold Mt at h
 split at h
 · rename_i n
   rw[Bool.and_eq_true,eV,eV]at h
   simp only[decide_eq_true_eq]at h
   obtain⟨j,rfl⟩:∃j:Nat,n=Int.ofNat j:=⟨n.toNat,(Int.toNat_of_nonneg h.1).symm⟩
   have:j<256:=by have:=h.2;simp only[Int.ofNat_eq_natCast]at this;omega
   simp only[rz,ba.2 this,ok,cond_true,IS,bL]
   rfl
 · cases h
def AH:List AV->Bool
 | []=>true
 | v::vs=>Mt v&&AH vs
theorem rU:∀{vs:List AV},AH vs=true->jJ vs=some (vs.map IS)
 | [],_=>rfl
 | v::vs,h=>by
   rw[AH,Bool.and_eq_true]at h
   simp only[jJ,C7 h.1,ob,rU h.2,List.map_cons]
end
abbrev od(R:Type):Type:=eA->bg->(Operand->Option AV)->aC->(AV×aC->Tr R)->Tr R
section
variable{R:Type}
def Nu(op:BinOp)(t:TypeId)(x y:Operand):od R:=λP C ρ o K=>aV (ρ x) λa=>aV (ρ y) λb=>Fy P op t x y a b λv=>K (v,o)
def Sn(op:UnOp)(x:Operand):od R:=λP C ρ o K=>aV (ρ x) λa=>Mk op a λv=>K (v,o)
def JB(c a b:Operand):od R:=λP C ρ o K=>aV (ρ c) λcv=>Dc (ρ a) (ρ b) cv λv=>K (v,o)
def JK(P:eA)(C:bg)(o:aC)(src dst:TypeId)(v:AV)(K:AV×aC->Tr R):Tr R:=match v with
 | .int _ n=>bif (P.und src).isSome then(match P.und dst with
   | some (.int k)=>ki k n λv=>K (v,o)
   | d=>aV (fw o (qm n d)) K)else .fail
 | .str s=>bif tB (P.und src)then(match P.und dst with
   | some .string=>K (.str s,o)
   | some (.slice e)=>eh (jV (P.und e)&&Nat.ble s.length 1000000) (K (.slice (o.next C) 0 s.length (.rest 0),o.push (.cells (s.map hH) false none)))
   | _=>.fail)else .fail
 | .slice id off len _=>aV (za (P.und src)) λe=>bif jV (P.und e)&&tB (P.und dst)then aV (cellsOf (get C o id)) λcs=>Bg cs off len λbs=>eh (AH bs) (K (.str (bs.map IS),o))else .fail
 | v=>aV (ig P C o src dst v) K
def zn(src dst:TypeId)(x:Operand):od R:=λP C ρ o K=>aV (ρ x) λv=>JK P C o src dst v K
def A_(P:eA)(t:TypeId)(n:Nat)(v:AV)(K:AV->Tr R):Tr R:=match v with
 | .agg cs=>aV (yp P t) λne=>eh (bm n ne.1) (aV (fx P ne.2) λsz=>Fc P ne.2 cs (n*sz) K)
 | .str s=>bif tt P t then eh (bm n s.length) (K (hH (s.getD n 0)))else .fail
 | _=>.fail
def EY(t:TypeId)(x ix:Operand):od R:=λP C ρ o K=>aV (ρ x) λv=>aV (ρ ix) λi=>FY i λn=>A_ P t n v λr=>K (r,o)
def pN(P:eA)(t:TypeId)(n:Nat)(v:AV)(K:AV->Tr R):Tr R:=match v with
 | .ptr id off=>aV (yp P t) λne=>eh (bm n ne.1) (aV (fx P ne.2) λsz=>K (.ptr id (off+n*sz)))
 | .slice id off len _=>aV (iU P t) λe=>eh (bm n len) (aV (fx P e) λsz=>K (.ptr id (off+n*sz)))
 | _=>.fail
def xg(t:TypeId)(x ix:Operand):od R:=λP C ρ o K=>aV (ρ x) λv=>aV (ρ ix) λi=>FY i λn=>pN P t n v λr=>K (r,o)
def FJ(t:TypeId)(x:Operand)(lo hi mx:Option Operand):od R:=λP C ρ o K=>
 aV (ρ x) λv=>aV (rd ρ lo) λl=>aV (rd ρ hi) λh=>aV (rd ρ mx) λm=>qQ P t l h m v λr=>K (r,o)
def wB(t:TypeId)(l c:Operand):od R:=λP C ρ o K=>aV (ρ l) λlv=>aV (ρ c) λcv=>
 aV (iU P t) λelem=>aV (fx P elem) λn=>aV (jh P elem) λz=>Gc 10000 cv λcn=>Gc cn lv λln=>
  bif Nat.beq (bP z).length n&&bm 0 n&&Nat.ble n 10000&&o9 P elem&&eF (bP z)then K (.slice (o.next C) 0 ln (.known cn),o.push (.cells (jb (bP z) cn) true none))else .fail
def Iu(t:TypeId)(a:Operand):od R:=λP C ρ o K=>aV (ρ a) λp=>match p with
 | .ptr id off=>aV (cellsOf (get C o id)) λcs=>Fc P t cs off λv=>K (v,o)
 | _=>.fail
def Ga(t:TypeId)(a x:Operand):od R:=λP C ρ o K=>aV (ρ a) λp=>aV (ρ x) λv=>match p with
 | .ptr id off=>aV (fx P t) λn=>bif Nat.beq (bP v).length n&&eF (bP v)then aV (dP C o id) λx=>G_ off (bP v) x λx'=>K (bj,dY C o id x')else .fail
 | _=>.fail
def yY(C:bg)(o:aC)(id:Nat)(x:aw)(K:AV×aC->Tr R):Tr R:=match x with
 | .siter s pos=>.test (bm pos s.length) λb=>bif b then K (.tuple [.bool true,.int .i64 (.ofNat pos),.int .i32 (.ofNat (Utf8.decode ⟨⟨s⟩⟩ pos).1)],dY C o id (.siter s (pos+(Utf8.decode ⟨⟨s⟩⟩ pos).2)))else K (.tuple [.bool false],o)
 | _=>.fail
def Hk(it:Operand)(st:Bool):od R:=λP C ρ o K=>bif st then aV (ρ it) λv=>match v with
 | .ptr id off=>bif Nat.beq off 0 then aV (dP C o id) λx=>yY C o id x K else .fail
 | _=>.fail
 else .fail
def Ex(k:AV):List (AV×AV)->(Option AV->Tr R)->Tr R
 | [],K=>K none
 | e::es,K=>aV (rJ k e.1) λr=>.test r λb=>bif b then K (some e.2)else Ex k es K
def Cp(t:TypeId)(x ix:Operand)(okv:Bool):od R:=λP C ρ o K=>aV (ρ x) λm=>aV (ρ ix) λk=>aV (Ck (P.und t)) λke=>bif nZ k (P.und ke.1)then(match m with
 | .map id=>aV (jN (get C o id)) λes=>Ex k es λr=>match r with
   | some v=>K (lS okv v true,o)
   | none=>aV (jh P ke.2) λz=>K (lS okv z false,o)
 | _=>.fail)else .fail
def A5(op:Op):od R:=λP C ρ o K=>aV (fM op P C ρ o) K
def zo:Op->od R
 | .pick c a b=>JB c a b
 | .binOp op t x y _=>Nu op t x y
 | .unOp op _ x=>Sn op x
 | .convert src dst x=>zn src dst x
 | .makeSlice t l c=>wB t l c
 | .slice t x lo hi mx=>FJ t x lo hi mx
 | .indexAddr t x ix=>xg t x ix
 | .index t x ix=>EY t x ix
 | .load t a=>Iu t a
 | .store t a x=>Ga t a x
 | .next it s=>Hk it s
 | .lookup t x ix okv=>Cp t x ix okv
 | op=>A5 op
theorem g9{o:aC}{x:Option AV}{v:AV}(h:x=some v):fw o x=some (v,o):=by rw[h];rfl
theorem vE{k:AV}:∀{es:List (AV×AV)} {K:Option AV->Tr R} {s:R},(Ex k es K).run=some s->∃r,mH k es=some r/\(K r).run=some s
 | [],K,s,h=>⟨none,rfl,h⟩
 | e::es,K,s,h=>by
   obtain⟨r,hr,h⟩:=au h
   simp only[Tr.run]at h
   simp only[mH,hr,ob]
   cases r with
   | true=>exact⟨_,rfl,h⟩
   | false=>exact vE h
theorem Ht{op:Op}{P:eA}{C:bg}{ρ:Operand->Option AV}{o:aC}{K:AV×aC->Tr R}{s:R}(h:(zo op P C ρ o K).run=some s):∃r,zg P C ρ o op=some r/\(K r).run=some s:=by
 unfold zg
 cases op<;>simp only[zo,A5]at h<;>first|exact au h|skip
 case pick c a b=>
  obtain⟨cv,hc,h⟩:=au h
  obtain⟨v,hv,h⟩:=Ch h
  exact⟨_,by simp only[fM,sf];exact g9 (ag.2 ⟨cv,hc,hv⟩),h⟩
 case binOp op t x y e=>
  obtain⟨a,ha,h⟩:=au h
  obtain⟨b,hb,h⟩:=au h
  obtain⟨v,hv,h⟩:=BX P h
  exact⟨_,by simp only[fM,x_];exact g9 (ag.2 ⟨a,ha,ag.2 ⟨b,hb,hv⟩⟩),h⟩
 case unOp op t x=>
  obtain⟨a,ha,h⟩:=au h
  obtain⟨v,hv,h⟩:=FG h
  exact⟨_,by simp only[fM,El];exact g9 (ag.2 ⟨a,ha,hv⟩),h⟩
 case convert src dst x=>
  obtain⟨v,hv,h⟩:=au h
  simp only[fM,gd,hv,ob]
  unfold JK at h
  cases v<;>simp only at h<;>first|exact au h|skip
  case int k n=>
   obtain⟨h1,h⟩:=cW h
   simp only[ig,h1]
   split at h
   · rename_i k hk
     rw[hk]
     obtain⟨v,h2,h3⟩:=np h
     exact⟨_,by simp only[ok,cond_true];exact g9 h2,h3⟩
   · obtain⟨r,h2,h3⟩:=au h
     exact⟨r,by simpa only[ok,cond_true]using h2,h3⟩
  case str str=>
   obtain⟨h1,h⟩:=cW h
   simp only[ig,h1,ok,cond_true]
   split at h
   · rename_i hk;rw[hk];exact⟨_,rfl,h⟩
   · rename_i e hk
     obtain⟨h2,h⟩:=bu h
     rw[hk]
     exact⟨_,by simp only[lH,h2,ok,cond_true],h⟩
   · cases h
  case slice id off len c=>
   obtain⟨e,he,h⟩:=au h
   obtain⟨h1,h⟩:=cW h
   obtain⟨cs,hc,h⟩:=au h
   obtain⟨bs,hb,h⟩:=pB h
   obtain⟨h2,h⟩:=bu h
   exact⟨_,by simp only[ig,lM,he,ob,h1,ok,cond_true,jG,hc,hb,rU h2,fw],h⟩
 case makeSlice t l c=>
  obtain⟨lv,hl,h⟩:=au h
  obtain⟨cv,hc,h⟩:=au h
  obtain⟨e,he,h⟩:=au h
  obtain⟨n,hn,h⟩:=au h
  obtain⟨z,hz,h⟩:=au h
  obtain⟨cn,h1,h⟩:=oG h
  obtain⟨ln,h2,h⟩:=oG h
  obtain⟨h3,h⟩:=cW h
  exact⟨_,by simp only[fM,gj,hl,hc,ob,kj,he,hn,hz,h1,h2,h3,ok,cond_true],h⟩
 case slice t x lo hi mx=>
  obtain⟨v,hv,h⟩:=au h
  obtain⟨l,hl,h⟩:=au h
  obtain⟨hh,hhe,h⟩:=au h
  obtain⟨m,hm,h⟩:=au h
  obtain⟨r,hr,h⟩:=w7 P h
  exact⟨_,by simp only[fM,nS,hv,hl,hhe,hm,ob];exact g9 hr,h⟩
 case indexAddr t x ix=>
  obtain⟨v,hv,h⟩:=au h
  obtain⟨i,hi,h⟩:=au h
  obtain⟨n,hn,h⟩:=sQ h
  simp only[fM,ie,hv,hi,ob,hn]
  unfold pN at h
  cases v<;>simp only at h<;>first|(cases h;done)|skip
  · obtain⟨ne,h1,h⟩:=au h
    obtain⟨h2,h⟩:=bu h
    obtain⟨sz,h3,h⟩:=au h
    exact⟨_,g9 (by simp only[iV,h1,ob,h2,ok,cond_true,h3]),h⟩
  · obtain⟨ne,h1,h⟩:=au h
    obtain⟨h2,h⟩:=bu h
    obtain⟨sz,h3,h⟩:=au h
    exact⟨_,g9 (by simp only[iV,h1,ob,h2,ok,cond_true,h3]),h⟩
 case index t x ix=>
  obtain⟨v,hv,h⟩:=au h
  obtain⟨i,hi,h⟩:=au h
  obtain⟨n,hn,h⟩:=sQ h
  simp only[fM,n3,hv,hi,ob,hn]
  unfold A_ at h
  cases v<;>simp only at h<;>first|(cases h;done)|skip
  · rename_i str
    obtain⟨h1,h⟩:=cW h
    obtain⟨h2,h⟩:=bu h
    rw[ba]at h2
    refine⟨_,g9 ?_,h⟩
    simp only[ru,h1,ok,cond_true]
    rw[List.getD_eq_getElem?_getD,List.getElem?_eq_getElem h2]
    rfl
  · obtain⟨ne,h1,h⟩:=au h
    obtain⟨h2,h⟩:=bu h
    obtain⟨sz,h3,h⟩:=au h
    obtain⟨r,h4,h⟩:=vn P h
    exact⟨_,g9 (by simp only[ru,h1,ob,h2,ok,cond_true,h3,h4]),h⟩
 case load t a=>
  obtain⟨p,hp,h⟩:=au h
  cases p<;>simp only at h<;>first|(cases h;done)|skip
  obtain⟨cs,hc,h⟩:=au h
  obtain⟨v,hv,h⟩:=vn P h
  exact⟨_,by simp only[fM,pq,hp,ob,nI,hc];exact g9 hv,h⟩
 case store t a x=>
  obtain⟨p,hp,h⟩:=au h
  obtain⟨v,hv,h⟩:=au h
  cases p<;>simp only at h<;>first|(cases h;done)|skip
  obtain⟨n,hn,h⟩:=au h
  obtain⟨h1,h⟩:=cW h
  obtain⟨y,hy,h⟩:=au h
  obtain⟨z,hz,h⟩:=yW h
  exact⟨_,by simp only[fM,lB,hp,hv,ob,rV,hn,h1,ok,cond_true,js,hy,hz],h⟩
 case next it st=>
  obtain⟨h1,h⟩:=cW h
  obtain⟨v,hv,h⟩:=au h
  cases v<;>simp only at h<;>first|(cases h;done)|skip
  obtain⟨h2,h⟩:=cW h
  rw[cK]at h2
  subst h2
  obtain⟨x,hx,h⟩:=au h
  unfold yY at h
  split at h
  · rename_i str pos
    simp only[Tr.run]at h
    have hd:∀n,CL .i32 .ofNat n=.int .i32 (.ofNat n):=λn=>by cases n<;>rfl
    have hg:goInt pos=.int .i64 (.ofNat pos):=by cases pos<;>rfl
    cases hb:bm pos str.length with
    | true=>
      rw[hb,cond_true]at h
      exact⟨_,by simp only[fM,ns,h1,ok,cond_true,hv,ob,xW,hx,nP,y5,hb,hd,hg],h⟩
    | false=>
      rw[hb,cond_false]at h
      exact⟨_,by simp only[fM,ns,h1,ok,cond_true,hv,ob,xW,hx,nP,y5,hb,cond_false],h⟩
  · cases h
 case lookup t x ix okv=>
  obtain⟨mv,hm,h⟩:=au h
  obtain⟨k,hk,h⟩:=au h
  obtain⟨ke,hke,h⟩:=au h
  obtain⟨h1,h⟩:=cW h
  cases mv<;>simp only at h<;>first|(cases h;done)|skip
  obtain⟨es,he,h⟩:=au h
  obtain⟨r,hr,h⟩:=vE h
  simp only[fM,k_,hm,hk,ob,xT,hke,h1,ok,cond_true,oF,he,hr]
  cases r with
  | some v=>exact⟨_,rfl,h⟩
  | none=>
    obtain⟨z,hz,h⟩:=au h
    exact⟨_,by simp only[hz,fw,ob],h⟩
end
end Go.Ev
