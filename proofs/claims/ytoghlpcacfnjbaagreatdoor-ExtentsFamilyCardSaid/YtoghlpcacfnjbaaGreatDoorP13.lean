import Derived.Test.YtoghlpcacfnjbaaGreatDoorP12
set_option linter.all false
set_option maxRecDepth 100000
set_option maxHeartbeats 4000000
namespace Go.Ev
open Go
variable{x:AV}{cs:List AV}{off size id:Nat}{o:aB}
section
variable(P:fm)
def o_(cmp:TypeId->AV->AV->Option Bool)(xs ys:List AV):List Field->Option Bool
 | []=>some true
 | f::fs=>ok (!(f.name == "_")) (ob (iT P f.type xs f.offset) λa=>ob (iT P f.type ys f.offset) λb=>ob (cmp f.type a b) λr=>ob (o_ cmp xs ys fs) λq=>some (r&&q))
def ry(cmp:AV->AV->Option Bool)(elem:TypeId)(n:Nat)(xs ys:List AV)(i:Nat):Nat->Option Bool
 | 0=>some true
 | k+1=>ob (iT P elem xs (i*n)) λa=>ob (iT P elem ys (i*n)) λb=>ob (cmp a b) λr=>ob (ry cmp elem n xs ys (i+1) k) λq=>some (r&&q)
def FW(cmp:TypeId->AV->AV->Option Bool)(t:TypeId)(xs ys:List AV):Option TypeDesc->Option Bool
 | some (.struct fields)=>ob (P.ty.c0 t) λe=>ok (!e.a0) (o_ P cmp xs ys fields.toList)
 | some (.array len elem)=>ob (gT P elem) λn=>ry P (cmp elem) elem n xs ys 0 len
 | _=>none
def Jo(cmp:TypeId->AV->AV->Option Bool)(t:TypeId)(xs:List AV):AV->Option Bool
 | .h ys=>FW P cmp t xs ys (P.a0 t)
 | _=>none
def Wn(cmp:TypeId->AV->AV->Option Bool)(t:TypeId)(x y:AV):Option Bool:=match x with
 | .b a=>Cb P t a y
 | .a k a=>FH P t k a y
 | .d a=>Ex P t a y
 | .h xs=>Jo P cmp t xs y
 | .k a u=>nZ P cmp t a u y
 | x=>DG (P.a0 t) x y
def TK:Nat->TypeId->AV->AV->Option Bool
 | 0,_,_,_=>none
 | d+1,t,x,y=>Wn P (TK d) t x y
theorem sA{c c':TypeId->AV->AV->Option Bool}(hc:∀t a b r,c t a b=some r->c' t a b=some r){xs ys:List AV}:∀{fs:List Field} {r:Bool},o_ P c xs ys fs=some r->jd P c' xs ys fs=some r
 | [],r,h=>h
 | f::fs,r,h=>by
   simp only[o_,aA,ag,Option.some.injEq]at h;obtain⟨h0,a,ha,b,hb,q,hq,q',hq',rfl⟩:=h;have:=sA hc hq';simp only[jd,aA,ag];refine⟨h0,a,ha,b,hb,q,hc _ _ _ _ hq,?_⟩;cases q<;>simp[this]
theorem vV{c c':AV->AV->Option Bool}(hc:∀a b r,c a b=some r->c' a b=some r){elem:TypeId}{n:Nat}{xs ys:List AV}:∀{k i:Nat} {r:Bool},ry P c elem n xs ys i k=some r->kO P c' elem n xs ys i k=some r
 | 0,i,r,h=>h
 | k+1,i,r,h=>by
   simp only[ry,ag,Option.some.injEq]at h;obtain⟨a,ha,b,hb,q,hq,q',hq',rfl⟩:=h;have:=vV hc hq';simp only[kO,ag];refine⟨a,ha,b,hb,q,hc _ _ _ hq,?_⟩;cases q<;>simp[this]
theorem EL:∀{d:Nat} {t:TypeId} {x y:AV} {r:Bool},TK P d t x y=some r->N5 P d t x y=some r
 | 0,t,x,y,r,h=>by cases h
 | d+1,t,x,y,r,h=>by
   have ih:∀t a b r,TK P d t a b=some r->N5 P d t a b=some r:=λt a b r=>EL;unfold TK Wn at h;unfold N5 MY;cases x<;>simp only at h ⊢<;>first|exact h|skip
   . rename_i a u;unfold nZ at h ⊢;cases y<;>simp only at h ⊢<;>first|exact h|skip
     simp only[aA]at h ⊢;refine⟨h.1,?_⟩;have h2:=h.2;cases hb:Nat.beq a _<;>rw[hb]at h2<;>simp only[cond_true,cond_false,ag,aA]at h2 ⊢
     . exact h2
     . grind
   . unfold Jo at h;unfold EI;cases y<;>simp only[reduceCtorEq]at h ⊢;generalize P.a0 t=dd at h ⊢;unfold FW at h;unfold BV;split at h
     . simp only[ag,aA]at h ⊢;obtain⟨e,he,hs,h⟩:=h;exact⟨e,he,hs,sA P ih h⟩
     . simp only[ag]at h ⊢;obtain⟨n,hn,h⟩:=h;exact⟨n,hn,vV P (ih _) h⟩
     . cases h
variable{R:Type}
def MS(op:BinOp)(t:TypeId)(xo yo:Operand)(x y:AV)(K:AV->Tr R):Tr R:=match x with
 | .a k a=>MP op k a y K
 | .d a=>KE op a y K
 | x=>aT (C3 op (ok (jK P t xo yo x y) (TK P 100 t x y))) K
theorem Ig{op:BinOp}{t:TypeId}{xo yo:Operand}{y:AV}{K:AV->Tr R}{s:R}(h:(MS P op t xo yo x y K).b0=some s):∃v,JC P op t xo yo x y=some v/\(K v).b0=some s:=by
 have other:∀{x:AV},(aT (C3 op (ok (jK P t xo yo x y) (TK P 100 t x y))) K).b0=some s->∃v,C3 op (ok (jK P t xo yo x y) (N5 P 100 t x y))=some v/\(K v).b0=some s:=λh=>by
  obtain⟨v,hv,hk⟩:=ar h;refine⟨v,?_,hk⟩;unfold C3 at hv ⊢;split at hv<;>simp only[ag,aA,reduceCtorEq]at hv ⊢
  . obtain⟨b,⟨hg,he⟩,hb⟩:=hv;exact⟨b,⟨hg,EL P he⟩,hb⟩
  . obtain⟨b,⟨hg,he⟩,hb⟩:=hv;exact⟨b,⟨hg,EL P he⟩,hb⟩
 unfold MS at h;unfold JC;cases x<;>simp only at h ⊢<;>first|exact IA h|exact IQ h|exact other h
def Tg(op:UnOp)(x:AV)(K:AV->Tr R):Tr R:=match x with
 | .a k n=>match op with
   | .neg=>nA k (Int.sub 0 n) K
   | op=>aT (UC op (.a k n)) K
 | .b b=>match op with
   | .not=>K (.b !b)
   | _=>.c0
 | _=>.c0
theorem Js{op:UnOp}{K:AV->Tr R}{s:R}(h:(Tg op x K).b0=some s):∃v,UC op x=some v/\(K v).b0=some s:=by
 unfold Tg at h;cases x<;>simp only at h<;>first|(cases h;done)|skip
 . cases op<;>simp only at h<;>first|(cases h;done)|exact⟨_,rfl,h⟩
 . cases op<;>simp only at h<;>first|exact ar h|skip
   exact qs h
def Jm(a b:Option AV)(c:AV)(K:AV->Tr R):Tr R:=match c with
 | .b d=>.d0 d λe=>aT (bif e then a else b) K
 | _=>.c0
theorem HI{a b:Option AV}{c:AV}{K:AV->Tr R}{s:R}(h:(Jm a b c K).b0=some s):∃v,Gd a b c=some v/\(K v).b0=some s:=by
 unfold Jm at h;cases c<;>simp only at h<;>first|(cases h;done)|skip
 rename_i d;simp only[Tr.b0]at h;cases d<;>exact ar h
def bC(k:IntKind):AV->Bool
 | .a k' _=>gP k' k
 | _=>false
def aK:AV->Int
 | .a _ n=>n
 | _=>0
def Sn:AV->Bool
 | .b _=>true
 | _=>false
def KK:AV->Bool
 | .b b=>b
 | _=>false
def Iq:AV->Bool
 | .d _=>true
 | _=>false
def C9:AV->List UInt8
 | .d s=>s
 | _=>[]
theorem IC{k:IntKind}{v:AV}(h:bC k v):v=.a k (aK v):=by
 cases v<;>simp only[bC,Bool.false_eq_true]at h;rw[iv]at h;rw[h];rfl
theorem Ia{v:AV}(h:Sn v):v=.b (KK v):=by cases v<;>simp only[Sn,Bool.false_eq_true]at h;rfl
theorem H8{v:AV}(h:Iq v):v=.d (C9 v):=by cases v<;>simp only[Iq,Bool.false_eq_true]at h;rfl
theorem getD_some{i:Nat}{v:AV}(h:cs.getD i bt=v)(hv:v≠bt):cs[i]? = some v:=by
 grind
def GR(z:AV)(cs:List AV)(off:Nat)(K:AV->Tr R):Tr R:=match z with
 | .a k _=>fO (bC k (cs.getD off bt)) (K (.a k (aK (cs.getD off bt))))
 | .b _=>fO (Sn (cs.getD off bt)) (K (.b (KK (cs.getD off bt))))
 | .d _=>fO (Iq (cs.getD off bt)) (K (.d (C9 (cs.getD off bt))))
 | _=>.e0 off λj=>aT cs[j]? K
theorem AG{z:AV}{K:AV->Tr R}{s:R}(h:(GR z cs off K).b0=some s):∃v,cs[off]? = some v/\(K v).b0=some s:=by
 have other:(Tr.e0 off λj=>aT cs[j]? K).b0=some s->∃v,cs[off]? = some v/\(K v).b0=some s:=λh=>ar h;unfold GR at h;cases z<;>simp only at h<;>first|exact other h|skip
 . obtain⟨h1,h2⟩:=bG h;exact⟨_,getD_some (Ia h1) (by simp[bt]),h2⟩
 . obtain⟨h1,h2⟩:=bG h;exact⟨_,getD_some (IC h1) (by simp[bt]),h2⟩
 . obtain⟨h1,h2⟩:=bG h;exact⟨_,getD_some (H8 h1) (by simp[bt]),h2⟩
def FS(cs:List AV):List AV->Nat->(List AV->Tr R)->Tr R
 | [],_,K=>K []
 | z::zs,off,K=>GR z cs off λv=>FS cs zs (off+1) λvs=>K (v::vs)
theorem xZ{cs:List AV}:∀{zs:List AV} {off:Nat} {K:List AV->Tr R} {s:R},(FS cs zs off K).b0=some s->∃vs,vs.length=zs.length/\(∀i,i<zs.length->cs[off+i]? = vs[i]?)/\(K vs).b0=some s
 | [],off,K,s,h=>⟨[],rfl,λi hi=>absurd hi (Nat.not_lt_zero i),h⟩
 | z::zs,off,K,s,h=>by
   obtain⟨v,hv,h⟩:=AG h;obtain⟨vs,h1,h2,h⟩:=xZ h;refine⟨v::vs,by simp[h1],λi hi=>?_,h⟩;cases i with
   | zero=>exact hv
   | succ i=>
     grind
theorem Jt{vs:List AV}{n:Nat}(h1:vs.length=n)(h2:∀i,i<n->cs[off+i]? = vs[i]?):jW cs off n=some vs:=by
 have e:(cs.drop off).take n=vs:=by
  apply List.ext_getElem?;intro i;rw[List.getElem?_take];split
  . grind
  . grind
 rw[jW,e,gm h1];rfl
def L7(t:TypeId)(cs:List AV)(off:Nat)(K:AV->Tr R):Tr R:=
 aT (P.a0 t) λd=>bif xN (some d)then aT (gT P t) λn=>aT (lA P t) λz=>bif Nat.beq (bU z).length n then FS cs (bU z) off λvs=>K (.h vs)else .c0
  else aT (lA P t) λz=>GR z cs off K
theorem AR{t:TypeId}{K:AV->Tr R}{s:R}(h:(L7 P t cs off K).b0=some s):∃v,iT P t cs off=some v/\(K v).b0=some s:=by
 obtain⟨d,hd,h⟩:=ar h;unfold iT;simp only[hd,ob];cases ha:xN (some d)with
 | true=>
   rw[ha,cond_true]at h;rw[cond_true];obtain⟨n,hn,h⟩:=ar h;obtain⟨z,hz,h⟩:=ar h;obtain⟨hl,h⟩:=dk h;rw[cQ]at hl;obtain⟨vs,h1,h2,h⟩:=xZ h;exact⟨_,by simp only[hn,Jt (h1.trans hl) λi hi=>h2 i (by omega)],h⟩
 | false=>
   rw[ha,cond_false]at h;rw[cond_false];obtain⟨z,hz,h⟩:=ar h;exact AG h
def KP(i:AV)(K:Nat->Tr R):Tr R:=match i with
 | .a _ n=>fO (ab 0 n) (K n.toNat)
 | _=>.c0
theorem yp{i:AV}{K:Nat->Tr R}{s:R}(h:(KP i K).b0=some s):∃n,HG i=some n/\(K n).b0=some s:=by
 unfold KP at h;cases i<;>simp only at h<;>first|(cases h;done)|skip
 rename_i k n;obtain⟨h1,h2⟩:=bG h;have hn:0<=n:=by rw[ek]at h1;simpa using h1
 refine⟨_,?_,h2⟩;obtain⟨j,rfl⟩:∃j:Nat,n=Int.ofNat j:=⟨n.toNat,(Int.toNat_of_nonneg hn).symm⟩;rfl
def JG(hi:Nat)(v:AV)(K:Nat->Tr R):Tr R:=KP v λn=>fO (Nat.ble n hi) (K n)
theorem r4{hi:Nat}{v:AV}{K:Nat->Tr R}{s:R}(h:(JG hi v K).b0=some s):∃n,zR hi v=some n/\(K n).b0=some s:=by
 obtain⟨n,h1,h⟩:=yp h;obtain⟨h2,h⟩:=bG h;refine⟨n,?_,h⟩;unfold HG at h1;split at h1
 . cases h1;simp only[zR,h2,ok,cond_true]
 . cases h1
def i_(most dflt:Nat)(v:Option AV)(K:Nat->Tr R):Tr R:=match v with
 | none=>K dflt
 | some v=>JG most v K
theorem dS{most dflt:Nat}{v:Option AV}{K:Nat->Tr R}{s:R}(h:(i_ most dflt v K).b0=some s):∃n,dT most dflt v=some n/\(K n).b0=some s:=by
 cases v with
 | none=>exact⟨dflt,rfl,h⟩
 | some v=>exact r4 h
def BF{α:Type}(b:Bool)(x y:α)(K:α->Tr R):Tr R:=.d0 b λd=>bif d then K x else K y
theorem oF{α:Type}{b:Bool}{x y:α}{K:α->Tr R}{s:R}(h:(BF b x y K).b0=some s):(K (bif b then x else y)).b0=some s:=by
 cases b<;>exact h
def A6(id off size m h l:Nat)(K:AV->Tr R):Tr R:=BF (Nat.beq m l) (AV.c id off (h-l) (.b (m-l))) (.c id (off+l*size) (h-l) (.b (m-l))) K
def Ib(s:List UInt8)(lo hi:Option AV)(K:AV->Tr R):Tr R:=i_ s.length s.length hi λh=>i_ h 0 lo λl=>K (.d ((s.take h).drop l))
def n6(size id off len c:Nat)(lo hi max:Option AV)(K:AV->Tr R):Tr R:=
 bif max.isNone || hi.isSome then i_ c c max λm=>i_ m len hi λh=>i_ h 0 lo λl=>A6 id off size m h l K else .c0
theorem nO{len c:Nat}{lo hi max:Option AV}{K:AV->Tr R}{s:R}(h:(n6 size id off len c lo hi max K).b0=some s):∃v,jh size id off len c lo hi max=some v/\(K v).b0=some s:=by
 obtain⟨h0,h⟩:=dk h;obtain⟨m,hm,h⟩:=dS h;obtain⟨h',hh,h⟩:=dS h;obtain⟨l,hl,h⟩:=dS h;exact⟨_,by simp only[jh,h0,ok,cond_true,hm,ob,hh,hl,jn],oF h⟩
def qR(size id off k h l:Nat)(K:AV->Tr R):Tr R:=.d0 (Nat.beq l 0) λb=>bif b then K (.c id off h (.a k))else fO (aS l h) (K (.c id (off+l*size) (h-l) (.a (k+l))))
theorem y5{k h' l:Nat}{K:AV->Tr R}{s:R}(h:(qR size id off k h' l K).b0=some s):∃v,ph size id off k h' l=some v/\(K v).b0=some s:=by
 unfold qR at h;unfold ph;simp only[Tr.b0]at h;cases hb:Nat.beq l 0 with
 | true=>rw[hb]at h;exact⟨_,by simp only[cond_true],h⟩
 | false=>
   rw[hb,cond_false]at h;obtain⟨h1,h⟩:=bG h;exact⟨_,by simp only[cond_false,h1,ok,cond_true],h⟩
def Ar(size id off len:Nat)(lo hi max:Option AV)(c:fg)(K:AV->Tr R):Tr R:=match c with
 | .b c=>n6 size id off len c lo hi max K
 | .a k=>match max with
   | none=>i_ len len hi λh=>i_ h 0 lo λl=>qR size id off k h l K
   | some mx=>bif hi.isSome then JG len mx λm=>i_ m len hi λh=>i_ h 0 lo λl=>A6 id off size m h l K else .c0
def xa(t:TypeId)(lo hi mx:Option AV)(v:AV)(K:AV->Tr R):Tr R:=match v with
 | .g id off=>aT (Ds P t) λne=>aT (gT P ne.2) λsize=>n6 size id off ne.1 ne.1 lo hi mx K
 | .d s=>bif zO P t&&mx.isNone then Ib s lo hi K else .c0
 | .f=>aT (kr P t) λe=>aT (gT P e) λ_=>bif mx.isNone || hi.isSome then i_ 0 0 mx λ_=>i_ 0 0 hi λ_=>i_ 0 0 lo λ_=>K .f else .c0
 | .c id off len c=>aT (kr P t) λe=>aT (gT P e) λsize=>Ar size id off len lo hi mx c K
 | _=>.c0
theorem B4{t:TypeId}{lo hi mx:Option AV}{v:AV}{K:AV->Tr R}{s:R}(h:(xa P t lo hi mx v K).b0=some s):∃r,sw P t lo hi mx v=some r/\(K r).b0=some s:=by
 unfold xa at h;unfold sw;cases v<;>simp only at h<;>first|(cases h;done)|skip
 case g id off=>
  obtain⟨ne,h1,h⟩:=ar h;obtain⟨size,h2,h⟩:=ar h;obtain⟨v,hv,h⟩:=nO h;exact⟨v,by simp only[h1,ob,h2,hv],h⟩
 case d s=>
  obtain⟨h1,h⟩:=dk h;obtain⟨a,ha,h⟩:=dS h;obtain⟨b,hb,h⟩:=dS h;exact⟨_,by simp only[h1,ok,cond_true,xI,ha,ob,hb],h⟩
 case f=>
  obtain⟨e,h1,h⟩:=ar h;obtain⟨sz,h2,h⟩:=ar h;obtain⟨h3,h⟩:=dk h;obtain⟨a,ha,h⟩:=dS h;obtain⟨b,hb,h⟩:=dS h;obtain⟨c,hc,h⟩:=dS h;exact⟨_,by simp only[h1,ob,h2,xV,h3,ok,cond_true,ha,hb,hc],h⟩
 case c id off len c=>
  obtain⟨e,h1,h⟩:=ar h;obtain⟨size,h2,h⟩:=ar h;simp only[h1,ob,h2];unfold Ar at h;unfold og;cases c with
  | b c=>exact nO h
  | a k=>
    cases mx with
    | none=>
      obtain⟨a,ha,h⟩:=dS h;obtain⟨b,hb,h⟩:=dS h;obtain⟨v,hv,h⟩:=y5 h;exact⟨v,by simp only[vu,ha,ob,hb,hv],h⟩
    | some mx=>
      obtain⟨h3,h⟩:=dk h;obtain⟨a,ha,h⟩:=r4 h;obtain⟨b,hb,h⟩:=dS h;obtain⟨c,hc,h⟩:=dS h;exact⟨_,by simp only[nq,h3,ok,cond_true,ha,ob,hb,hc,jn],oF h⟩
def F8:List AV->List AV->List AV
 | cs,[]=>cs
 | [],_::_=>[]
 | _::cs,v::vs=>v::F8 cs vs
def JL:List AV->Nat->List AV->List AV
 | cs,0,vs=>F8 cs vs
 | [],_+1,_=>[]
 | c::cs,n+1,vs=>c::JL cs n vs
theorem DQ:∀{cs vs:List AV},vs.length<=cs.length->qh cs vs=some (F8 cs vs)
 | cs,[],_=>by cases cs<;>rfl
 | [],v::vs,h=>by simp at h
 | c::cs,v::vs,h=>by simp only[qh,DQ (cs:=cs) (vs:=vs) (by simpa using h),ob,F8]
theorem Hv:∀{cs:List AV} {n:Nat} {vs:List AV},n+vs.length<=cs.length->tU cs n vs=some (JL cs n vs)
 | cs,0,vs,h=>by rw[tU.eq_def,JL.eq_def];exact DQ (by omega)
 | [],n+1,vs,h=>by simp at h
 | c::cs,n+1,vs,h=>by simp only[tU,Hv (cs:=cs) (n:=n) (vs:=vs) (by simp at h;omega),ob,JL]
def NF(off:Nat)(vs:List AV)(x:aD)(K:aD->Tr R):Tr R:=match x with
 | .a cs true g=>fO (Nat.ble (off+vs.length) cs.length) (K (.a (JL cs off vs) true g))
 | _=>.c0
theorem Dh{vs:List AV}{x:aD}{K:aD->Tr R}{s:R}(h:(NF off vs x K).b0=some s):∃y,yr off vs x=some y/\(K y).b0=some s:=by
 unfold NF at h;split at h
 . obtain⟨h1,h⟩:=bG h;rw[bx]at h1;exact⟨_,by simp only[yr,Hv h1,ob],h⟩
 . cases h
def GC(cs:List AV)(off n:Nat)(K:List AV->Tr R):Tr R:=fO (Nat.ble (off+n) cs.length) (K ((cs.drop off).take n))
theorem ti{n:Nat}{K:List AV->Tr R}{s:R}(h:(GC cs off n K).b0=some s):∃vs,jW cs off n=some vs/\(K vs).b0=some s:=by
 obtain⟨h1,h⟩:=bG h;rw[bx]at h1;exact⟨_,by rw[jW,gm (by simp;omega)];rfl,h⟩
def Sw:AV->Bool
 | .a .u8 n=>ab 0 n&&ab n 255
 | _=>false
def M8(v:AV):UInt8:=UInt8.ofNat (aK v).toNat
theorem Is{v:AV}(h:Sw v):ya v=some (M8 v):=by
 unfold Sw at h;split at h
 . rename_i n;rw[Bool.and_eq_true,ek,ek]at h;simp only[decide_eq_true_eq]at h;obtain⟨j,rfl⟩:∃j:Nat,n=Int.ofNat j:=⟨n.toNat,(Int.toNat_of_nonneg h.1).symm⟩;have:j<256:=by have:=h.2;simp only[Int.ofNat_eq_natCast]at this;omega
   simp only[ya,aU.2 this,ok,cond_true,M8,aK];rfl
 . cases h
def F4:List AV->Bool
 | []=>true
 | v::vs=>Sw v&&F4 vs
theorem xn:∀{vs:List AV},F4 vs->mI vs=some (vs.map M8)
 | [],_=>rfl
 | v::vs,h=>by
   rw[F4,Bool.and_eq_true]at h;simp only[mI,Is h.1,ob,xn h.2,List.map_cons]
end
abbrev sL(R:Type):Type:=fm->bg->(Operand->Option AV)->aB->(AV×aB->Tr R)->Tr R
section
variable{R:Type}
def Sy(op:BinOp)(t:TypeId)(x y:Operand):sL R:=λP C ρ o K=>aT (ρ x) λa=>aT (ρ y) λb=>MS P op t x y a b λv=>K (v,o)
def UT(op:UnOp)(x:Operand):sL R:=λP C ρ o K=>aT (ρ x) λa=>Tg op a λv=>K (v,o)
def N6(c a b:Operand):sL R:=λP C ρ o K=>aT (ρ c) λcv=>Jm (ρ a) (ρ b) cv λv=>K (v,o)
def P7(P:fm)(C:bg)(o:aB)(src dst:TypeId)(v:AV)(K:AV×aB->Tr R):Tr R:=match v with
 | .a _ n=>bif (P.a0 src).isSome then(match P.a0 dst with
   | some (.int k)=>nA k n λv=>K (v,o)
   | d=>aT (gS o (w7 n d)) K)else .c0
 | .d s=>bif zF (P.a0 src)then(match P.a0 dst with
   | some .string=>K (.d s,o)
   | some (.slice e)=>fO (mT (P.a0 e)&&Nat.ble s.length 1000000) (K (.c (o.a0 C) 0 s.length (.a 0),o.b0 (.a (s.map jx) false none)))
   | _=>.c0)else .c0
 | .c id off len _=>aT (Di (P.a0 src)) λe=>bif mT (P.a0 e)&&zF (P.a0 dst)then aT (cellsOf (get C o id)) λcs=>GC cs off len λbs=>fO (F4 bs) (K (.d (bs.map M8),o))else .c0
 | v=>aT (jA P C o src dst v) K
def Fb(src dst:TypeId)(x:Operand):sL R:=λP C ρ o K=>aT (ρ x) λv=>P7 P C o src dst v K
def Gj(P:fm)(t:TypeId)(n:Nat)(v:AV)(K:AV->Tr R):Tr R:=match v with
 | .h cs=>aT (Ds P t) λne=>fO (aS n ne.1) (aT (gT P ne.2) λsz=>L7 P ne.2 cs (n*sz) K)
 | .d s=>bif zO P t then fO (aS n s.length) (K (jx (s.getD n 0)))else .c0
 | _=>.c0
def KV(t:TypeId)(x ix:Operand):sL R:=λP C ρ o K=>aT (ρ x) λv=>aT (ρ ix) λi=>KP i λn=>Gj P t n v λr=>K (r,o)
def vD(P:fm)(t:TypeId)(n:Nat)(v:AV)(K:AV->Tr R):Tr R:=match v with
 | .g id off=>aT (Ds P t) λne=>fO (aS n ne.1) (aT (gT P ne.2) λsz=>K (.g id (off+n*sz)))
 | .c id off len _=>aT (kr P t) λe=>fO (aS n len) (aT (gT P e) λsz=>K (.g id (off+n*sz)))
 | _=>.c0
def BS(t:TypeId)(x ix:Operand):sL R:=λP C ρ o K=>aT (ρ x) λv=>aT (ρ ix) λi=>KP i λn=>vD P t n v λr=>K (r,o)
def I_(t:TypeId)(x:Operand)(lo hi mx:Option Operand):sL R:=λP C ρ o K=>
 aT (ρ x) λv=>aT (yT ρ lo) λl=>aT (yT ρ hi) λh=>aT (yT ρ mx) λm=>xa P t l h m v λr=>K (r,o)
def Bs(t:TypeId)(l c:Operand):sL R:=λP C ρ o K=>aT (ρ l) λlv=>aT (ρ c) λcv=>
 aT (kr P t) λelem=>aT (gT P elem) λn=>aT (lA P elem) λz=>JG 10000 cv λcn=>JG cn lv λln=>
  bif Nat.beq (bU z).length n&&aS 0 n&&Nat.ble n 10000&&s_ P elem&&dM (bU z)then K (.c (o.a0 C) 0 ln (.b cn),o.b0 (.a (mX (bU z) cn) true none))else .c0
def Od(t:TypeId)(a:Operand):sL R:=λP C ρ o K=>aT (ρ a) λp=>match p with
 | .g id off=>aT (cellsOf (get C o id)) λcs=>L7 P t cs off λv=>K (v,o)
 | _=>.c0
def J8(t:TypeId)(a x:Operand):sL R:=λP C ρ o K=>aT (ρ a) λp=>aT (ρ x) λv=>match p with
 | .g id off=>aT (gT P t) λn=>bif Nat.beq (bU v).length n&&dM (bU v)then aT (dQ C o id) λx=>NF off (bU v) x λx'=>K (bt,ea C o id x')else .c0
 | _=>.c0
def Dp(C:bg)(o:aB)(id:Nat)(x:aD)(K:AV×aB->Tr R):Tr R:=match x with
 | .d s pos=>.d0 (aS pos s.length) λb=>bif b then K (.e [.b true,.a .i64 (.ofNat pos),.a .i32 (.ofNat (Utf8.decode ⟨⟨s⟩⟩ pos).1)],ea C o id (.d s (pos+(Utf8.decode ⟨⟨s⟩⟩ pos).2)))else K (.e [.b false],o)
 | _=>.c0
def Nc(it:Operand)(st:Bool):sL R:=λP C ρ o K=>bif st then aT (ρ it) λv=>match v with
 | .g id off=>bif Nat.beq off 0 then aT (dQ C o id) λx=>Dp C o id x K else .c0
 | _=>.c0
 else .c0
def KZ(k:AV):List (AV×AV)->(Option AV->Tr R)->Tr R
 | [],K=>K none
 | e::es,K=>aT (yU k e.1) λr=>.d0 r λb=>bif b then K (some e.2)else KZ k es K
def IK(t:TypeId)(x ix:Operand)(okv:Bool):sL R:=λP C ρ o K=>aT (ρ x) λm=>aT (ρ ix) λk=>aT (H3 (P.a0 t)) λke=>bif sG k (P.a0 ke.1)then(match m with
 | .q id=>aT (lX (get C o id)) λes=>KZ k es λr=>match r with
   | some v=>K (py okv v true,o)
   | none=>aT (lA P ke.2) λz=>K (py okv z false,o)
 | _=>.c0)else .c0
def GD(op:Op):sL R:=λP C ρ o K=>aT (gW op P C ρ o) K
def Fu:Op->sL R
 | .pick c a b=>N6 c a b
 | .binOp op t x y _=>Sy op t x y
 | .unOp op _ x=>UT op x
 | .convert src dst x=>Fb src dst x
 | .makeSlice t l c=>Bs t l c
 | .slice t x lo hi mx=>I_ t x lo hi mx
 | .indexAddr t x ix=>BS t x ix
 | .index t x ix=>KV t x ix
 | .load t a=>Od t a
 | .store t a x=>J8 t a x
 | .next it s=>Nc it s
 | .lookup t x ix okv=>IK t x ix okv
 | op=>GD op
theorem jl{x:Option AV}{v:AV}(h:x=some v):gS o x=some (v,o):=by rw[h];rfl
theorem AM{k:AV}:∀{es:List (AV×AV)} {K:Option AV->Tr R} {s:R},(KZ k es K).b0=some s->∃r,qq k es=some r/\(K r).b0=some s
 | [],K,s,h=>⟨none,rfl,h⟩
 | e::es,K,s,h=>by
   obtain⟨r,hr,h⟩:=ar h;simp only[Tr.b0]at h;simp only[qq,hr,ob];cases r with
   | true=>exact⟨_,rfl,h⟩
   | false=>exact AM h
theorem N4{op:Op}{P:fm}{C:bg}{ρ:Operand->Option AV}{K:AV×aB->Tr R}{s:R}(h:(Fu op P C ρ o K).b0=some s):∃r,Eo P C ρ o op=some r/\(K r).b0=some s:=by
 unfold Eo;cases op<;>simp only[Fu,GD]at h<;>first|exact ar h|skip
 case pick c a b=>
  obtain⟨cv,hc,h⟩:=ar h;obtain⟨v,hv,h⟩:=HI h;exact⟨_,by simp only[gW,xT];exact jl (ag.2 ⟨cv,hc,hv⟩),h⟩
 case binOp op t x y e=>
  obtain⟨a,ha,h⟩:=ar h;obtain⟨b,hb,h⟩:=ar h;obtain⟨v,hv,h⟩:=Ig P h;exact⟨_,by simp only[gW,DX];exact jl (ag.2 ⟨a,ha,ag.2 ⟨b,hb,hv⟩⟩),h⟩
 case unOp op t x=>
  obtain⟨a,ha,h⟩:=ar h;obtain⟨v,hv,h⟩:=Js h;exact⟨_,by simp only[gW,Kp];exact jl (ag.2 ⟨a,ha,hv⟩),h⟩
 case convert src dst x=>
  obtain⟨v,hv,h⟩:=ar h;simp only[gW,ip,hv,ob];unfold P7 at h;cases v<;>simp only at h<;>first|exact ar h|skip
  case a k n=>
   obtain⟨h1,h⟩:=dk h;simp only[jA,h1];split at h
   . rename_i k hk;rw[hk];obtain⟨v,h2,h3⟩:=qs h;exact⟨_,by simp only[ok,cond_true];exact jl h2,h3⟩
   . obtain⟨r,h2,h3⟩:=ar h;exact⟨r,by simpa only[ok,cond_true]using h2,h3⟩
  case d str=>
   obtain⟨h1,h⟩:=dk h;simp only[jA,h1,ok,cond_true];split at h
   . rename_i hk;rw[hk];exact⟨_,rfl,h⟩
   . rename_i e hk;obtain⟨h2,h⟩:=bG h;rw[hk];exact⟨_,by simp only[o8,h2,ok,cond_true],h⟩
   . cases h
  case c id off len c=>
   obtain⟨e,he,h⟩:=ar h;obtain⟨h1,h⟩:=dk h;obtain⟨cs,hc,h⟩:=ar h;obtain⟨bs,hb,h⟩:=ti h;obtain⟨h2,h⟩:=bG h;exact⟨_,by simp only[jA,po,he,ob,h1,ok,cond_true,mA,hc,hb,xn h2,gS],h⟩
 case makeSlice t l c=>
  obtain⟨lv,hl,h⟩:=ar h;obtain⟨cv,hc,h⟩:=ar h;obtain⟨e,he,h⟩:=ar h;obtain⟨n,hn,h⟩:=ar h;obtain⟨z,hz,h⟩:=ar h;obtain⟨cn,h1,h⟩:=r4 h;obtain⟨ln,h2,h⟩:=r4 h;obtain⟨h3,h⟩:=dk h;exact⟨_,by simp only[gW,ik,hl,hc,ob,na,he,hn,hz,h1,h2,h3,ok,cond_true],h⟩
 case slice t x lo hi mx=>
  obtain⟨v,hv,h⟩:=ar h;obtain⟨l,hl,h⟩:=ar h;obtain⟨hh,hhe,h⟩:=ar h;obtain⟨m,hm,h⟩:=ar h;obtain⟨r,hr,h⟩:=B4 P h;exact⟨_,by simp only[gW,sg,hv,hl,hhe,hm,ob];exact jl hr,h⟩
 case indexAddr t x ix=>
  obtain⟨v,hv,h⟩:=ar h;obtain⟨i,hi,h⟩:=ar h;obtain⟨n,hn,h⟩:=yp h;simp only[gW,jq,hv,hi,ob,hn];unfold vD at h;cases v<;>simp only at h<;>first|(cases h;done)|skip
  . obtain⟨ne,h1,h⟩:=ar h;obtain⟨h2,h⟩:=bG h;obtain⟨sz,h3,h⟩:=ar h;exact⟨_,jl (by simp only[kR,h1,ob,h2,ok,cond_true,h3]),h⟩
  . obtain⟨ne,h1,h⟩:=ar h;obtain⟨h2,h⟩:=bG h;obtain⟨sz,h3,h⟩:=ar h;exact⟨_,jl (by simp only[kR,h1,ob,h2,ok,cond_true,h3]),h⟩
 case index t x ix=>
  obtain⟨v,hv,h⟩:=ar h;obtain⟨i,hi,h⟩:=ar h;obtain⟨n,hn,h⟩:=yp h;simp only[gW,rz,hv,hi,ob,hn];unfold Gj at h;cases v<;>simp only at h<;>first|(cases h;done)|skip
  . rename_i str;obtain⟨h1,h⟩:=dk h;obtain⟨h2,h⟩:=bG h;rw[aU]at h2;refine⟨_,jl ?_,h⟩;simp only[yk,h1,ok,cond_true];rw[List.getD_eq_getElem?_getD,List.getElem?_eq_getElem h2];rfl
  . obtain⟨ne,h1,h⟩:=ar h;obtain⟨h2,h⟩:=bG h;obtain⟨sz,h3,h⟩:=ar h;obtain⟨r,h4,h⟩:=AR P h;exact⟨_,jl (by simp only[yk,h1,ob,h2,ok,cond_true,h3,h4]),h⟩
 case load t a=>
  obtain⟨p,hp,h⟩:=ar h;cases p<;>simp only at h<;>first|(cases h;done)|skip
  obtain⟨cs,hc,h⟩:=ar h;obtain⟨v,hv,h⟩:=AR P h;exact⟨_,by simp only[gW,tN,hp,ob,rI,hc];exact jl hv,h⟩
 case store t a x=>
  obtain⟨p,hp,h⟩:=ar h;obtain⟨v,hv,h⟩:=ar h;cases p<;>simp only at h<;>first|(cases h;done)|skip
  obtain⟨n,hn,h⟩:=ar h;obtain⟨h1,h⟩:=dk h;obtain⟨y,hy,h⟩:=ar h;obtain⟨z,hz,h⟩:=Dh h;exact⟨_,by simp only[gW,oY,hp,hv,ob,yO,hn,h1,ok,cond_true,jO,hy,hz],h⟩
 case next it st=>
  obtain⟨h1,h⟩:=dk h;obtain⟨v,hv,h⟩:=ar h;cases v<;>simp only at h<;>first|(cases h;done)|skip
  obtain⟨h2,h⟩:=dk h;rw[cQ]at h2;subst h2;obtain⟨x,hx,h⟩:=ar h;unfold Dp at h;split at h
  . rename_i str pos;simp only[Tr.b0]at h;have hd:∀n,H0 .i32 .ofNat n=.a .i32 (.ofNat n):=λn=>by cases n<;>rfl
    have hg:goInt pos=.a .i64 (.ofNat pos):=by cases pos<;>rfl
    cases hb:aS pos str.length with
    | true=>
      rw[hb,cond_true]at h;exact⟨_,by simp only[gW,qS,h1,ok,cond_true,hv,ob,DN,hx,sf,Dl,hb,hd,hg],h⟩
    | false=>
      rw[hb,cond_false]at h;exact⟨_,by simp only[gW,qS,h1,ok,cond_true,hv,ob,DN,hx,sf,Dl,hb,cond_false],h⟩
  . cases h
 case lookup t x ix okv=>
  obtain⟨mv,hm,h⟩:=ar h;obtain⟨k,hk,h⟩:=ar h;obtain⟨ke,hke,h⟩:=ar h;obtain⟨h1,h⟩:=dk h;cases mv<;>simp only at h<;>first|(cases h;done)|skip
  obtain⟨es,he,h⟩:=ar h;obtain⟨r,hr,h⟩:=AM h;simp only[gW,oe,hm,hk,ob,C_,hke,h1,ok,cond_true,rX,he,hr];cases r with
  | some v=>exact⟨_,rfl,h⟩
  | none=>
    obtain⟨z,hz,h⟩:=ar h;exact⟨_,by simp only[hz,gS,ob],h⟩
end
end Go.Ev
