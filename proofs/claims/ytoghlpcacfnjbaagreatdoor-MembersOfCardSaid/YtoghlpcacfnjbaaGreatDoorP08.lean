import Derived.Test.YtoghlpcacfnjbaaGreatDoorP07
set_option linter.all false
set_option maxRecDepth 100000
set_option maxHeartbeats 4000000
namespace Go.Ev
open Go Go.RowKit
variable{n j i id off k k' t:Nat}{C:bg}{o o':aC}{x:aE}{r:AV×aC}{op:Op}{ρ:Operand->Option AV}{st st':St}{dst:Option Tmp}{S:Nat->St}
theorem GW{α:Type}(k:Nat->α)(n:Nat):Kh k n=k n:=by cases n<;>rfl
theorem Ap{α:Type}(k:List Nat->α)(l:List Nat):D5 k l=k l:=by cases l<;>rfl
theorem kh{acc:List Nat}(h:(lf acc n j).testBit i):j<n:=by
 unfold lf at h;cases hb:aW j n with
 | true=>exact aS.1 hb
 | false=>simp[hb]at h
theorem Fi{acc:List Nat}{n i:Nat}:∀{es:List Edge} {s:Nat},(Uj acc n es s).testBit i->s.testBit i\/∃e∈es,Region.binds .any e/\(e.on=i\/(lf acc n e.on).testBit i=true)
 | [],s,h=>.inl h
 | e::es,s,h=>by
   rw[Uj]at h;rcases Fi h with h|⟨e',he,h1,h2⟩
   . grind
   . grind
theorem GR(o:Oper)(prev:List Oper):qA (o::prev)=Uj (qA prev) prev.length o.after.toList 0::qA prev:=by
 rw[qA,Ap,GW]
theorem nT{v:Nat}{acc:List Nat}:lf (v::acc) (n+1) j=if j=n then v else lf acc n j:=by
 unfold lf;by_cases e:j=n
 . subst e;rw[if_pos rfl,aS.2 (by omega),cond_true,show j+1-1-j=0 by omega];rfl
 . rw[if_neg e];by_cases h:j<n
   . rw[aS.2 h,aS.2 (by omega),cond_true,cond_true];obtain⟨k,hk⟩:∃k,n-j=k+1:=⟨n-j-1,by omega⟩;rw[show n+1-1-j=k+1 by omega,show n-1-j=k by omega];rfl
   . rw[nJ.2 (by omega),nJ.2 (by omega)];rfl
theorem CP{i:Nat}:∀{R:List Oper} {j:Nat},(lf (qA R) R.length j).testBit i->
 ∃o,R[R.length-1-j]? = some o/\∃e∈o.after.toList,Region.binds .any e/\(e.on=i\/e.on<j/\(lf (qA R) R.length e.on).testBit i=true)
 | [],j,h=>by have:=kh h;simp at this
 | o::prev,j,h=>by
   have hj:=kh h;rw[GR]at h ⊢;rw[List.length_cons]at h hj ⊢;rw[nT]at h;by_cases e:j=prev.length
   . rw[if_pos e]at h;rcases Fi h with h|⟨e',he,h1,h2⟩
     . simp at h
     . refine⟨o,by rw[show prev.length+1-1-j=0 by omega];rfl,e',he,h1,?_⟩;rcases h2 with h2|h2
       . omega
       . have:=kh h2;exact .inr ⟨by omega,by rw[nT,if_neg (by omega)];exact h2⟩
   . rw[if_neg e]at h;obtain⟨o',ho,e',he,h1,h2⟩:=CP h;have:=kh h;refine⟨o',?_,e',he,h1,?_⟩
     . grind
     . rcases h2 with h2|⟨h2,h3⟩
       . omega
       . have:=kh h3;exact .inr ⟨h2,by rw[nT,if_neg (by omega)];exact h3⟩
def kX(ops:Array Oper)(E:Nat->Prop)(j:Nat):Prop:=∀o,ops[j]? = some o->∀e∈o.after.toList,Region.binds .any e->E e.on
theorem zK{ops:Array Oper}{E:Nat->Prop}(hd:∀j,E j->kX ops E j):∀j,kX ops E j->zY (qA ops.toList.reverse) ops.size i j->E i:=by
 intro j;induction j using Nat.strongRecOn with
 | ind j ih=>
   intro hj hb;have hl:ops.toList.reverse.length=ops.size:=by simp
   unfold zY at hb;rw[<-hl]at hb;obtain⟨o,ho,e,he,h1,h2⟩:=CP hb;have hjl:=kh hb;rw[hl]at hjl ho;have hget:ops[j]? = some o:=by
    grind
   have hon:=hj o hget e he h1;rcases h2 with h2|⟨h2,h3⟩
   . grind
   . rw[hl]at h3;exact ih e.on h2 (hd _ hon) h3
theorem xX{ρ:Operand->Option AV}:∀{xs:List Operand} {vs:List AV},gx ρ xs=some vs->∀k:Nat,(xs[k]?).bind ρ=vs[k]?
 | [],vs,h,k=>by cases h;simp
 | x::xs,vs,h,k=>by
   simp only[gx,ai,Option.some.injEq]at h;obtain⟨v,hv,vs',hvs,rfl⟩:=h;cases k with
   | zero=>simp[hv]
   | succ k=>simpa using xX hvs k
structure e8(C:bg)(o o':aC)(ids:List Nat):Prop where
 grow:o.n<=o'.n
 le:o'.le.map (·.1)=o.le.map (·.1)
 len:o'.os.length=o'.n
 same:(∀id∈ids,id<C.lo+o.n)->∀i,i<C.lo+o.n->i∉ids->get C o' i=get C o i
theorem e8.refl{ids:List Nat}(h:o.os.length=o.n):e8 C o o ids:=⟨Nat.le_refl _,rfl,h,λ_ _ _ _=>rfl⟩
theorem e8.push{ids:List Nat}(h:o.os.length=o.n):e8 C o (o.push x) ids:=
 ⟨by simp[aC.push],rfl,by simp[aC.push,h],λ_ i hi _=>by rw[xA (by omega),if_neg (by omega)]⟩
theorem I5(hl:o.os.length=o.n)(hi:id<C.lo+o.n)(hj:j<C.lo+o.n)(hn:j≠id):get C (eF C o id x) j=get C o j:=by
 unfold get gy eF;cases hb:Nat.ble C.lo id with
 | true=>
   have h1:=bv.1 hb;simp only[cond_true];cases hc:Nat.ble C.lo j with
   | true=>
     have h2:=bv.1 hc;simp only[cond_true];rw[aC.at_put o x _ _ hl (by omega) (by omega),if_neg (by omega)]
   | false=>rfl
 | false=>
   simp only[cond_false];cases hc:Nat.ble C.lo j with
   | true=>rfl
   | false=>
     simp only[cond_false];rw[qw,if_neg (λh=>hn h.1)]
theorem e8.put{ids:List Nat}(h:o.os.length=o.n)(hm:id∈ids):e8 C o (eF C o id x) ids:=
 ⟨Nat.le_of_eq tR.symm,qp,mY h,λhb i hi hn=>I5 h (hb id hm) hi (λe=>hn (e▸hm))⟩
theorem e8.trans{o1 o2:aC}{ids:List Nat}(h:e8 C o o1 ids)(k:e8 C o1 o2 ids):e8 C o o2 ids:=
 ⟨Nat.le_trans h.grow k.grow,k.le.trans h.le,k.len,λhb i hi hn=>by
  have:=h.grow;rw[k.same (λid hm=>by have:=hb id hm;omega) i (by omega) hn,h.same hb i hi hn]⟩
theorem zX{n:Nat}:∀{l:List Nat},nt n l=true↔∀x∈l,x<n
 | []=>by simp[nt]
 | x::l=>by simp[nt,zX (l:=l),aS]
theorem Du{f:gk}:xJ n f=true↔∀x∈cI f,x<n:=by
 cases f<;>simp[xJ,cI,zX]
theorem nY{vs:List AV}{ids:List Nat}(h:ly C o id off vs=some o')(hl:o.os.length=o.n)(hm:id∈ids):e8 C o o' ids:=by
 simp only[ly,ai,Option.some.injEq]at h;obtain⟨x,_,x',_,rfl⟩:=h;exact .put hl hm
theorem y_{size:Nat}{new:List AV}{s:AV}{ids:List Nat}(h:jy C o size n new s=some r)(hl:o.os.length=o.n)
 (hm:∀id,du s=some id->id∈ids):e8 C o r.2 ids:=by
 cases s<;>simp only[jy,reduceCtorEq,Option.some.injEq]at h
 case slice id off len c=>
  have h1:=hm id rfl;cases c with
  | known c=>
    simp only[appendCap,kR]at h;cases hb:Nat.ble (len+n) c with
    | true=>
      simp only[hb,cond_true,ai,Option.some.injEq]at h;obtain⟨o',hw,rfl⟩:=h;exact nY hw hl h1
    | false=>
      simp only[hb,cond_false,ai,Option.some.injEq]at h;obtain⟨old,hw,rfl⟩:=h;exact .push hl
  | rest k=>
    simp only[appendCap,mV,aA,ai,Option.some.injEq]at h;obtain⟨_,x,_,cs,_,rfl⟩:=h;exact(e8.put hl h1).trans (.push (mY hl))
 case nilslice=>subst h;exact .push hl
def b9(cfg:cG)(call:bg->FuncId->List AV->aC->Option (AV×aC)):Prop:=
 ∀C f args o r,call C f args o=some r->o.os.length=o.n->e8 C o r.2 (dw args (cfg.lend f))
theorem cp{x:Option AV}{ids:List Nat}(hl:o.os.length=o.n)(h:gP o x=some r):e8 C o r.2 ids:=by
 rw[(bN.1 h).2];exact .refl hl
theorem oG{x:Option Nat}(h:x=some id):cI (sI x)=[id]:=by subst h;rfl
section
variable{T:fb}{cfg:cG}{C:bg}{o:aC}{ρ:Operand->Option AV}
theorem K5(h:Do T C ρ o op=some r)(hl:o.os.length=o.n):e8 C o r.2 (cI (cW cfg ρ op)):=by
 unfold Do at h;cases op<;>simp only[gT]at h
 case move=>exact cp hl h
 case assign=>exact cp hl h
 case pick=>exact cp hl h
 case build=>exact cp hl h
 case load=>exact cp hl h
 case nilCheck=>exact cp hl h
 case binOp=>exact cp hl h
 case unOp=>exact cp hl h
 case makeInterface=>exact cp hl h
 case makeFunc=>exact cp hl h
 case slice=>exact cp hl h
 case fieldAddr=>exact cp hl h
 case field=>exact cp hl h
 case indexAddr=>exact cp hl h
 case index=>exact cp hl h
 case lookup=>exact cp hl h
 case extract=>exact cp hl h
 case alloc=>
  simp only[pB,ai,lA,aA,Option.some.injEq]at h;obtain⟨z,_,_,rfl⟩:=h;exact .push hl
 case box=>
  simp only[yg,ai,lA,aA,Option.some.injEq]at h;obtain⟨z,_,_,rfl⟩:=h;exact .push hl
 case buildSlice=>
  simp only[fL,h_,ai,aA,Option.some.injEq]at h;obtain⟨_,_,_,_,_,_,_,_,_,_,_,_,rfl⟩:=h;exact .push hl
 case makeMap=>
  simp only[o6,aA,Option.some.injEq]at h;obtain⟨_,rfl⟩:=h;exact .push hl
 case makeSlice=>
  simp only[hZ,mW,ai,aA,Option.some.injEq]at h;obtain⟨_,_,_,_,_,_,_,_,_,_,_,_,_,_,_,rfl⟩:=h;exact .push hl
 case range=>
  simp only[q7,ai]at h;obtain⟨v,_,h⟩:=h;cases v<;>simp only[Eg,reduceCtorEq,aA,Option.some.injEq]at h;obtain⟨_,rfl⟩:=h;exact .push hl
 case convert=>
  simp only[ij,ai]at h;obtain⟨v,_,h⟩:=h;cases v<;>simp only[jr,reduceCtorEq,aA]at h
  . exact cp hl h.2
  . obtain⟨_,h⟩:=h;unfold oM at h;split at h
    . cases h;exact .refl hl
    . simp only[aA,Option.some.injEq]at h;obtain⟨_,rfl⟩:=h;exact .push hl
    . cases h
  . exact cp hl h
 case store t a x=>
  simp only[oY,ai,Option.some.injEq]at h;obtain⟨p,hp,v,hv,o',hs,rfl⟩:=h;cases p<;>simp only[yz,reduceCtorEq,ai,aA]at hs;rename_i id off;obtain⟨_,_,_,hs⟩:=hs;have e:cI (cW cfg ρ (.store t a x))=[id]:=oG (by rw[hp];rfl);rw[e];exact nY hs hl (by simp)
 case insert t m k x=>
  simp only[kV,ai]at h;obtain⟨p,hp,kv,hk,v,hv,h⟩:=h;simp only[Au,ai,aA]at h;obtain⟨_,_,_,h⟩:=h;cases p<;>simp only[wo,reduceCtorEq,ai]at h;rename_i id;obtain⟨_,_,es,_,fr,_,h⟩:=h;have e:cI (cW cfg ρ (.insert t m k x))=[id]:=oG (by rw[hp];rfl);rw[e];cases fr<;>simp only[ai,Option.some.injEq]at h
  . subst h;exact .put hl (by simp)
  . obtain⟨_,_,rfl⟩:=h;exact .put hl (by simp)
 case mapUpdate t m k x=>
  simp only[kV,ai]at h;obtain⟨p,hp,kv,hk,v,hv,h⟩:=h;simp only[Au,ai,aA]at h;obtain⟨_,_,_,h⟩:=h;cases p<;>simp only[wo,reduceCtorEq,ai]at h;rename_i id;obtain⟨_,_,es,_,fr,_,h⟩:=h;have e:cI (cW cfg ρ (.mapUpdate t m k x))=[id]:=oG (by rw[hp];rfl);rw[e];cases fr<;>simp only[ai,Option.some.injEq]at h
  . subst h;exact .put hl (by simp)
  . obtain⟨_,_,rfl⟩:=h;exact .put hl (by simp)
 case next it s=>
  simp only[qd,ai,aA]at h;obtain⟨_,p,hp,h⟩:=h;unfold B7 at h;split at h
  . rename_i id;simp only[ai]at h;obtain⟨x,_,h⟩:=h;have e:cI (cW cfg ρ (.next it s))=[id]:=oG (by rw[hp];rfl);rw[e];cases x<;>simp only[rS,reduceCtorEq,Option.some.injEq]at h;subst h;unfold CM;cases aW _ _ with
    | true=>exact .put hl (by simp)
    | false=>exact .refl hl
  . cases h
 all_goals cases h
theorem qx{call:bg->FuncId->List AV->aC->Option (AV×aC)}(hc:b9 cfg call)(h:gM T call sY C ρ o op=some r)(hl:o.os.length=o.n) :
 e8 C o r.2 (cI (cW cfg ρ op)):=by
 unfold gM at h;split at h
 . rename_i c;unfold rq at h;cases hcal:c.callee with
   | value f=>
     simp only[hcal,ai]at h;obtain⟨fv,hf,vs,hvs,h⟩:=h;cases fv<;>simp only[GE,sY,reduceCtorEq]at h;rename_i fid first captured
     have e:cI (cW cfg ρ (.call c))=dw (first++vs++captured) (cfg.lend fid):=by
      simp only[cW,hcal,vD,hf,hvs,Gz];cases dw (first++vs++captured) (cfg.lend fid)<;>rfl
     rw[e];exact hc C fid _ o r h hl
   | builtin b=>
     simp only[hcal,ai]at h;obtain⟨vs,hvs,h⟩:=h;have h0:=xX hvs 0;have hn:∀x y,vs=[x,y]->∀id,du x=some id->cI (sI (ob c.args.toList[0]? λx=>ob (ρ x) du))=[id]:=by
      rintro x y rfl id hid;refine oG ?_;simp only[List.getElem?_cons_zero]at h0;cases hx:c.args.toList[0]? with
      | none=>rw[hx]at h0;cases h0
      | some a=>rw[hx]at h0;simp only[Option.bind_some]at h0;simp only[ob,h0,hid]
     unfold fU at h;cases b<;>simp only[reduceCtorEq]at h
     case len=>exact cp hl h
     case cap=>exact cp hl h
     case min=>exact cp hl h
     case max=>exact cp hl h
     case append=>
      have e:cW cfg ρ (.call c)=sI (ob c.args.toList[0]? λx=>ob (ρ x) du):=by simp only[cW,hcal,vD,Gv]
      rw[e];simp only[ai]at h;obtain⟨t,_,u,_,h⟩:=h;unfold two at h;split at h
      . rename_i s x;simp only[pk,ai,aA]at h;obtain⟨_,_,_,_,_,_,_,n,_,_,_,h⟩:=h;cases hz:Nat.beq n 0 with
        | true=>
          simp only[hz,cond_true,aA,Option.some.injEq]at h;obtain⟨_,rfl⟩:=h;exact .refl hl
        | false=>
          simp only[hz,cond_false,ai,aA]at h;obtain⟨_,_,_,_,h⟩:=h;refine y_ h hl λid hid=>?_;rw[hn s x rfl id hid];simp
      . cases h
     case copy=>
      have e:cW cfg ρ (.call c)=sI (ob c.args.toList[0]? λx=>ob (ρ x) du):=by simp only[cW,hcal,vD,Gv]
      rw[e];simp only[ai]at h;obtain⟨t,_,h⟩:=h;unfold two at h;split at h
      . rename_i d s;simp only[Ai,ai,aA]at h;obtain⟨_,_,_,_,_,_,_,_,_,_,_,h⟩:=h;cases d with
        | slice id off len c'=>
          simp only[sK,ai,aA,Option.some.injEq]at h;obtain⟨_,o',hw,rfl⟩:=h;rw[hn _ s rfl id rfl];exact nY hw hl (by simp)
        | nilslice=>
          simp only[sK,Option.some.injEq]at h;subst h;exact .refl hl
        | _=>cases h
      . cases h
   | invoke x n=>simp[hcal]at h
 . rename_i hne;exact K5 h hl
end
theorem gG{ρ ρ':Operand->Option AV}:∀{xs:List Operand},(∀x∈xs,ρ x=ρ' x)->gx ρ xs=gx ρ' xs
 | [],_=>rfl
 | x::xs,h=>by
   simp only[gx];rw[h x List.mem_cons_self,gG λy hy=>h y (List.mem_cons_of_mem _ hy)]
theorem m_{ρ ρ':Operand->Option AV}:∀{xs:List (Nat×Operand)},(∀x∈xs.map (·.2),ρ x=ρ' x)->oF ρ xs=oF ρ' xs
 | [],_=>rfl
 | x::xs,h=>by
   simp only[oF];rw[h x.2 (by simp),m_ λy hy=>h y (by simp at hy ⊢;exact .inr hy)]
theorem p_{ρ':Operand->Option AV}{x:Option Operand}(h:∀y∈x.toArray.toList,ρ y=ρ' y):xU ρ x=xU ρ' x:=by
 cases x with
 | none=>rfl
 | some y=>simp only[xU];rw[h y (by simp)]
section
variable{T:fb}{cfg:cG}{C:bg}{o:aC}{ρ ρ':Operand->Option AV}
theorem Hk(h:∀x∈op.operands.toList,ρ x=ρ' x):Do T C ρ o op=Do T C ρ' o op:=by
 unfold Do;cases op<;>simp only[gT]
 case move=>simp only[sM];rw[h _ (by simp[Op.operands])]
 case assign=>simp only[sM];rw[h _ (by simp[Op.operands])]
 case pick c a b=>simp only[xM];rw[h c (by simp[Op.operands]),h a (by simp[Op.operands]),h b (by simp[Op.operands])]
 case alloc=>rfl
 case box=>simp only[yg];rw[h _ (by simp[Op.operands])]
 case build t ps=>simp only[vN,A1];rw[m_ λx hx=>h x (by simpa [Op.operands]using hx)]
 case buildSlice t l ps=>simp only[fL,h_];rw[m_ λx hx=>h x (by simpa [Op.operands]using hx)]
 case load=>simp only[th];rw[h _ (by simp[Op.operands])]
 case store t a x=>simp only[oY];rw[h a (by simp[Op.operands]),h x (by simp[Op.operands])]
 case nilCheck=>simp only[mM];rw[h _ (by simp[Op.operands])]
 case binOp op t x y u=>simp only[CC];rw[h x (by simp[Op.operands]),h y (by simp[Op.operands])]
 case unOp=>simp only[IO];rw[h _ (by simp[Op.operands])]
 case convert=>simp only[ij];rw[h _ (by simp[Op.operands])]
 case makeInterface=>simp only[wj];rw[h _ (by simp[Op.operands])]
 case makeFunc f a b=>
  simp only[Bz];cases f with
  | func f=>simp only[sW];rw[gG λx hx=>h x (by simp[Op.operands,hx]),gG λx hx=>h x (by simp[Op.operands,hx])]
  | _=>rfl
 case makeMap=>rfl
 case insert t m k x=>simp only[kV];rw[h m (by simp[Op.operands]),h k (by simp[Op.operands]),h x (by simp[Op.operands])]
 case mapUpdate t m k x=>simp only[kV];rw[h m (by simp[Op.operands]),h k (by simp[Op.operands]),h x (by simp[Op.operands])]
 case makeSlice t l c=>simp only[hZ];rw[h l (by simp[Op.operands]),h c (by simp[Op.operands])]
 case slice t x lo hi mx=>
  simp only[qW];rw[h x (by simp[Op.operands]),p_ (x:=lo) λy hy=>h y (by simp at hy;simp[Op.operands,hy]),p_ (x:=hi) λy hy=>h y (by simp at hy;simp[Op.operands,hy]),p_ (x:=mx) λy hy=>h y (by simp at hy;simp[Op.operands,hy])]
 case fieldAddr=>simp only[kY];rw[h _ (by simp[Op.operands])]
 case field=>simp only[vY];rw[h _ (by simp[Op.operands])]
 case indexAddr t x i=>simp only[jz];rw[h x (by simp[Op.operands]),h i (by simp[Op.operands])]
 case index t x i=>simp only[qG];rw[h x (by simp[Op.operands]),h i (by simp[Op.operands])]
 case lookup t x i k=>simp only[nV];rw[h x (by simp[Op.operands]),h i (by simp[Op.operands])]
 case range=>simp only[q7];rw[h _ (by simp[Op.operands])]
 case next=>simp only[qd];rw[h _ (by simp[Op.operands])]
 case extract=>simp only[oH];rw[h _ (by simp[Op.operands])]
 all_goals rfl
theorem Dk{call:bg->FuncId->List AV->aC->Option (AV×aC)}(h:∀x∈op.operands.toList,ρ x=ρ' x):gM T call sY C ρ o op=gM T call sY C ρ' o op:=by
 unfold gM;split
 . rename_i c;unfold rq;cases hcal:c.callee with
   | value f=>
     simp only;rw[h f (by simp[Op.operands,Call.operands,hcal]),gG λx hx=>h x (by simp[Op.operands,Call.operands,hcal,hx])]
   | builtin b=>
     simp only;rw[gG λx hx=>h x (by simp[Op.operands,Call.operands,hcal,hx])]
   | invoke x n=>rfl
 . exact Hk h
theorem C9(h:∀x∈op.operands.toList,ρ x=ρ' x):cW cfg ρ op=cW cfg ρ' op:=by
 cases op<;>simp only[cW,b8,JV]
 case load=>rw[h _ (by simp[Op.operands])]
 case store t a x=>rw[h a (by simp[Op.operands])]
 case insert t m k x=>rw[h m (by simp[Op.operands])]
 case mapUpdate t m k x=>rw[h m (by simp[Op.operands])]
 case next=>rw[h _ (by simp[Op.operands])]
 case call c=>
  cases hcal:c.callee with
  | value f=>
    simp only[vD];rw[h f (by simp[Op.operands,Call.operands,hcal]),gG λx hx=>h x (by simp[Op.operands,Call.operands,hcal,hx])]
  | builtin b=>
    have:(c.args.toList[0]?.elim none λx=>(ρ x).bind du)=(c.args.toList[0]?.elim none λx=>(ρ' x).bind du):=by
     cases hx:c.args.toList[0]? with
     | none=>rfl
     | some a=>simp only[Option.elim];rw[h a (by have:=List.mem_of_getElem? hx;simp at this;simp[Op.operands,Call.operands,hcal,this])]
    have:(ob c.args.toList[0]? λx=>ob (ρ x) du)=(ob c.args.toList[0]? λx=>ob (ρ' x) du):=by
     cases hx:c.args.toList[0]? with
     | none=>rfl
     | some a=>simp only[ob];rw[h a (by have:=List.mem_of_getElem? hx;simp at this;simp[Op.operands,Call.operands,hcal,this])]
    cases b<;>simp only[vD,Gv,this]
  | invoke x n=>rfl
end
def iC(l:List aE)(o:aC):aC:=⟨o.n+l.length,l++o.os,o.le⟩
def LM(o o':aC)(r:AV×aC)(y:Option (AV×aC)):Prop:=∃l,r.2=iC l o/\y=some (r.1,iC l o')
theorem cE{x y:Option AV}(h:gP o x=some r)(e:y=x):LM o o' r (gP o' y):=by
 obtain⟨h1,h2⟩:=bN.1 h;subst e;exact⟨[],h2,by rw[h1];rfl⟩
theorem sG{v:AV}:LM o o' (v,o.push x) (some (v,o'.push x)):=⟨[x],rfl,rfl⟩
theorem rR{α:Type}{b:Bool}{x:Option α}(h:b):ok b x=x:=by subst h;rfl
def tx:Cc->Bool
 | .free|.alloc|.load|.look=>true
 | _=>false
def K0:Cc->Bool
 | .load|.look=>true
 | _=>false
section
variable{T:fb}{cfg:cG}{C C':bg}{o o':aC}{ρ:Operand->Option AV}
theorem tW{v:AV}(hn:C'.lo+o'.n=C.lo+o.n)(h:lA C o v=some r):LM o o' r (lA C' o' v):=by
 simp only[lA,aA,Option.some.injEq]at h;obtain⟨h1,rfl⟩:=h;rw[lA,aA.2 ⟨h1,rfl⟩,aC.next,aC.next,hn];exact sG
theorem Dy(hg:get C' o' id=get C o id):mc C' o' id off n=mc C o id off n:=by
 simp only[mc,hg]
theorem Lp(hk:tx (b8 op))(h:Do T C ρ o op=some r)(hn:C'.lo+o'.n=C.lo+o.n)
 (hg:K0 (b8 op)->∀x∈op.operands.toList,∀v id,ρ x=some v->du v=some id->get C' o' id=get C o id):LM o o' r (Do T C' ρ o' op):=by
 unfold Do at h ⊢;cases op<;>simp only[gT]at h ⊢
 case move=>exact cE h rfl
 case assign=>exact cE h rfl
 case pick=>exact cE h rfl
 case build=>exact cE h rfl
 case nilCheck=>exact cE h rfl
 case binOp=>exact cE h rfl
 case unOp=>exact cE h rfl
 case makeInterface=>exact cE h rfl
 case makeFunc=>exact cE h rfl
 case slice=>exact cE h rfl
 case fieldAddr=>exact cE h rfl
 case field=>exact cE h rfl
 case indexAddr=>exact cE h rfl
 case index=>exact cE h rfl
 case extract=>exact cE h rfl
 case load t a=>
  refine cE h ?_;obtain⟨h1,_⟩:=bN.1 h;simp only[ai]at h1;obtain⟨v,hv,h1⟩:=h1;rw[hv];cases v<;>simp only[rJ,reduceCtorEq]at h1;simp only[ob,rJ];rw[hg rfl a (by simp[Op.operands]) _ _ hv rfl]
 case lookup t a k ok'=>
  refine cE h ?_;obtain⟨h1,_⟩:=bN.1 h;simp only[ai]at h1;obtain⟨v,hv,kv,hkv,h1⟩:=h1;rw[hv,hkv];simp only[BX,ai,aA]at h1;obtain⟨_,_,_,h1⟩:=h1;cases v<;>simp only[rQ,reduceCtorEq]at h1;simp only[ob,BX,rQ];rw[hg rfl a (by simp[Op.operands]) _ _ hv rfl]
 case alloc t=>
  simp only[pB,ai]at h;obtain⟨z,hz,h⟩:=h;simp only[pB,hz,ob];exact tW hn h
 case box t x=>
  simp only[yg,ai]at h;obtain⟨z,hz,h⟩:=h;simp only[yg,hz,ob];exact tW hn h
 case buildSlice t len ps=>
  simp only[fL,h_,ai,aA,Option.some.injEq]at h;obtain⟨e,he,n,hsz,z,hz,ps',hps,h1,cs,hcs,h2,rfl⟩:=h;simp only[fL,h_,he,hsz,hz,hps,ob,rR h1,hcs,rR h2,aC.next,hn];exact sG
 case convert s d x=>
  simp only[ij,ai]at h;obtain⟨v,hv,h⟩:=h;simp only[ij,hv,ob];cases v<;>simp only[jr,reduceCtorEq,aA]at h ⊢
  . rw[rR h.1];exact cE h.2 rfl
  . obtain⟨h1,h⟩:=h;rw[rR h1];unfold oM at h ⊢;split at h
    . cases h;exact⟨[],rfl,rfl⟩
    . simp only[aA,Option.some.injEq]at h;obtain⟨h2,rfl⟩:=h;rw[rR h2,aC.next,aC.next,hn];exact sG
    . cases h
  . rename_i id off len c;refine cE h ?_;have hgi:=hg rfl x (by simp[Op.operands]) _ _ hv rfl;simp only[pD,Dy hgi]
 all_goals first|cases h|cases hk
theorem Dr{call call':bg->FuncId->List AV->aC->Option (AV×aC)}(hk:tx (b8 op))(h:gM T call sY C ρ o op=some r)(hn:C'.lo+o'.n=C.lo+o.n)
 (hg:K0 (b8 op)->∀x∈op.operands.toList,∀v id,ρ x=some v->du v=some id->get C' o' id=get C o id):LM o o' r (gM T call' sY C' ρ o' op):=by
 unfold gM at h ⊢;split at h
 . rename_i c;unfold rq at h ⊢;simp only[b8]at hk;cases hcal:c.callee with
   | value f=>rw[hcal]at hk;cases hk
   | invoke x n=>rw[hcal]at hk;cases hk
   | builtin b=>
     simp only[hcal,ai]at h ⊢;obtain⟨vs,hvs,h⟩:=h;rw[hvs];simp only[ob];rw[hcal]at hk;unfold fU at h ⊢;cases b<;>first|exact cE h rfl|cases hk
 . exact Lp hk h hn hg
end
theorem DO{T:fb}{call:bg->FuncId->List AV->aC->Option (AV×aC)}(hk:ox (b8 op)\/mB (b8 op))(h:gM T call sY C ρ o op=some r):r.2=o:=by
 unfold gM at h;split at h
 . rename_i c;unfold rq at h;simp only[b8]at hk;cases hcal:c.callee with
   | value f=>rw[hcal]at hk;rcases hk with hk|hk<;>cases hk
   | invoke x n=>rw[hcal]at hk;rcases hk with hk|hk<;>cases hk
   | builtin b=>
     simp only[hcal,ai]at h;obtain⟨vs,_,h⟩:=h;rw[hcal]at hk;unfold fU at h;cases b<;>first|exact(bN.1 h).2|(rcases hk with hk|hk<;>cases hk)
 . unfold Do at h;cases op<;>simp only[gT]at h<;>first|exact(bN.1 h).2|(rcases hk with hk|hk<;>cases hk)|cases h
theorem Hh{cfg:cG}(hk:ox (b8 op)):cW cfg ρ op=.none:=by
 cases op<;>first|rfl|(cases hk;done)|skip
 rename_i c;simp only[b8]at hk;simp only[cW];cases hcal:c.callee with
 | value f=>rw[hcal]at hk;cases hk
 | invoke x n=>rw[hcal]at hk;cases hk
 | builtin b=>rw[hcal]at hk;cases b<;>first|rfl|cases hk
theorem Ds{cfg:cG}(hk:tx (b8 op)):cI (cW cfg ρ op)=[]:=by
 cases op<;>first|rfl|(cases hk;done)|skip
 . rename_i t a;simp only[cW];cases(ob (ρ a) du)<;>rfl
 . rename_i c;simp only[b8]at hk;simp only[cW];cases hcal:c.callee with
   | value f=>rw[hcal]at hk;cases hk
   | invoke x n=>rw[hcal]at hk;cases hk
   | builtin b=>rw[hcal]at hk;cases b<;>first|rfl|cases hk
theorem B6{cfg:cG}(hk:tx (b8 op)=false)(hc:b8 op≠.call):∃ids,cW cfg ρ op=.bar ids:=by
 have b1:∀x:Option Nat,∃ids,sI x=.bar ids:=λx=>by cases x<;>exact⟨_,rfl⟩
 cases op<;>first|(cases hk;done)|exact⟨_,rfl⟩|exact b1 _|skip
 rename_i c;simp only[b8]at hk hc;simp only[cW];cases hcal:c.callee with
 | value f=>rw[hcal]at hc;exact absurd rfl hc
 | invoke x n=>exact⟨_,rfl⟩
 | builtin b=>rw[hcal]at hk;cases b<;>first|exact b1 _|cases hk
section
variable(T:fb)(cfg:cG)(call:bg->FuncId->List AV->aC->Option (AV×aC))(C:bg)(ops:Array Oper)
def dc(S:Nat->St)(k:Nat):gk:=match ops[k]? with
 | some op=>bif eE ops (S k).ts op.guard then cW cfg (e9 cfg.G (S k).ts) op.op else .none
 | none=>.none
def zB(S:Nat->St)(k:Nat):Prop:=∃op,ops[k]? = some op/\
 ((eE ops (S k).ts op.guard/\∃r,gM T call sY C (e9 cfg.G (S k).ts) (S k).o op.op=some r/\jx (S k) r.1 r.2 op.dst=some (S (k+1))/\∀id∈cI (cW cfg (e9 cfg.G (S k).ts) op.op),id<C.lo+(S k).o.n)\/
  (eE ops (S k).ts op.guard=false/\jx (S k) bo (S k).o op.dst=some (S (k+1))))
variable{T cfg call C ops}
theorem zj:∀{l:List Oper} {i:Nat} {st:St} {log:List (Nat×gk)} {r:St×List (Nat×gk)},ops.toList.drop i=l->p6 T cfg call C ops i l st log=some r->
 ∃S:Nat->St,S i=st/\S (i+l.length)=r.1/\(∀k,i<=k->k<i+l.length->zB T cfg call C ops S k/\(k,dc cfg ops S k)∈r.2)/\∀e∈log,e∈r.2
 | [],i,st,log,r,hl,h=>by
   cases h;exact⟨λ_=>st,rfl,rfl,λk h1 h2=>by simp at h2;omega,λ_ h=>h⟩
 | op::rest,i,st,log,r,hl,h=>by
   have hk:ops[i]? = some op:=by
    have:(ops.toList.drop i)[0]? = some op:=by rw[hl];rfl
    rw[List.getElem?_drop]at this;simpa using this
   have hrest:ops.toList.drop (i+1)=rest:=by rw[<-List.drop_drop,hl];rfl
   have key:∀(st1:St) (f:gk),p6 T cfg call C ops (i+1) rest st1 ((i,f)::log)=some r->
    (∀S:Nat->St,S i=st->S (i+1)=st1->zB T cfg call C ops S i/\dc cfg ops S i=f)->
    ∃S:Nat->St,S i=st/\S (i+(op::rest).length)=r.1/\(∀k,i<=k->k<i+(op::rest).length->zB T cfg call C ops S k/\(k,dc cfg ops S k)∈r.2)/\∀e∈log,e∈r.2:=by
    intro st1 f hd hs;obtain⟨S,h1,h2,h3,h4⟩:=zj hrest hd;refine⟨λk=>if k=i then st else S k,by simp,?_,?_,λe he=>h4 e (List.mem_cons_of_mem _ he)⟩
    . grind
    . intro k hk1 hk2;simp only[List.length_cons]at hk2;by_cases e:k=i
      . grind
      . obtain⟨a,b⟩:=h3 k (by omega) (by omega);have e1:(λk=>if k=i then st else S k) k=S k:=if_neg e;have e2:(λk=>if k=i then st else S k) (k+1)=S (k+1):=if_neg (by omega);refine⟨?_,?_⟩
        . unfold zB at a ⊢;rw[e1,e2];exact a
        . have:dc cfg ops (λk=>if k=i then st else S k) k=dc cfg ops S k:=by
           unfold dc;rw[e1]
          rw[this];exact b
   unfold p6 at h;cases hw:eE ops st.ts op.guard with
   | true=>
     simp only[hw,cond_true,ai,aA]at h;obtain⟨q,hq,st1,hp,hf,h⟩:=h;refine key st1 _ h λS e1 e2=>⟨⟨op,hk,.inl ?_⟩,?_⟩
     . rw[e1,e2];exact⟨hw,q,hq,hp,Du.1 hf⟩
     . simp only[dc,hk,e1,hw,cond_true]
   | false=>
     simp only[hw,cond_false,ai]at h;obtain⟨st1,hp,h⟩:=h;refine key st1 _ h λS e1 e2=>⟨⟨op,hk,.inr ?_⟩,?_⟩
     . grind
     . simp only[dc,hk,e1,hw,cond_false]
def dI(ops:Array Oper)(k:Nat):Option Tmp:=(ops[k]?).bind (·.dst)
theorem sf{v:AV}(h:jx st v o dst=some st')(t:Nat):st'.ts.get t=(if dst=some t then v else st.ts.get t):=by
 cases dst with
 | none=>simp only[jx,Option.some.injEq]at h;subst h;simp
 | some d=>
   simp only[jx,aA,Option.some.injEq,Bool.and_eq_true]at h;obtain⟨⟨h1,h2⟩,h⟩:=h;rw[aS]at h1 h2;subst h;rw[Ts.get_set 20 _ _ _ _ (Nat.lt_of_lt_of_le h2 (by decide))];by_cases e:t=d
   . grind
   . grind
theorem gW{v:AV}(h:jx st v o dst=some st'):st'.tn=st.tn/\st'.o=o/\∀d,dst=some d->d<st.tn:=by
 cases dst with
 | none=>simp only[jx,Option.some.injEq]at h;subst h;simp
 | some d=>
   simp only[jx,aA,Option.some.injEq,Bool.and_eq_true]at h;obtain⟨⟨h1,h2⟩,h⟩:=h;rw[aS]at h1;subst h;exact⟨rfl,rfl,λd' e=>by cases e;exact h1⟩
theorem pg{v:AV}(h:jx st v o dst=some st'):st'.ds=st.ds/\st'.ro=st.ro:=by
 cases dst with
 | none=>simp only[jx,Option.some.injEq]at h;subst h;exact⟨rfl,rfl⟩
 | some d=>
   simp only[jx,aA,Option.some.injEq,Bool.and_eq_true]at h;obtain⟨_,h⟩:=h;subst h;exact⟨rfl,rfl⟩
def Wr(cfg:cG)(ops:Array Oper)(S:Nat->St)(k i:Nat):Prop:=i∈cI (dc cfg ops S k)/\cfg.root.n<=i
structure ns(T:fb)(cfg:cG)(call:bg->FuncId->List AV->aC->Option (AV×aC))(C:bg)(ops:Array Oper)(S:Nat->St):Prop where
 step:∀k,k<ops.size->zB T cfg call C ops S k
 len0:(S 0).o.os.length=(S 0).o.n
 le0:∀id,id∈(S 0).o.le.map (·.1)->cfg.root.n<=id/\id<C.lo
 lo:cfg.root.n<=C.lo
 g0:∀g,g<cfg.G->g<C.lo+(S 0).o.n
theorem ns.ids(h:ns T cfg call C ops S):∀k,k<ops.size->∀id∈cI (dc cfg ops S k),id<C.lo+(S k).o.n:=by
 intro k hk id hid;obtain⟨op,hop,h1|h1⟩:=h.step k hk
 . obtain⟨hw,r,hr,hp,hb⟩:=h1;simp only[dc,hop,hw,cond_true]at hid;exact hb id hid
 . simp only[dc,hop,h1.1,cond_false]at hid;cases hid
theorem ns.stepF(h:ns T cfg call C ops S)(hc:b9 cfg call):∀k,k<ops.size->(S k).o.os.length=(S k).o.n->e8 C (S k).o (S (k+1)).o (cI (dc cfg ops S k)):=by
 intro k hk hl;obtain⟨op,hop,h1|h1⟩:=h.step k hk
 . obtain⟨hw,r,hr,hp,hb⟩:=h1;rw[(gW hp).2.1];have:=qx hc hr hl;simp only[dc,hop,hw,cond_true];exact this
 . rw[(gW h1.2).2.1];exact .refl hl
theorem ns.len(h:ns T cfg call C ops S)(hc:b9 cfg call):∀k,k<=ops.size->(S k).o.os.length=(S k).o.n
 | 0,_=>h.len0
 | k+1,hk=>(h.stepF hc k (by omega) (h.len hc k (by omega))).len
theorem ns.foot(h:ns T cfg call C ops S)(hc:b9 cfg call)(k:Nat)(hk:k<ops.size):e8 C (S k).o (S (k+1)).o (cI (dc cfg ops S k)):=h.stepF hc k hk (h.len hc k (by omega))
theorem ns.tn(h:ns T cfg call C ops S):∀k,k<=ops.size->(S k).tn=(S 0).tn
 | 0,_=>rfl
 | k+1,hk=>by
   rw[<-h.tn k (by omega)];obtain⟨op,hop,h1|h1⟩:=h.step k (by omega)
   . obtain⟨hw,r,hr,hp,hb⟩:=h1;exact(gW hp).1
   . exact(gW h1.2).1
theorem ns.ds(h:ns T cfg call C ops S):∀k,k<=ops.size->(S k).ds=(S 0).ds/\(S k).ro=(S 0).ro
 | 0,_=>⟨rfl,rfl⟩
 | k+1,hk=>by
   obtain⟨i1,i2⟩:=h.ds k (by omega);rw[<-i1,<-i2];obtain⟨op,hop,h1|h1⟩:=h.step k (by omega)
   . obtain⟨hw,r,hr,hp,hb⟩:=h1;exact pg hp
   . exact pg h1.2
theorem ns.le(h:ns T cfg call C ops S)(hc:b9 cfg call):∀k,k<=ops.size->(S k).o.le.map (·.1)=(S 0).o.le.map (·.1)
 | 0,_=>rfl
 | k+1,hk=>(h.foot hc k (by omega)).le.trans (h.le hc k (by omega))
theorem ns.mono(h:ns T cfg call C ops S)(hc:b9 cfg call):∀d,k+d<=ops.size->(S k).o.n<=(S (k+d)).o.n
 | 0,_=>Nat.le_refl _
 | d+1,hk=>Nat.le_trans (h.mono hc d (by omega)) (h.foot hc (k+d) (by omega)).grow
theorem ns.mono'(h:ns T cfg call C ops S)(hc:b9 cfg call)(h1:k<=k')(h2:k'<=ops.size):(S k).o.n<=(S k').o.n:=by
 have:=h.mono hc (k:=k) (k' - k) (by omega)
 rwa [show k+(k' - k)=k' by omega]at this
theorem ns.root(h:ns T cfg call C ops S)(hc:b9 cfg call)(k:Nat)(hk:k<=ops.size)(hi:i<cfg.root.n):get C (S k).o i=get C (S 0).o i:=by
 have hlo:=h.lo;have hb:Nat.ble C.lo i=false:=jK (by omega);have key:∀o:aC,(o.le.map (·.1)=(S 0).o.le.map (·.1))->get C o i=gy C.B i:=by
  intro o ho;rw[get,gy];simp only[hb,cond_false];cases hx:fg o.le i with
  | none=>rfl
  | some x=>
    have:i∈o.le.map (·.1):=eV.1 (by rw[hx];rfl);rw[ho]at this;have:=(h.le0 i this).1;omega
 rw[key _ (h.le hc k hk),key _ rfl]
theorem ns.same1(h:ns T cfg call C ops S)(hc:b9 cfg call)(hk:k<ops.size)(hi:i<C.lo+(S k).o.n)(hw:¬Wr cfg ops S k i):get C (S (k+1)).o i=get C (S k).o i:=by
 by_cases hr:i<cfg.root.n
 . rw[h.root hc (k+1) (by omega) hr,h.root hc k (by omega) hr]
 . exact(h.foot hc k hk).same (h.ids k hk) i hi λhm=>hw ⟨hm,by omega⟩
theorem ns.same(h:ns T cfg call C ops S)(hc:b9 cfg call):∀d,k+d<=ops.size->i<C.lo+(S k).o.n->(∀j,k<=j->j<k+d->¬Wr cfg ops S j i)->get C (S (k+d)).o i=get C (S k).o i
 | 0,_,_,_=>rfl
 | d+1,hd,hi,hw=>by
   have hm:=h.mono hc (k:=k) d (by omega);rw[<-h.same hc d (by omega) hi λj h1 h2=>hw j h1 (by omega)];exact h.same1 (k:=k+d) hc (by omega) (by omega) (hw (k+d) (by omega) (by omega))
theorem ns.same'(h:ns T cfg call C ops S)(hc:b9 cfg call)(h1:k<=k')(h2:k'<=ops.size)(hi:i<C.lo+(S k).o.n)(hw:∀j,k<=j->j<k'->¬Wr cfg ops S j i):get C (S k').o i=get C (S k).o i:=by
 have:=h.same hc (k:=k) (k' - k) (by omega) hi λj h3 h4=>hw j h3 (by omega)
 rwa [show k+(k' - k)=k' by omega]at this
theorem ns.ts1(h:ns T cfg call C ops S)(hk:k<ops.size)(ht:dI ops k≠some t):(S (k+1)).ts.get t=(S k).ts.get t:=by
 obtain⟨op,hop,h1|h1⟩:=h.step k hk
 . obtain⟨hw,r,hr,hp,hb⟩:=h1;rw[sf hp,if_neg (by simpa [dI,hop]using ht)]
 . rw[sf h1.2,if_neg (by simpa [dI,hop]using ht)]
theorem ns.ts(h:ns T cfg call C ops S):∀d,k+d<=ops.size->(∀j,k<=j->j<k+d->dI ops j≠some t)->(S (k+d)).ts.get t=(S k).ts.get t
 | 0,_,_=>rfl
 | d+1,hd,hw=>by
   rw[<-h.ts d (by omega) λj h1 h2=>hw j h1 (by omega)];exact h.ts1 (k:=k+d) (by omega) (hw (k+d) (by omega) (by omega))
theorem ns.ts'(h:ns T cfg call C ops S)(h1:k<=k')(h2:k'<=ops.size)(hw:∀j,k<=j->j<k'->dI ops j≠some t):(S k').ts.get t=(S k).ts.get t:=by
 have:=h.ts (k:=k) (t:=t) (k' - k) (by omega) λj h3 h4=>hw j h3 (by omega)
 rwa [show k+(k' - k)=k' by omega]at this
end
end Go.Ev
