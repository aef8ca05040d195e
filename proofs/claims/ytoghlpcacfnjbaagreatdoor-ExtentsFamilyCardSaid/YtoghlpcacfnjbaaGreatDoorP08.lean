import Derived.Test.YtoghlpcacfnjbaaGreatDoorP07
set_option linter.all false
set_option maxRecDepth 100000
set_option maxHeartbeats 4000000
namespace Go.Ev
open Go Go.RowKit
variable{n j i id off k k' t:Nat}{C:bg}{o o':aB}{x:aD}{r:AV×aB}{op:Op}{ρ:Operand->Option AV}{st st':St}{dst:Option Tmp}{S:Nat->St}
theorem H7{α:Type}(k:Nat->α)(n:Nat):Ly k n=k n:=by cases n<;>rfl
theorem z7{α:Type}(k:List Nat->α)(l:List Nat):EH k l=k l:=by cases l<;>rfl
theorem kn{acc:List Nat}(h:(lN acc n j).testBit i):j<n:=by
 unfold lN at h;cases hb:aS j n with
 | true=>exact aU.1 hb
 | false=>simp[hb]at h
theorem GV{acc:List Nat}{n i:Nat}:∀{es:List Edge} {s:Nat},(Wb acc n es s).testBit i->s.testBit i\/∃e∈es,Region.binds .any e/\(e.on=i\/(lN acc n e.on).testBit i=true)
 | [],s,h=>.inl h
 | e::es,s,h=>by
   rw[Wb]at h;rcases GV h with h|⟨e',he,h1,h2⟩
   . grind
   . grind
theorem Ii(o:Oper)(prev:List Oper):qN (o::prev)=Wb (qN prev) prev.length o.after.toList 0::qN prev:=by
 rw[qN,z7,H7]
theorem od{v:Nat}{acc:List Nat}:lN (v::acc) (n+1) j=if j=n then v else lN acc n j:=by
 unfold lN;by_cases e:j=n
 . subst e;rw[if_pos rfl,aU.2 (by omega),cond_true,show j+1-1-j=0 by omega];rfl
 . rw[if_neg e];by_cases h:j<n
   . rw[aU.2 h,aU.2 (by omega),cond_true,cond_true];obtain⟨k,hk⟩:∃k,n-j=k+1:=⟨n-j-1,by omega⟩;rw[show n+1-1-j=k+1 by omega,show n-1-j=k by omega];rfl
   . rw[ou.2 (by omega),ou.2 (by omega)];rfl
theorem Eh{i:Nat}:∀{R:List Oper} {j:Nat},(lN (qN R) R.length j).testBit i->
 ∃o,R[R.length-1-j]? = some o/\∃e∈o.after.toList,Region.binds .any e/\(e.on=i\/e.on<j/\(lN (qN R) R.length e.on).testBit i=true)
 | [],j,h=>by have:=kn h;simp at this
 | o::prev,j,h=>by
   have hj:=kn h;rw[Ii]at h ⊢;rw[List.length_cons]at h hj ⊢;rw[od]at h;by_cases e:j=prev.length
   . rw[if_pos e]at h;rcases GV h with h|⟨e',he,h1,h2⟩
     . simp at h
     . refine⟨o,by rw[show prev.length+1-1-j=0 by omega];rfl,e',he,h1,?_⟩;rcases h2 with h2|h2
       . omega
       . have:=kn h2;exact .inr ⟨by omega,by rw[od,if_neg (by omega)];exact h2⟩
   . rw[if_neg e]at h;obtain⟨o',ho,e',he,h1,h2⟩:=Eh h;have:=kn h;refine⟨o',?_,e',he,h1,?_⟩
     . grind
     . rcases h2 with h2|⟨h2,h3⟩
       . omega
       . have:=kn h3;exact .inr ⟨h2,by rw[od,if_neg (by omega)];exact h3⟩
def ly(ops:Array Oper)(E:Nat->Prop)(j:Nat):Prop:=∀o,ops[j]? = some o->∀e∈o.after.toList,Region.binds .any e->E e.on
theorem A5{ops:Array Oper}{E:Nat->Prop}(hd:∀j,E j->ly ops E j):∀j,ly ops E j->zY (qN ops.toList.reverse) ops.size i j->E i:=by
 intro j;induction j using Nat.strongRecOn with
 | ind j ih=>
   intro hj hb;have hl:ops.toList.reverse.length=ops.size:=by simp
   unfold zY at hb;rw[<-hl]at hb;obtain⟨o,ho,e,he,h1,h2⟩:=Eh hb;have hjl:=kn hb;rw[hl]at hjl ho;have hget:ops[j]? = some o:=by
    grind
   have hon:=hj o hget e he h1;rcases h2 with h2|⟨h2,h3⟩
   . grind
   . rw[hl]at h3;exact ih e.on h2 (hd _ hon) h3
theorem x7{ρ:Operand->Option AV}:∀{xs:List Operand} {vs:List AV},gz ρ xs=some vs->∀k:Nat,(xs[k]?).bind ρ=vs[k]?
 | [],vs,h,k=>by cases h;simp
 | x::xs,vs,h,k=>by
   simp only[gz,ag,Option.some.injEq]at h;obtain⟨v,hv,vs',hvs,rfl⟩:=h;cases k with
   | zero=>simp[hv]
   | succ k=>simpa using x7 hvs k
structure fh(C:bg)(o o':aB)(ids:List Nat):Prop where
 c0:o.n<=o'.n
 le:o'.le.map (·.1)=o.le.map (·.1)
 h0:o'.os.length=o'.n
 f0:(∀id∈ids,id<C.lo+o.n)->∀i,i<C.lo+o.n->i∉ids->get C o' i=get C o i
theorem fh.a0{ids:List Nat}(h:o.os.length=o.n):fh C o o ids:=⟨Nat.le_refl _,rfl,h,λ_ _ _ _=>rfl⟩
theorem fh.b0{ids:List Nat}(h:o.os.length=o.n):fh C o (o.b0 x) ids:=
 ⟨by simp[aB.b0],rfl,by simp[aB.b0,h],λ_ i hi _=>by rw[xM (by omega),if_neg (by omega)]⟩
theorem Jb(hl:o.os.length=o.n)(hi:id<C.lo+o.n)(hj:j<C.lo+o.n)(hn:j≠id):get C (ea C o id x) j=get C o j:=by
 unfold get gB ea;cases hb:Nat.ble C.lo id with
 | true=>
   have h1:=bx.1 hb;simp only[cond_true];cases hc:Nat.ble C.lo j with
   | true=>
     have h2:=bx.1 hc;simp only[cond_true];rw[aB.c0 o x _ _ hl (by omega) (by omega),if_neg (by omega)]
   | false=>rfl
 | false=>
   simp only[cond_false];cases hc:Nat.ble C.lo j with
   | true=>rfl
   | false=>
     simp only[cond_false];rw[qD,if_neg (λh=>hn h.1)]
theorem fh.d0{ids:List Nat}(h:o.os.length=o.n)(hm:id∈ids):fh C o (ea C o id x) ids:=
 ⟨Nat.le_of_eq vJ.symm,qM,m8 h,λhb i hi hn=>Jb h (hb id hm) hi (λe=>hn (e▸hm))⟩
theorem fh.e0{o1 o2:aB}{ids:List Nat}(h:fh C o o1 ids)(k:fh C o1 o2 ids):fh C o o2 ids:=
 ⟨Nat.le_trans h.c0 k.c0,k.le.trans h.le,k.h0,λhb i hi hn=>by
  have:=h.c0;rw[k.f0 (λid hm=>by have:=hb id hm;omega) i (by omega) hn,h.f0 hb i hi hn]⟩
theorem AH{n:Nat}:∀{l:List Nat},nP n l=true↔∀x∈l,x<n
 | []=>by simp[nP]
 | x::l=>by simp[nP,AH (l:=l),aU]
theorem Fs{f:gD}:xU n f=true↔∀x∈cN f,x<n:=by
 cases f<;>simp[xU,cN,AH]
theorem lx{vs:List AV}{ids:List Nat}(h:jO C o id off vs=some o')(hl:o.os.length=o.n)(hm:id∈ids):fh C o o' ids:=by
 simp only[jO,ag,Option.some.injEq]at h;obtain⟨x,_,x',_,rfl⟩:=h;exact .d0 hl hm
theorem zB{size:Nat}{new:List AV}{s:AV}{ids:List Nat}(h:jt C o size n new s=some r)(hl:o.os.length=o.n)
 (hm:∀id,cW s=some id->id∈ids):fh C o r.2 ids:=by
 cases s<;>simp only[jt,reduceCtorEq,Option.some.injEq]at h
 case c id off len c=>
  have h1:=hm id rfl;cases c with
  | b c=>
    simp only[appendCap,lB]at h;cases hb:Nat.ble (len+n) c with
    | true=>
      simp only[hb,cond_true,ag,Option.some.injEq]at h;obtain⟨o',hw,rfl⟩:=h;exact lx hw hl h1
    | false=>
      simp only[hb,cond_false,ag,Option.some.injEq]at h;obtain⟨old,hw,rfl⟩:=h;exact .b0 hl
  | a k=>
    simp only[appendCap,nB,aA,ag,Option.some.injEq]at h;obtain⟨_,x,_,cs,_,rfl⟩:=h;exact(fh.d0 hl h1).e0 (.b0 (m8 hl))
 case f=>subst h;exact .b0 hl
def b8(cfg:cL)(call:bg->FuncId->List AV->aB->Option (AV×aB)):Prop:=
 ∀C f args o r,call C f args o=some r->o.os.length=o.n->fh C o r.2 (cI args (cfg.b0 f))
theorem co{x:Option AV}{ids:List Nat}(hl:o.os.length=o.n)(h:gS o x=some r):fh C o r.2 ids:=by
 rw[(bK.1 h).2];exact .a0 hl
theorem n_{x:Option Nat}(h:x=some id):cN (tI x)=[id]:=by subst h;rfl
section
variable{T:fm}{cfg:cL}{C:bg}{o:aB}{ρ:Operand->Option AV}
theorem I8(h:Eo T C ρ o op=some r)(hl:o.os.length=o.n):fh C o r.2 (cN (cX cfg ρ op)):=by
 unfold Eo at h;cases op<;>simp only[gW]at h
 case move=>exact co hl h
 case assign=>exact co hl h
 case pick=>exact co hl h
 case build=>exact co hl h
 case load=>exact co hl h
 case nilCheck=>exact co hl h
 case binOp=>exact co hl h
 case unOp=>exact co hl h
 case makeInterface=>exact co hl h
 case makeFunc=>exact co hl h
 case slice=>exact co hl h
 case fieldAddr=>exact co hl h
 case field=>exact co hl h
 case indexAddr=>exact co hl h
 case index=>exact co hl h
 case lookup=>exact co hl h
 case extract=>exact co hl h
 case alloc=>
  simp only[pq,ag,lG,aA,Option.some.injEq]at h;obtain⟨z,_,_,rfl⟩:=h;exact .b0 hl
 case box=>
  simp only[xG,ag,lG,aA,Option.some.injEq]at h;obtain⟨z,_,_,rfl⟩:=h;exact .b0 hl
 case buildSlice=>
  simp only[fT,iq,ag,aA,Option.some.injEq]at h;obtain⟨_,_,_,_,_,_,_,_,_,_,_,_,rfl⟩:=h;exact .b0 hl
 case makeMap=>
  simp only[pA,aA,Option.some.injEq]at h;obtain⟨_,rfl⟩:=h;exact .b0 hl
 case makeSlice=>
  simp only[ik,na,ag,aA,Option.some.injEq]at h;obtain⟨_,_,_,_,_,_,_,_,_,_,_,_,_,_,_,rfl⟩:=h;exact .b0 hl
 case range=>
  simp only[rJ,ag]at h;obtain⟨v,_,h⟩:=h;cases v<;>simp only[Fe,reduceCtorEq,aA,Option.some.injEq]at h;obtain⟨_,rfl⟩:=h;exact .b0 hl
 case convert=>
  simp only[ip,ag]at h;obtain⟨v,_,h⟩:=h;cases v<;>simp only[jA,reduceCtorEq,aA]at h
  . exact co hl h.2
  . obtain⟨_,h⟩:=h;unfold o8 at h;split at h
    . cases h;exact .a0 hl
    . simp only[aA,Option.some.injEq]at h;obtain⟨_,rfl⟩:=h;exact .b0 hl
    . cases h
  . exact co hl h
 case store t a x=>
  simp only[oY,ag,Option.some.injEq]at h;obtain⟨p,hp,v,hv,o',hs,rfl⟩:=h;cases p<;>simp only[yO,reduceCtorEq,ag,aA]at hs;rename_i id off;obtain⟨_,_,_,hs⟩:=hs;have e:cN (cX cfg ρ (.store t a x))=[id]:=n_ (by rw[hp];rfl);rw[e];exact lx hs hl (by simp)
 case insert t m k x=>
  simp only[lc,ag]at h;obtain⟨p,hp,kv,hk,v,hv,h⟩:=h;simp only[BC,ag,aA]at h;obtain⟨_,_,_,h⟩:=h;cases p<;>simp only[wV,reduceCtorEq,ag]at h;rename_i id;obtain⟨_,_,es,_,fr,_,h⟩:=h;have e:cN (cX cfg ρ (.insert t m k x))=[id]:=n_ (by rw[hp];rfl);rw[e];cases fr<;>simp only[ag,Option.some.injEq]at h
  . subst h;exact .d0 hl (by simp)
  . obtain⟨_,_,rfl⟩:=h;exact .d0 hl (by simp)
 case mapUpdate t m k x=>
  simp only[lc,ag]at h;obtain⟨p,hp,kv,hk,v,hv,h⟩:=h;simp only[BC,ag,aA]at h;obtain⟨_,_,_,h⟩:=h;cases p<;>simp only[wV,reduceCtorEq,ag]at h;rename_i id;obtain⟨_,_,es,_,fr,_,h⟩:=h;have e:cN (cX cfg ρ (.mapUpdate t m k x))=[id]:=n_ (by rw[hp];rfl);rw[e];cases fr<;>simp only[ag,Option.some.injEq]at h
  . subst h;exact .d0 hl (by simp)
  . obtain⟨_,_,rfl⟩:=h;exact .d0 hl (by simp)
 case next it s=>
  simp only[qS,ag,aA]at h;obtain⟨_,p,hp,h⟩:=h;unfold DN at h;split at h
  . rename_i id;simp only[ag]at h;obtain⟨x,_,h⟩:=h;have e:cN (cX cfg ρ (.next it s))=[id]:=n_ (by rw[hp];rfl);rw[e];cases x<;>simp only[sf,reduceCtorEq,Option.some.injEq]at h;subst h;unfold Dl;cases aS _ _ with
    | true=>exact .d0 hl (by simp)
    | false=>exact .a0 hl
  . cases h
 all_goals cases h
theorem qT{call:bg->FuncId->List AV->aB->Option (AV×aB)}(hc:b8 cfg call)(h:gQ T call tP C ρ o op=some r)(hl:o.os.length=o.n) :
 fh C o r.2 (cN (cX cfg ρ op)):=by
 unfold gQ at h;split at h
 . rename_i c;unfold sQ at h;cases hcal:c.callee with
   | value f=>
     simp only[hcal,ag]at h;obtain⟨fv,hf,vs,hvs,h⟩:=h;cases fv<;>simp only[G_,tP,reduceCtorEq]at h;rename_i fid first captured
     have e:cN (cX cfg ρ (.call c))=cI (first++vs++captured) (cfg.b0 fid):=by
      simp only[cX,hcal,vX,hf,hvs,GE];cases cI (first++vs++captured) (cfg.b0 fid)<;>rfl
     rw[e];exact hc C fid _ o r h hl
   | builtin b=>
     simp only[hcal,ag]at h;obtain⟨vs,hvs,h⟩:=h;have h0:=x7 hvs 0;have hn:∀x y,vs=[x,y]->∀id,cW x=some id->cN (tI (ob c.args.toList[0]? λx=>ob (ρ x) cW))=[id]:=by
      rintro x y rfl id hid;refine n_ ?_;simp only[List.getElem?_cons_zero]at h0;cases hx:c.args.toList[0]? with
      | none=>rw[hx]at h0;cases h0
      | some a=>rw[hx]at h0;simp only[Option.bind_some]at h0;simp only[ob,h0,hid]
     unfold gb at h;cases b<;>simp only[reduceCtorEq]at h
     case len=>exact co hl h
     case cap=>exact co hl h
     case min=>exact co hl h
     case max=>exact co hl h
     case append=>
      have e:cX cfg ρ (.call c)=tI (ob c.args.toList[0]? λx=>ob (ρ x) cW):=by simp only[cX,hcal,vX,G6]
      rw[e];simp only[ag]at h;obtain⟨t,_,u,_,h⟩:=h;unfold two at h;split at h
      . rename_i s x;simp only[pt,ag,aA]at h;obtain⟨_,_,_,_,_,_,_,n,_,_,_,h⟩:=h;cases hz:Nat.beq n 0 with
        | true=>
          simp only[hz,cond_true,aA,Option.some.injEq]at h;obtain⟨_,rfl⟩:=h;exact .a0 hl
        | false=>
          simp only[hz,cond_false,ag,aA]at h;obtain⟨_,_,_,_,h⟩:=h;refine zB h hl λid hid=>?_;rw[hn s x rfl id hid];simp
      . cases h
     case copy=>
      have e:cX cfg ρ (.call c)=tI (ob c.args.toList[0]? λx=>ob (ρ x) cW):=by simp only[cX,hcal,vX,G6]
      rw[e];simp only[ag]at h;obtain⟨t,_,h⟩:=h;unfold two at h;split at h
      . rename_i d s;simp only[AF,ag,aA]at h;obtain⟨_,_,_,_,_,_,_,_,_,_,_,h⟩:=h;cases d with
        | c id off len c'=>
          simp only[t_,ag,aA,Option.some.injEq]at h;obtain⟨_,o',hw,rfl⟩:=h;rw[hn _ s rfl id rfl];exact lx hw hl (by simp)
        | f=>
          simp only[t_,Option.some.injEq]at h;subst h;exact .a0 hl
        | _=>cases h
      . cases h
   | invoke x n=>simp[hcal]at h
 . rename_i hne;exact I8 h hl
end
theorem gI{ρ ρ':Operand->Option AV}:∀{xs:List Operand},(∀x∈xs,ρ x=ρ' x)->gz ρ xs=gz ρ' xs
 | [],_=>rfl
 | x::xs,h=>by
   simp only[gz];rw[h x List.mem_cons_self,gI λy hy=>h y (List.mem_cons_of_mem _ hy)]
theorem mO{ρ ρ':Operand->Option AV}:∀{xs:List (Nat×Operand)},(∀x∈xs.map (·.2),ρ x=ρ' x)->oA ρ xs=oA ρ' xs
 | [],_=>rfl
 | x::xs,h=>by
   simp only[oA];rw[h x.2 (by simp),mO λy hy=>h y (by simp at hy ⊢;exact .inr hy)]
theorem qB{ρ':Operand->Option AV}{x:Option Operand}(h:∀y∈x.toArray.toList,ρ y=ρ' y):yT ρ x=yT ρ' x:=by
 cases x with
 | none=>rfl
 | some y=>simp only[yT];rw[h y (by simp)]
section
variable{T:fm}{cfg:cL}{C:bg}{o:aB}{ρ ρ':Operand->Option AV}
theorem HZ(h:∀x∈op.operands.toList,ρ x=ρ' x):Eo T C ρ o op=Eo T C ρ' o op:=by
 unfold Eo;cases op<;>simp only[gW]
 case move=>simp only[th];rw[h _ (by simp[Op.operands])]
 case assign=>simp only[th];rw[h _ (by simp[Op.operands])]
 case pick c a b=>simp only[xT];rw[h c (by simp[Op.operands]),h a (by simp[Op.operands]),h b (by simp[Op.operands])]
 case alloc=>rfl
 case box=>simp only[xG];rw[h _ (by simp[Op.operands])]
 case build t ps=>simp only[ww,B1];rw[mO λx hx=>h x (by simpa [Op.operands]using hx)]
 case buildSlice t l ps=>simp only[fT,iq];rw[mO λx hx=>h x (by simpa [Op.operands]using hx)]
 case load=>simp only[tN];rw[h _ (by simp[Op.operands])]
 case store t a x=>simp only[oY];rw[h a (by simp[Op.operands]),h x (by simp[Op.operands])]
 case nilCheck=>simp only[mW];rw[h _ (by simp[Op.operands])]
 case binOp op t x y u=>simp only[DX];rw[h x (by simp[Op.operands]),h y (by simp[Op.operands])]
 case unOp=>simp only[Kp];rw[h _ (by simp[Op.operands])]
 case convert=>simp only[ip];rw[h _ (by simp[Op.operands])]
 case makeInterface=>simp only[wz];rw[h _ (by simp[Op.operands])]
 case makeFunc f a b=>
  simp only[Ca];cases f with
  | func f=>simp only[tT];rw[gI λx hx=>h x (by simp[Op.operands,hx]),gI λx hx=>h x (by simp[Op.operands,hx])]
  | _=>rfl
 case makeMap=>rfl
 case insert t m k x=>simp only[lc];rw[h m (by simp[Op.operands]),h k (by simp[Op.operands]),h x (by simp[Op.operands])]
 case mapUpdate t m k x=>simp only[lc];rw[h m (by simp[Op.operands]),h k (by simp[Op.operands]),h x (by simp[Op.operands])]
 case makeSlice t l c=>simp only[ik];rw[h l (by simp[Op.operands]),h c (by simp[Op.operands])]
 case slice t x lo hi mx=>
  simp only[sg];rw[h x (by simp[Op.operands]),qB (x:=lo) λy hy=>h y (by simp at hy;simp[Op.operands,hy]),qB (x:=hi) λy hy=>h y (by simp at hy;simp[Op.operands,hy]),qB (x:=mx) λy hy=>h y (by simp at hy;simp[Op.operands,hy])]
 case fieldAddr=>simp only[lE];rw[h _ (by simp[Op.operands])]
 case field=>simp only[wB];rw[h _ (by simp[Op.operands])]
 case indexAddr t x i=>simp only[jq];rw[h x (by simp[Op.operands]),h i (by simp[Op.operands])]
 case index t x i=>simp only[rz];rw[h x (by simp[Op.operands]),h i (by simp[Op.operands])]
 case lookup t x i k=>simp only[oe];rw[h x (by simp[Op.operands]),h i (by simp[Op.operands])]
 case range=>simp only[rJ];rw[h _ (by simp[Op.operands])]
 case next=>simp only[qS];rw[h _ (by simp[Op.operands])]
 case extract=>simp only[pG];rw[h _ (by simp[Op.operands])]
 all_goals rfl
theorem Dd{call:bg->FuncId->List AV->aB->Option (AV×aB)}(h:∀x∈op.operands.toList,ρ x=ρ' x):gQ T call tP C ρ o op=gQ T call tP C ρ' o op:=by
 unfold gQ;split
 . rename_i c;unfold sQ;cases hcal:c.callee with
   | value f=>
     simp only;rw[h f (by simp[Op.operands,Call.operands,hcal]),gI λx hx=>h x (by simp[Op.operands,Call.operands,hcal,hx])]
   | builtin b=>
     simp only;rw[gI λx hx=>h x (by simp[Op.operands,Call.operands,hcal,hx])]
   | invoke x n=>rfl
 . exact HZ h
theorem D4(h:∀x∈op.operands.toList,ρ x=ρ' x):cX cfg ρ op=cX cfg ρ' op:=by
 cases op<;>simp only[cX,bY,Ms]
 case load=>rw[h _ (by simp[Op.operands])]
 case store t a x=>rw[h a (by simp[Op.operands])]
 case insert t m k x=>rw[h m (by simp[Op.operands])]
 case mapUpdate t m k x=>rw[h m (by simp[Op.operands])]
 case next=>rw[h _ (by simp[Op.operands])]
 case call c=>
  cases hcal:c.callee with
  | value f=>
    simp only[vX];rw[h f (by simp[Op.operands,Call.operands,hcal]),gI λx hx=>h x (by simp[Op.operands,Call.operands,hcal,hx])]
  | builtin b=>
    have:(c.args.toList[0]?.elim none λx=>(ρ x).bind cW)=(c.args.toList[0]?.elim none λx=>(ρ' x).bind cW):=by
     cases hx:c.args.toList[0]? with
     | none=>rfl
     | some a=>simp only[Option.elim];rw[h a (by have:=List.mem_of_getElem? hx;simp at this;simp[Op.operands,Call.operands,hcal,this])]
    have:(ob c.args.toList[0]? λx=>ob (ρ x) cW)=(ob c.args.toList[0]? λx=>ob (ρ' x) cW):=by
     cases hx:c.args.toList[0]? with
     | none=>rfl
     | some a=>simp only[ob];rw[h a (by have:=List.mem_of_getElem? hx;simp at this;simp[Op.operands,Call.operands,hcal,this])]
    cases b<;>simp only[vX,G6,this]
  | invoke x n=>rfl
end
def iF(l:List aD)(o:aB):aB:=⟨o.n+l.length,l++o.os,o.le⟩
def Jk(o o':aB)(r:AV×aB)(y:Option (AV×aB)):Prop:=∃l,r.2=iF l o/\y=some (r.1,iF l o')
theorem cG{x y:Option AV}(h:gS o x=some r)(e:y=x):Jk o o' r (gS o' y):=by
 obtain⟨h1,h2⟩:=bK.1 h;subst e;exact⟨[],h2,by rw[h1];rfl⟩
theorem tv{v:AV}:Jk o o' (v,o.b0 x) (some (v,o'.b0 x)):=⟨[x],rfl,rfl⟩
theorem sT{α:Type}{b:Bool}{x:Option α}(h:b):ok b x=x:=by subst h;rfl
def tS:De->Bool
 | .b|.e|.c|.d=>true
 | _=>false
def KX:De->Bool
 | .c|.d=>true
 | _=>false
section
variable{T:fm}{cfg:cL}{C C':bg}{o o':aB}{ρ:Operand->Option AV}
theorem vT{v:AV}(hn:C'.lo+o'.n=C.lo+o.n)(h:lG C o v=some r):Jk o o' r (lG C' o' v):=by
 simp only[lG,aA,Option.some.injEq]at h;obtain⟨h1,rfl⟩:=h;rw[lG,aA.2 ⟨h1,rfl⟩,aB.a0,aB.a0,hn];exact tv
theorem Fo(hg:get C' o' id=get C o id):mA C' o' id off n=mA C o id off n:=by
 simp only[mA,hg]
theorem Kw(hk:tS (bY op))(h:Eo T C ρ o op=some r)(hn:C'.lo+o'.n=C.lo+o.n)
 (hg:KX (bY op)->∀x∈op.operands.toList,∀v id,ρ x=some v->cW v=some id->get C' o' id=get C o id):Jk o o' r (Eo T C' ρ o' op):=by
 unfold Eo at h ⊢;cases op<;>simp only[gW]at h ⊢
 case move=>exact cG h rfl
 case assign=>exact cG h rfl
 case pick=>exact cG h rfl
 case build=>exact cG h rfl
 case nilCheck=>exact cG h rfl
 case binOp=>exact cG h rfl
 case unOp=>exact cG h rfl
 case makeInterface=>exact cG h rfl
 case makeFunc=>exact cG h rfl
 case slice=>exact cG h rfl
 case fieldAddr=>exact cG h rfl
 case field=>exact cG h rfl
 case indexAddr=>exact cG h rfl
 case index=>exact cG h rfl
 case extract=>exact cG h rfl
 case load t a=>
  refine cG h ?_;obtain⟨h1,_⟩:=bK.1 h;simp only[ag]at h1;obtain⟨v,hv,h1⟩:=h1;rw[hv];cases v<;>simp only[rI,reduceCtorEq]at h1;simp only[ob,rI];rw[hg rfl a (by simp[Op.operands]) _ _ hv rfl]
 case lookup t a k ok'=>
  refine cG h ?_;obtain⟨h1,_⟩:=bK.1 h;simp only[ag]at h1;obtain⟨v,hv,kv,hkv,h1⟩:=h1;rw[hv,hkv];simp only[C_,ag,aA]at h1;obtain⟨_,_,_,h1⟩:=h1;cases v<;>simp only[rX,reduceCtorEq]at h1;simp only[ob,C_,rX];rw[hg rfl a (by simp[Op.operands]) _ _ hv rfl]
 case alloc t=>
  simp only[pq,ag]at h;obtain⟨z,hz,h⟩:=h;simp only[pq,hz,ob];exact vT hn h
 case box t x=>
  simp only[xG,ag]at h;obtain⟨z,hz,h⟩:=h;simp only[xG,hz,ob];exact vT hn h
 case buildSlice t len ps=>
  simp only[fT,iq,ag,aA,Option.some.injEq]at h;obtain⟨e,he,n,hsz,z,hz,ps',hps,h1,cs,hcs,h2,rfl⟩:=h;simp only[fT,iq,he,hsz,hz,hps,ob,sT h1,hcs,sT h2,aB.a0,hn];exact tv
 case convert s d x=>
  simp only[ip,ag]at h;obtain⟨v,hv,h⟩:=h;simp only[ip,hv,ob];cases v<;>simp only[jA,reduceCtorEq,aA]at h ⊢
  . rw[sT h.1];exact cG h.2 rfl
  . obtain⟨h1,h⟩:=h;rw[sT h1];unfold o8 at h ⊢;split at h
    . cases h;exact⟨[],rfl,rfl⟩
    . simp only[aA,Option.some.injEq]at h;obtain⟨h2,rfl⟩:=h;rw[sT h2,aB.a0,aB.a0,hn];exact tv
    . cases h
  . rename_i id off len c;refine cG h ?_;have hgi:=hg rfl x (by simp[Op.operands]) _ _ hv rfl;simp only[po,Fo hgi]
 all_goals first|cases h|cases hk
theorem EE{call call':bg->FuncId->List AV->aB->Option (AV×aB)}(hk:tS (bY op))(h:gQ T call tP C ρ o op=some r)(hn:C'.lo+o'.n=C.lo+o.n)
 (hg:KX (bY op)->∀x∈op.operands.toList,∀v id,ρ x=some v->cW v=some id->get C' o' id=get C o id):Jk o o' r (gQ T call' tP C' ρ o' op):=by
 unfold gQ at h ⊢;split at h
 . rename_i c;unfold sQ at h ⊢;simp only[bY]at hk;cases hcal:c.callee with
   | value f=>rw[hcal]at hk;cases hk
   | invoke x n=>rw[hcal]at hk;cases hk
   | builtin b=>
     simp only[hcal,ag]at h ⊢;obtain⟨vs,hvs,h⟩:=h;rw[hvs];simp only[ob];rw[hcal]at hk;unfold gb at h ⊢;cases b<;>first|exact cG h rfl|cases hk
 . exact Kw hk h hn hg
end
theorem Fg{T:fm}{call:bg->FuncId->List AV->aB->Option (AV×aB)}(hk:oH (bY op)\/m_ (bY op))(h:gQ T call tP C ρ o op=some r):r.2=o:=by
 unfold gQ at h;split at h
 . rename_i c;unfold sQ at h;simp only[bY]at hk;cases hcal:c.callee with
   | value f=>rw[hcal]at hk;rcases hk with hk|hk<;>cases hk
   | invoke x n=>rw[hcal]at hk;rcases hk with hk|hk<;>cases hk
   | builtin b=>
     simp only[hcal,ag]at h;obtain⟨vs,_,h⟩:=h;rw[hcal]at hk;unfold gb at h;cases b<;>first|exact(bK.1 h).2|(rcases hk with hk|hk<;>cases hk)
 . unfold Eo at h;cases op<;>simp only[gW]at h<;>first|exact(bK.1 h).2|(rcases hk with hk|hk<;>cases hk)|cases h
theorem Io{cfg:cL}(hk:oH (bY op)):cX cfg ρ op=.c:=by
 cases op<;>first|rfl|(cases hk;done)|skip
 rename_i c;simp only[bY]at hk;simp only[cX];cases hcal:c.callee with
 | value f=>rw[hcal]at hk;cases hk
 | invoke x n=>rw[hcal]at hk;cases hk
 | builtin b=>rw[hcal]at hk;cases b<;>first|rfl|cases hk
theorem FQ{cfg:cL}(hk:tS (bY op)):cN (cX cfg ρ op)=[]:=by
 cases op<;>first|rfl|(cases hk;done)|skip
 . rename_i t a;simp only[cX];cases(ob (ρ a) cW)<;>rfl
 . rename_i c;simp only[bY]at hk;simp only[cX];cases hcal:c.callee with
   | value f=>rw[hcal]at hk;cases hk
   | invoke x n=>rw[hcal]at hk;cases hk
   | builtin b=>rw[hcal]at hk;cases b<;>first|rfl|cases hk
theorem Cx{cfg:cL}(hk:tS (bY op)=false)(hc:bY op≠.a):∃ids,cX cfg ρ op=.b ids:=by
 have b1:∀x:Option Nat,∃ids,tI x=.b ids:=λx=>by cases x<;>exact⟨_,rfl⟩
 cases op<;>first|(cases hk;done)|exact⟨_,rfl⟩|exact b1 _|skip
 rename_i c;simp only[bY]at hk hc;simp only[cX];cases hcal:c.callee with
 | value f=>rw[hcal]at hc;exact absurd rfl hc
 | invoke x n=>exact⟨_,rfl⟩
 | builtin b=>rw[hcal]at hk;cases b<;>first|exact b1 _|cases hk
section
variable(T:fm)(cfg:cL)(call:bg->FuncId->List AV->aB->Option (AV×aB))(C:bg)(ops:Array Oper)
def du(S:Nat->St)(k:Nat):gD:=match ops[k]? with
 | some op=>bif eI ops (S k).ts op.guard then cX cfg (fj cfg.G (S k).ts) op.op else .c
 | none=>.c
def z6(S:Nat->St)(k:Nat):Prop:=∃op,ops[k]? = some op/\
 ((eI ops (S k).ts op.guard/\∃r,gQ T call tP C (fj cfg.G (S k).ts) (S k).o op.op=some r/\jm (S k) r.1 r.2 op.dst=some (S (k+1))/\∀id∈cN (cX cfg (fj cfg.G (S k).ts) op.op),id<C.lo+(S k).o.n)\/
  (eI ops (S k).ts op.guard=false/\jm (S k) bt (S k).o op.dst=some (S (k+1))))
variable{T cfg call C ops}
theorem Al:∀{l:List Oper} {i:Nat} {st:St} {log:List (Nat×gD)} {r:St×List (Nat×gD)},ops.toList.drop i=l->qo T cfg call C ops i l st log=some r->
 ∃S:Nat->St,S i=st/\S (i+l.length)=r.1/\(∀k,i<=k->k<i+l.length->z6 T cfg call C ops S k/\(k,du cfg ops S k)∈r.2)/\∀e∈log,e∈r.2
 | [],i,st,log,r,hl,h=>by
   cases h;exact⟨λ_=>st,rfl,rfl,λk h1 h2=>by simp at h2;omega,λ_ h=>h⟩
 | op::rest,i,st,log,r,hl,h=>by
   have hk:ops[i]? = some op:=by
    have:(ops.toList.drop i)[0]? = some op:=by rw[hl];rfl
    rw[List.getElem?_drop]at this;simpa using this
   have hrest:ops.toList.drop (i+1)=rest:=by rw[<-List.drop_drop,hl];rfl
   have key:∀(st1:St) (f:gD),qo T cfg call C ops (i+1) rest st1 ((i,f)::log)=some r->
    (∀S:Nat->St,S i=st->S (i+1)=st1->z6 T cfg call C ops S i/\du cfg ops S i=f)->
    ∃S:Nat->St,S i=st/\S (i+(op::rest).length)=r.1/\(∀k,i<=k->k<i+(op::rest).length->z6 T cfg call C ops S k/\(k,du cfg ops S k)∈r.2)/\∀e∈log,e∈r.2:=by
    intro st1 f hd hs;obtain⟨S,h1,h2,h3,h4⟩:=Al hrest hd;refine⟨λk=>if k=i then st else S k,by simp,?_,?_,λe he=>h4 e (List.mem_cons_of_mem _ he)⟩
    . grind
    . intro k hk1 hk2;simp only[List.length_cons]at hk2;by_cases e:k=i
      . grind
      . obtain⟨a,b⟩:=h3 k (by omega) (by omega);have e1:(λk=>if k=i then st else S k) k=S k:=if_neg e;have e2:(λk=>if k=i then st else S k) (k+1)=S (k+1):=if_neg (by omega);refine⟨?_,?_⟩
        . unfold z6 at a ⊢;rw[e1,e2];exact a
        . have:du cfg ops (λk=>if k=i then st else S k) k=du cfg ops S k:=by
           unfold du;rw[e1]
          rw[this];exact b
   unfold qo at h;cases hw:eI ops st.ts op.guard with
   | true=>
     simp only[hw,cond_true,ag,aA]at h;obtain⟨q,hq,st1,hp,hf,h⟩:=h;refine key st1 _ h λS e1 e2=>⟨⟨op,hk,.inl ?_⟩,?_⟩
     . rw[e1,e2];exact⟨hw,q,hq,hp,Fs.1 hf⟩
     . simp only[du,hk,e1,hw,cond_true]
   | false=>
     simp only[hw,cond_false,ag]at h;obtain⟨st1,hp,h⟩:=h;refine key st1 _ h λS e1 e2=>⟨⟨op,hk,.inr ?_⟩,?_⟩
     . grind
     . simp only[du,hk,e1,hw,cond_false]
def dK(ops:Array Oper)(k:Nat):Option Tmp:=(ops[k]?).bind (·.dst)
theorem sH{v:AV}(h:jm st v o dst=some st')(t:Nat):st'.ts.a0 t=(if dst=some t then v else st.ts.a0 t):=by
 cases dst with
 | none=>simp only[jm,Option.some.injEq]at h;subst h;simp
 | some d=>
   simp only[jm,aA,Option.some.injEq,Bool.and_eq_true]at h;obtain⟨⟨h1,h2⟩,h⟩:=h;rw[aU]at h1 h2;subst h;rw[Ts.d0 20 _ _ _ _ (Nat.lt_of_lt_of_le h2 (by decide))];by_cases e:t=d
   . grind
   . grind
theorem h_{v:AV}(h:jm st v o dst=some st'):st'.tn=st.tn/\st'.o=o/\∀d,dst=some d->d<st.tn:=by
 cases dst with
 | none=>simp only[jm,Option.some.injEq]at h;subst h;simp
 | some d=>
   simp only[jm,aA,Option.some.injEq,Bool.and_eq_true]at h;obtain⟨⟨h1,h2⟩,h⟩:=h;rw[aU]at h1;subst h;exact⟨rfl,rfl,λd' e=>by cases e;exact h1⟩
theorem o9{v:AV}(h:jm st v o dst=some st'):st'.ds=st.ds/\st'.ro=st.ro:=by
 cases dst with
 | none=>simp only[jm,Option.some.injEq]at h;subst h;exact⟨rfl,rfl⟩
 | some d=>
   simp only[jm,aA,Option.some.injEq,Bool.and_eq_true]at h;obtain⟨_,h⟩:=h;subst h;exact⟨rfl,rfl⟩
def Wr(cfg:cL)(ops:Array Oper)(S:Nat->St)(k i:Nat):Prop:=i∈cN (du cfg ops S k)/\cfg.a0.n<=i
structure nQ(T:fm)(cfg:cL)(call:bg->FuncId->List AV->aB->Option (AV×aB))(C:bg)(ops:Array Oper)(S:Nat->St):Prop where
 b0:∀k,k<ops.size->z6 T cfg call C ops S k
 m0:(S 0).o.os.length=(S 0).o.n
 l0:∀id,id∈(S 0).o.le.map (·.1)->cfg.a0.n<=id/\id<C.lo
 lo:cfg.a0.n<=C.lo
 g0:∀g,g<cfg.G->g<C.lo+(S 0).o.n
theorem nQ.o0(h:nQ T cfg call C ops S):∀k,k<ops.size->∀id∈cN (du cfg ops S k),id<C.lo+(S k).o.n:=by
 intro k hk id hid;obtain⟨op,hop,h1|h1⟩:=h.b0 k hk
 . obtain⟨hw,r,hr,hp,hb⟩:=h1;simp only[du,hop,hw,cond_true]at hid;exact hb id hid
 . simp only[du,hop,h1.1,cond_false]at hid;cases hid
theorem nQ.f0(h:nQ T cfg call C ops S)(hc:b8 cfg call):∀k,k<ops.size->(S k).o.os.length=(S k).o.n->fh C (S k).o (S (k+1)).o (cN (du cfg ops S k)):=by
 intro k hk hl;obtain⟨op,hop,h1|h1⟩:=h.b0 k hk
 . obtain⟨hw,r,hr,hp,hb⟩:=h1;rw[(h_ hp).2.1];have:=qT hc hr hl;simp only[du,hop,hw,cond_true];exact this
 . rw[(h_ h1.2).2.1];exact .a0 hl
theorem nQ.i0(h:nQ T cfg call C ops S)(hc:b8 cfg call):∀k,k<=ops.size->(S k).o.os.length=(S k).o.n
 | 0,_=>h.m0
 | k+1,hk=>(h.f0 hc k (by omega) (h.i0 hc k (by omega))).h0
theorem nQ.d0(h:nQ T cfg call C ops S)(hc:b8 cfg call)(k:Nat)(hk:k<ops.size):fh C (S k).o (S (k+1)).o (cN (du cfg ops S k)):=h.f0 hc k hk (h.i0 hc k (by omega))
theorem nQ.tn(h:nQ T cfg call C ops S):∀k,k<=ops.size->(S k).tn=(S 0).tn
 | 0,_=>rfl
 | k+1,hk=>by
   rw[<-h.tn k (by omega)];obtain⟨op,hop,h1|h1⟩:=h.b0 k (by omega)
   . obtain⟨hw,r,hr,hp,hb⟩:=h1;exact(h_ hp).1
   . exact(h_ h1.2).1
theorem nQ.ds(h:nQ T cfg call C ops S):∀k,k<=ops.size->(S k).ds=(S 0).ds/\(S k).ro=(S 0).ro
 | 0,_=>⟨rfl,rfl⟩
 | k+1,hk=>by
   obtain⟨i1,i2⟩:=h.ds k (by omega);rw[<-i1,<-i2];obtain⟨op,hop,h1|h1⟩:=h.b0 k (by omega)
   . obtain⟨hw,r,hr,hp,hb⟩:=h1;exact o9 hp
   . exact o9 h1.2
theorem nQ.le(h:nQ T cfg call C ops S)(hc:b8 cfg call):∀k,k<=ops.size->(S k).o.le.map (·.1)=(S 0).o.le.map (·.1)
 | 0,_=>rfl
 | k+1,hk=>(h.d0 hc k (by omega)).le.trans (h.le hc k (by omega))
theorem nQ.h0(h:nQ T cfg call C ops S)(hc:b8 cfg call):∀d,k+d<=ops.size->(S k).o.n<=(S (k+d)).o.n
 | 0,_=>Nat.le_refl _
 | d+1,hk=>Nat.le_trans (h.h0 hc d (by omega)) (h.d0 hc (k+d) (by omega)).c0
theorem nQ.a0(h:nQ T cfg call C ops S)(hc:b8 cfg call)(h1:k<=k')(h2:k'<=ops.size):(S k).o.n<=(S k').o.n:=by
 have:=h.h0 hc (k:=k) (k' - k) (by omega)
 rwa [show k+(k' - k)=k' by omega]at this
theorem nQ.e0(h:nQ T cfg call C ops S)(hc:b8 cfg call)(k:Nat)(hk:k<=ops.size)(hi:i<cfg.a0.n):get C (S k).o i=get C (S 0).o i:=by
 have hlo:=h.lo;have hb:Nat.ble C.lo i=false:=jT (by omega);have key:∀o:aB,(o.le.map (·.1)=(S 0).o.le.map (·.1))->get C o i=gB C.B i:=by
  intro o ho;rw[get,gB];simp only[hb,cond_false];cases hx:fp o.le i with
  | none=>rfl
  | some x=>
    have:i∈o.le.map (·.1):=eY.1 (by rw[hx];rfl);rw[ho]at this;have:=(h.l0 i this).1;omega
 rw[key _ (h.le hc k hk),key _ rfl]
theorem nQ.k0(h:nQ T cfg call C ops S)(hc:b8 cfg call)(hk:k<ops.size)(hi:i<C.lo+(S k).o.n)(hw:¬Wr cfg ops S k i):get C (S (k+1)).o i=get C (S k).o i:=by
 by_cases hr:i<cfg.a0.n
 . rw[h.e0 hc (k+1) (by omega) hr,h.e0 hc k (by omega) hr]
 . exact(h.d0 hc k hk).f0 (h.o0 k hk) i hi λhm=>hw ⟨hm,by omega⟩
theorem nQ.j0(h:nQ T cfg call C ops S)(hc:b8 cfg call):∀d,k+d<=ops.size->i<C.lo+(S k).o.n->(∀j,k<=j->j<k+d->¬Wr cfg ops S j i)->get C (S (k+d)).o i=get C (S k).o i
 | 0,_,_,_=>rfl
 | d+1,hd,hi,hw=>by
   have hm:=h.h0 hc (k:=k) d (by omega);rw[<-h.j0 hc d (by omega) hi λj h1 h2=>hw j h1 (by omega)];exact h.k0 (k:=k+d) hc (by omega) (by omega) (hw (k+d) (by omega) (by omega))
theorem nQ.c0(h:nQ T cfg call C ops S)(hc:b8 cfg call)(h1:k<=k')(h2:k'<=ops.size)(hi:i<C.lo+(S k).o.n)(hw:∀j,k<=j->j<k'->¬Wr cfg ops S j i):get C (S k').o i=get C (S k).o i:=by
 have:=h.j0 hc (k:=k) (k' - k) (by omega) hi λj h3 h4=>hw j h3 (by omega)
 rwa [show k+(k' - k)=k' by omega]at this
theorem nQ.p0(h:nQ T cfg call C ops S)(hk:k<ops.size)(ht:dK ops k≠some t):(S (k+1)).ts.a0 t=(S k).ts.a0 t:=by
 obtain⟨op,hop,h1|h1⟩:=h.b0 k hk
 . obtain⟨hw,r,hr,hp,hb⟩:=h1;rw[sH hp,if_neg (by simpa [dK,hop]using ht)]
 . rw[sH h1.2,if_neg (by simpa [dK,hop]using ht)]
theorem nQ.ts(h:nQ T cfg call C ops S):∀d,k+d<=ops.size->(∀j,k<=j->j<k+d->dK ops j≠some t)->(S (k+d)).ts.a0 t=(S k).ts.a0 t
 | 0,_,_=>rfl
 | d+1,hd,hw=>by
   rw[<-h.ts d (by omega) λj h1 h2=>hw j h1 (by omega)];exact h.p0 (k:=k+d) (by omega) (hw (k+d) (by omega) (by omega))
theorem nQ.n0(h:nQ T cfg call C ops S)(h1:k<=k')(h2:k'<=ops.size)(hw:∀j,k<=j->j<k'->dK ops j≠some t):(S k').ts.a0 t=(S k).ts.a0 t:=by
 have:=h.ts (k:=k) (t:=t) (k' - k) (by omega) λj h3 h4=>hw j h3 (by omega)
 rwa [show k+(k' - k)=k' by omega]at this
end
end Go.Ev
