import Derived.Test.YtafekjglclnegaaGreatDoorP07
set_option linter.all false
namespace Go.Ev
open Go Go.RowKit
theorem Cb{α:Type}(k:Nat->α)(n:Nat):Fm k n=k n:=by cases n<;>rfl
theorem vk{α:Type}(k:List Nat->α)(l:List Nat):zZ k l=k l:=by cases l<;>rfl
theorem iN{acc:List Nat}{n j i:Nat}(h:(jy acc n j).testBit i=true):j<n:=by
 unfold jy at h
 cases hb:bm j n with
 | true=>exact ba.1 hb
 | false=>simp[hb]at h
theorem AS{acc:List Nat}{n i:Nat}:∀{es:List Edge} {s:Nat},(Tk acc n es s).testBit i=true->s.testBit i=true\/∃e∈es,Region.binds .any e=true/\(e.on=i\/(jy acc n e.on).testBit i=true)
 | [],s,h=>.inl h
 | e::es,s,h=>by
   rw[Tk]at h
   rcases AS h with h|⟨e',he,h1,h2⟩
   · grind
   · grind
theorem CX(o:Oper)(prev:List Oper):mO (o::prev)=Tk (mO prev) prev.length o.after.toList 0::mO prev:=by
 rw[mO,vk,Cb]
theorem kJ{v n j:Nat}{acc:List Nat}:jy (v::acc) (n+1) j=if j=n then v else jy acc n j:=by
 unfold jy
 by_cases e:j=n
 · subst e
   rw[if_pos rfl,ba.2 (by omega),cond_true,show j+1-1-j=0 by omega];rfl
 · rw[if_neg e]
   by_cases h:j<n
   · rw[ba.2 h,ba.2 (by omega),cond_true,cond_true]
     obtain⟨k,hk⟩:∃k,n-j=k+1:=⟨n-j-1,by omega⟩
     rw[show n+1-1-j=k+1 by omega,show n-1-j=k by omega];rfl
   · rw[k8.2 (by omega),k8.2 (by omega)];rfl
theorem ze{i:Nat}:∀{R:List Oper} {j:Nat},(jy (mO R) R.length j).testBit i=true->
 ∃o,R[R.length-1-j]? = some o/\∃e∈o.after.toList,Region.binds .any e=true/\(e.on=i\/e.on<j/\(jy (mO R) R.length e.on).testBit i=true)
 | [],j,h=>by have:=iN h;simp at this
 | o::prev,j,h=>by
   have hj:=iN h
   rw[CX]at h ⊢
   rw[List.length_cons]at h hj ⊢
   rw[kJ]at h
   by_cases e:j=prev.length
   · rw[if_pos e]at h
     rcases AS h with h|⟨e',he,h1,h2⟩
     · simp at h
     · refine⟨o,by rw[show prev.length+1-1-j=0 by omega];rfl,e',he,h1,?_⟩
       rcases h2 with h2|h2
       · omega
       · have:=iN h2
         exact .inr ⟨by omega,by rw[kJ,if_neg (by omega)];exact h2⟩
   · rw[if_neg e]at h
     obtain⟨o',ho,e',he,h1,h2⟩:=ze h
     have:=iN h
     refine⟨o',?_,e',he,h1,?_⟩
     · grind
     · rcases h2 with h2|⟨h2,h3⟩
       · omega
       · have:=iN h3
         exact .inr ⟨h2,by rw[kJ,if_neg (by omega)];exact h3⟩
def jf(ops:Array Oper)(E:Nat->Prop)(j:Nat):Prop:=∀o,ops[j]? = some o->∀e∈o.after.toList,Region.binds .any e=true->E e.on
theorem tV{ops:Array Oper}{E:Nat->Prop}(hd:∀j,E j->jf ops E j){i:Nat}:∀j,jf ops E j->vM (mO ops.toList.reverse) ops.size i j=true->E i:=by
 intro j
 induction j using Nat.strongRecOn with
 | ind j ih=>
   intro hj hb
   have hl:ops.toList.reverse.length=ops.size:=by simp
   unfold vM at hb
   rw[<-hl]at hb
   obtain⟨o,ho,e,he,h1,h2⟩:=ze hb
   have hjl:=iN hb
   rw[hl]at hjl ho
   have hget:ops[j]? = some o:=by
    grind
   have hon:=hj o hget e he h1
   rcases h2 with h2|⟨h2,h3⟩
   · grind
   · rw[hl]at h3
     exact ih e.on h2 (hd _ hon) h3
theorem su{ρ:Operand->Option AV}:∀{xs:List Operand} {vs:List AV},fh ρ xs=some vs->∀k:Nat,(xs[k]?).bind ρ=vs[k]?
 | [],vs,h,k=>by cases h;simp
 | x::xs,vs,h,k=>by
   simp only[fh,ag,Option.some.injEq]at h
   obtain⟨v,hv,vs',hvs,rfl⟩:=h
   cases k with
   | zero=>simp[hv]
   | succ k=>simpa using su hvs k
structure eb(C:bg)(o o':aC)(ids:List Nat):Prop where
 grow:o.n<=o'.n
 le:o'.le.map (·.1)=o.le.map (·.1)
 len:o'.os.length=o'.n
 same:(∀id∈ids,id<C.lo+o.n)->∀i,i<C.lo+o.n->i∉ids->get C o' i=get C o i
theorem eb.refl{C:bg}{o:aC}{ids:List Nat}(h:o.os.length=o.n):eb C o o ids:=⟨Nat.le_refl _,rfl,h,λ_ _ _ _=>rfl⟩
theorem eb.push{C:bg}{o:aC}{x:aw}{ids:List Nat}(h:o.os.length=o.n):eb C o (o.push x) ids:=
 ⟨by simp[aC.push],rfl,by simp[aC.push,h],λ_ i hi _=>by rw[qS (by omega),if_neg (by omega)]⟩
theorem Fb{C:bg}{o:aC}{x:aw}{id j:Nat}(hl:o.os.length=o.n)(hi:id<C.lo+o.n)(hj:j<C.lo+o.n)(hn:j≠id):get C (dY C o id x) j=get C o j:=by
 unfold get ff dY
 cases hb:Nat.ble C.lo id with
 | true=>
   have h1:=bt.1 hb
   simp only[cond_true]
   cases hc:Nat.ble C.lo j with
   | true=>
     have h2:=bt.1 hc
     simp only[cond_true]
     rw[aC.at_put o x _ _ hl (by omega) (by omega),if_neg (by omega)]
   | false=>rfl
 | false=>
   simp only[cond_false]
   cases hc:Nat.ble C.lo j with
   | true=>rfl
   | false=>
     simp only[cond_false]
     rw[nd,if_neg (λh=>hn h.1)]
theorem eb.put{C:bg}{o:aC}{x:aw}{id:Nat}{ids:List Nat}(h:o.os.length=o.n)(hm:id∈ids):eb C o (dY C o id x) ids:=
 ⟨Nat.le_of_eq pR.symm,m_,jY h,λhb i hi hn=>Fb h (hb id hm) hi (λe=>hn (e▸hm))⟩
theorem eb.trans{C:bg}{o o1 o2:aC}{ids:List Nat}(h:eb C o o1 ids)(k:eb C o1 o2 ids):eb C o o2 ids:=
 ⟨Nat.le_trans h.grow k.grow,k.le.trans h.le,k.len,λhb i hi hn=>by
  have:=h.grow
  rw[k.same (λid hm=>by have:=hb id hm;omega) i (by omega) hn,h.same hb i hi hn]⟩
theorem vq{n:Nat}:∀{l:List Nat},kp n l=true↔∀x∈l,x<n
 | []=>by simp[kp]
 | x::l=>by simp[kp,vq (l:=l),ba]
theorem Aa{n:Nat}{f:fb}:qP n f=true↔∀x∈cD f,x<n:=by
 cases f<;>simp[qP,cD,vq]
theorem kT{C:bg}{o o':aC}{id off:Nat}{vs:List AV}{ids:List Nat}(h:js C o id off vs=some o')(hl:o.os.length=o.n)(hm:id∈ids):eb C o o' ids:=by
 simp only[js,ag,Option.some.injEq]at h
 obtain⟨x,_,x',_,rfl⟩:=h
 exact .put hl hm
theorem tF{C:bg}{o:aC}{size n:Nat}{new:List AV}{s:AV}{r:AV×aC}{ids:List Nat}(h:hI C o size n new s=some r)(hl:o.os.length=o.n)
 (hm:∀id,df s=some id->id∈ids):eb C o r.2 ids:=by
 cases s<;>simp only[hI,reduceCtorEq,Option.some.injEq]at h
 case slice id off len c=>
  have h1:=hm id rfl
  cases c with
  | known c=>
    simp only[appendCap,jg]at h
    cases hb:Nat.ble (len+n) c with
    | true=>
      simp only[hb,cond_true,ag,Option.some.injEq]at h
      obtain⟨o',hw,rfl⟩:=h
      exact kT hw hl h1
    | false=>
      simp only[hb,cond_false,ag,Option.some.injEq]at h
      obtain⟨old,hw,rfl⟩:=h
      exact .push hl
  | rest k=>
    simp only[appendCap,jU,ay,ag,Option.some.injEq]at h
    obtain⟨_,x,_,cs,_,rfl⟩:=h
    exact(eb.put hl h1).trans (.push (jY hl))
 case nilslice=>subst h;exact .push hl
def bV(cfg:cx)(call:bg->FuncId->List AV->aC->Option (AV×aC)):Prop:=
 ∀C f args o r,call C f args o=some r->o.os.length=o.n->eb C o r.2 (dm args (cfg.lend f))
theorem co{C:bg}{o:aC}{x:Option AV}{r:AV×aC}{ids:List Nat}(hl:o.os.length=o.n)(h:fw o x=some r):eb C o r.2 ids:=by
 rw[(bF.1 h).2];exact .refl hl
theorem kD{x:Option Nat}{id:Nat}(h:x=some id):cD (pw x)=[id]:=by subst h;rfl
section
variable{T:eA}{cfg:cx}{C:bg}{o:aC}{ρ:Operand->Option AV}
theorem D_{op:Op}{r:AV×aC}(h:zg T C ρ o op=some r)(hl:o.os.length=o.n):eb C o r.2 (cD (cU cfg ρ op)):=by
 unfold zg at h
 cases op<;>simp only[fM]at h
 case move=>exact co hl h
 case assign=>exact co hl h
 case pick=>exact co hl h
 case build=>exact co hl h
 case load=>exact co hl h
 case nilCheck=>exact co hl h
 case binOp=>exact co hl h
 case unOp=>exact co hl h
 case makeInterface=>exact co hl h
 case makeFunc=>exact co hl h
 case slice=>exact co hl h
 case fieldAddr=>exact co hl h
 case field=>exact co hl h
 case indexAddr=>exact co hl h
 case index=>exact co hl h
 case lookup=>exact co hl h
 case extract=>exact co hl h
 case alloc=>
  simp only[lX,ag,jr,ay,Option.some.injEq]at h
  obtain⟨z,_,_,rfl⟩:=h;exact .push hl
 case box=>
  simp only[sj,ag,jr,ay,Option.some.injEq]at h
  obtain⟨z,_,_,rfl⟩:=h;exact .push hl
 case buildSlice=>
  simp only[eK,ga,ag,ay,Option.some.injEq]at h
  obtain⟨_,_,_,_,_,_,_,_,_,_,_,_,rfl⟩:=h;exact .push hl
 case makeMap=>
  simp only[lI,ay,Option.some.injEq]at h
  obtain⟨_,rfl⟩:=h;exact .push hl
 case makeSlice=>
  simp only[gj,kj,ag,ay,Option.some.injEq]at h
  obtain⟨_,_,_,_,_,_,_,_,_,_,_,_,_,_,_,rfl⟩:=h;exact .push hl
 case range=>
  simp only[oN,ag]at h
  obtain⟨v,_,h⟩:=h
  cases v<;>simp only[zD,reduceCtorEq,ay,Option.some.injEq]at h
  obtain⟨_,rfl⟩:=h;exact .push hl
 case convert=>
  simp only[gd,ag]at h
  obtain⟨v,_,h⟩:=h
  cases v<;>simp only[ig,reduceCtorEq,ay]at h
  · exact co hl h.2
  · obtain⟨_,h⟩:=h
    unfold lH at h
    split at h
    · cases h;exact .refl hl
    · simp only[ay,Option.some.injEq]at h
      obtain⟨_,rfl⟩:=h;exact .push hl
    · cases h
  · exact co hl h
 case store t a x=>
  simp only[lB,ag,Option.some.injEq]at h
  obtain⟨p,hp,v,hv,o',hs,rfl⟩:=h
  cases p<;>simp only[rV,reduceCtorEq,ag,ay]at hs
  rename_i id off
  obtain⟨_,_,_,hs⟩:=hs
  have e:cD (cU cfg ρ (.store t a x))=[id]:=kD (by rw[hp];rfl)
  rw[e]
  exact kT hs hl (by simp)
 case insert t m k x=>
  simp only[jd,ag]at h
  obtain⟨p,hp,kv,hk,v,hv,h⟩:=h
  simp only[vV,ag,ay]at h
  obtain⟨_,_,_,h⟩:=h
  cases p<;>simp only[qz,reduceCtorEq,ag]at h
  rename_i id
  obtain⟨_,_,es,_,fr,_,h⟩:=h
  have e:cD (cU cfg ρ (.insert t m k x))=[id]:=kD (by rw[hp];rfl)
  rw[e]
  cases fr<;>simp only[ag,Option.some.injEq]at h
  · subst h
    exact .put hl (by simp)
  · obtain⟨_,_,rfl⟩:=h
    exact .put hl (by simp)
 case mapUpdate t m k x=>
  simp only[jd,ag]at h
  obtain⟨p,hp,kv,hk,v,hv,h⟩:=h
  simp only[vV,ag,ay]at h
  obtain⟨_,_,_,h⟩:=h
  cases p<;>simp only[qz,reduceCtorEq,ag]at h
  rename_i id
  obtain⟨_,_,es,_,fr,_,h⟩:=h
  have e:cD (cU cfg ρ (.mapUpdate t m k x))=[id]:=kD (by rw[hp];rfl)
  rw[e]
  cases fr<;>simp only[ag,Option.some.injEq]at h
  · subst h
    exact .put hl (by simp)
  · obtain⟨_,_,rfl⟩:=h
    exact .put hl (by simp)
 case next it s=>
  simp only[ns,ag,ay]at h
  obtain⟨_,p,hp,h⟩:=h
  unfold xW at h
  split at h
  · rename_i id
    simp only[ag]at h
    obtain⟨x,_,h⟩:=h
    have e:cD (cU cfg ρ (.next it s))=[id]:=kD (by rw[hp];rfl)
    rw[e]
    cases x<;>simp only[nP,reduceCtorEq,Option.some.injEq]at h
    subst h
    unfold y5
    cases bm _ _ with
    | true=>exact .put hl (by simp)
    | false=>exact .refl hl
  · cases h
 all_goals cases h
theorem mV{call:bg->FuncId->List AV->aC->Option (AV×aC)}(hc:bV cfg call){op:Op}{r:AV×aC}(h:fq T call o_ C ρ o op=some r)(hl:o.os.length=o.n) :
 eb C o r.2 (cD (cU cfg ρ op)):=by
 unfold fq at h
 split at h
 · rename_i c
   unfold og at h
   cases hcal:c.callee with
   | value f=>
     simp only[hcal,ag]at h
     obtain⟨fv,hf,vs,hvs,h⟩:=h
     cases fv<;>simp only[AN,o_,reduceCtorEq]at h
     rename_i fid first captured
     have e:cD (cU cfg ρ (.call c))=dm (first++vs++captured) (cfg.lend fid):=by
      simp only[cU,hcal,qb,hf,hvs,Az]
      cases dm (first++vs++captured) (cfg.lend fid)<;>rfl
     rw[e]
     exact hc C fid _ o r h hl
   | builtin b=>
     simp only[hcal,ag]at h
     obtain⟨vs,hvs,h⟩:=h
     have h0:=su hvs 0
     have hn:∀x y,vs=[x,y]->∀id,df x=some id->cD (pw (ob c.args.toList[0]? λx=>ob (ρ x) df))=[id]:=by
      rintro x y rfl id hid
      refine kD ?_
      simp only[List.getElem?_cons_zero]at h0
      cases hx:c.args.toList[0]? with
      | none=>rw[hx]at h0;cases h0
      | some a=>rw[hx]at h0;simp only[Option.bind_some]at h0;simp only[ob,h0,hid]
     unfold eQ at h
     cases b<;>simp only[reduceCtorEq]at h
     case len=>exact co hl h
     case cap=>exact co hl h
     case min=>exact co hl h
     case max=>exact co hl h
     case append=>
      have e:cU cfg ρ (.call c)=pw (ob c.args.toList[0]? λx=>ob (ρ x) df):=by simp only[cU,hcal,qb,Bo]
      rw[e]
      simp only[ag]at h
      obtain⟨t,_,u,_,h⟩:=h
      unfold Ov at h
      split at h
      · rename_i s x
        simp only[lG,ag,ay]at h
        obtain⟨_,_,_,_,_,_,_,n,_,_,_,h⟩:=h
        cases hz:Nat.beq n 0 with
        | true=>
          simp only[hz,cond_true,ay,Option.some.injEq]at h
          obtain⟨_,rfl⟩:=h;exact .refl hl
        | false=>
          simp only[hz,cond_false,ag,ay]at h
          obtain⟨_,_,_,_,h⟩:=h
          refine tF h hl λid hid=>?_
          rw[hn s x rfl id hid]
          simp
      · cases h
     case copy=>
      have e:cU cfg ρ (.call c)=pw (ob c.args.toList[0]? λx=>ob (ρ x) df):=by simp only[cU,hcal,qb,Bo]
      rw[e]
      simp only[ag]at h
      obtain⟨t,_,h⟩:=h
      unfold Ov at h
      split at h
      · rename_i d s
        simp only[vj,ag,ay]at h
        obtain⟨_,_,_,_,_,_,_,_,_,_,_,h⟩:=h
        cases d with
        | slice id off len c'=>
          simp only[pj,ag,ay,Option.some.injEq]at h
          obtain⟨_,o',hw,rfl⟩:=h
          rw[hn _ s rfl id rfl]
          exact kT hw hl (by simp)
        | nilslice=>
          simp only[pj,Option.some.injEq]at h
          subst h;exact .refl hl
        | _=>cases h
      · cases h
   | invoke x n=>simp[hcal]at h
 · rename_i hne
   exact D_ h hl
end
theorem fl{ρ ρ':Operand->Option AV}:∀{xs:List Operand},(∀x∈xs,ρ x=ρ' x)->fh ρ xs=fh ρ' xs
 | [],_=>rfl
 | x::xs,h=>by
   simp only[fh]
   rw[h x List.mem_cons_self,fl λy hy=>h y (List.mem_cons_of_mem _ hy)]
theorem jS{ρ ρ':Operand->Option AV}:∀{xs:List (Nat×Operand)},(∀x∈xs.map (·.2),ρ x=ρ' x)->kG ρ xs=kG ρ' xs
 | [],_=>rfl
 | x::xs,h=>by
   simp only[kG]
   rw[h x.2 (by simp),jS λy hy=>h y (by simp at hy ⊢;exact .inr hy)]
theorem mP{ρ ρ':Operand->Option AV}{x:Option Operand}(h:∀y∈x.toArray.toList,ρ y=ρ' y):rd ρ x=rd ρ' x:=by
 cases x with
 | none=>rfl
 | some y=>simp only[rd];rw[h y (by simp)]
section
variable{T:eA}{cfg:cx}{C:bg}{o:aC}{ρ ρ':Operand->Option AV}
theorem CE{op:Op}(h:∀x∈op.operands.toList,ρ x=ρ' x):zg T C ρ o op=zg T C ρ' o op:=by
 unfold zg
 cases op<;>simp only[fM]
 case move=>simp only[o8];rw[h _ (by simp[Op.operands])]
 case assign=>simp only[o8];rw[h _ (by simp[Op.operands])]
 case pick c a b=>simp only[sf];rw[h c (by simp[Op.operands]),h a (by simp[Op.operands]),h b (by simp[Op.operands])]
 case alloc=>rfl
 case box=>simp only[sj];rw[h _ (by simp[Op.operands])]
 case build t ps=>simp only[qH,wt];rw[jS λx hx=>h x (by simpa [Op.operands]using hx)]
 case buildSlice t l ps=>simp only[eK,ga];rw[jS λx hx=>h x (by simpa [Op.operands]using hx)]
 case load=>simp only[pq];rw[h _ (by simp[Op.operands])]
 case store t a x=>simp only[lB];rw[h a (by simp[Op.operands]),h x (by simp[Op.operands])]
 case nilCheck=>simp only[j3];rw[h _ (by simp[Op.operands])]
 case binOp op t x y u=>simp only[x_];rw[h x (by simp[Op.operands]),h y (by simp[Op.operands])]
 case unOp=>simp only[El];rw[h _ (by simp[Op.operands])]
 case convert=>simp only[gd];rw[h _ (by simp[Op.operands])]
 case makeInterface=>simp only[qn];rw[h _ (by simp[Op.operands])]
 case makeFunc f a b=>
  simp only[v_]
  cases f with
  | func f=>simp only[ph];rw[fl λx hx=>h x (by simp[Op.operands,hx]),fl λx hx=>h x (by simp[Op.operands,hx])]
  | _=>rfl
 case makeMap=>rfl
 case insert t m k x=>simp only[jd];rw[h m (by simp[Op.operands]),h k (by simp[Op.operands]),h x (by simp[Op.operands])]
 case mapUpdate t m k x=>simp only[jd];rw[h m (by simp[Op.operands]),h k (by simp[Op.operands]),h x (by simp[Op.operands])]
 case makeSlice t l c=>simp only[gj];rw[h l (by simp[Op.operands]),h c (by simp[Op.operands])]
 case slice t x lo hi mx=>
  simp only[nS]
  rw[h x (by simp[Op.operands]),mP (x:=lo) λy hy=>h y (by simp at hy;simp[Op.operands,hy]),mP (x:=hi) λy hy=>h y (by simp at hy;simp[Op.operands,hy]),mP (x:=mx) λy hy=>h y (by simp at hy;simp[Op.operands,hy])]
 case fieldAddr=>simp only[jl];rw[h _ (by simp[Op.operands])]
 case field=>simp only[qo];rw[h _ (by simp[Op.operands])]
 case indexAddr t x i=>simp only[ie];rw[h x (by simp[Op.operands]),h i (by simp[Op.operands])]
 case index t x i=>simp only[n3];rw[h x (by simp[Op.operands]),h i (by simp[Op.operands])]
 case lookup t x i k=>simp only[k_];rw[h x (by simp[Op.operands]),h i (by simp[Op.operands])]
 case range=>simp only[oN];rw[h _ (by simp[Op.operands])]
 case next=>simp only[ns];rw[h _ (by simp[Op.operands])]
 case extract=>simp only[lK];rw[h _ (by simp[Op.operands])]
 all_goals rfl
theorem yM{call:bg->FuncId->List AV->aC->Option (AV×aC)}{op:Op}(h:∀x∈op.operands.toList,ρ x=ρ' x):fq T call o_ C ρ o op=fq T call o_ C ρ' o op:=by
 unfold fq
 split
 · rename_i c
   unfold og
   cases hcal:c.callee with
   | value f=>
     simp only
     rw[h f (by simp[Op.operands,Call.operands,hcal]),fl λx hx=>h x (by simp[Op.operands,Call.operands,hcal,hx])]
   | builtin b=>
     simp only
     rw[fl λx hx=>h x (by simp[Op.operands,Call.operands,hcal,hx])]
   | invoke x n=>rfl
 · exact CE h
theorem y9{op:Op}(h:∀x∈op.operands.toList,ρ x=ρ' x):cU cfg ρ op=cU cfg ρ' op:=by
 cases op<;>simp only[cU,bS,Ew]
 case load=>rw[h _ (by simp[Op.operands])]
 case store t a x=>rw[h a (by simp[Op.operands])]
 case insert t m k x=>rw[h m (by simp[Op.operands])]
 case mapUpdate t m k x=>rw[h m (by simp[Op.operands])]
 case next=>rw[h _ (by simp[Op.operands])]
 case call c=>
  cases hcal:c.callee with
  | value f=>
    simp only[qb]
    rw[h f (by simp[Op.operands,Call.operands,hcal]),fl λx hx=>h x (by simp[Op.operands,Call.operands,hcal,hx])]
  | builtin b=>
    have:(c.args.toList[0]?.elim none λx=>(ρ x).bind df)=(c.args.toList[0]?.elim none λx=>(ρ' x).bind df):=by
     cases hx:c.args.toList[0]? with
     | none=>rfl
     | some a=>simp only[Option.elim];rw[h a (by have:=List.mem_of_getElem? hx;simp at this;simp[Op.operands,Call.operands,hcal,this])]
    have:(ob c.args.toList[0]? λx=>ob (ρ x) df)=(ob c.args.toList[0]? λx=>ob (ρ' x) df):=by
     cases hx:c.args.toList[0]? with
     | none=>rfl
     | some a=>simp only[ob];rw[h a (by have:=List.mem_of_getElem? hx;simp at this;simp[Op.operands,Call.operands,hcal,this])]
    cases b<;>simp only[qb,Bo,this]
  | invoke x n=>rfl
end
def gB(l:List aw)(o:aC):aC:=⟨o.n+l.length,l++o.os,o.le⟩
def F2(o o':aC)(r:AV×aC)(y:Option (AV×aC)):Prop:=∃l,r.2=gB l o/\y=some (r.1,gB l o')
theorem cw{o o':aC}{x y:Option AV}{r:AV×aC}(h:fw o x=some r)(e:y=x):F2 o o' r (fw o' y):=by
 obtain⟨h1,h2⟩:=bF.1 h
 subst e
 exact⟨[],h2,by rw[h1];rfl⟩
theorem px{o o':aC}{v:AV}{x:aw}:F2 o o' (v,o.push x) (some (v,o'.push x)):=⟨[x],rfl,rfl⟩
theorem nK{α:Type}{b:Bool}{x:Option α}(h:b=true):ok b x=x:=by subst h;rfl
def oX:yJ->Bool
 | .free|.alloc|.load|.look=>true
 | _=>false
def FO:yJ->Bool
 | .load|.look=>true
 | _=>false
section
variable{T:eA}{cfg:cx}{C C':bg}{o o':aC}{ρ:Operand->Option AV}
theorem pQ{v:AV}{r:AV×aC}(hn:C'.lo+o'.n=C.lo+o.n)(h:jr C o v=some r):F2 o o' r (jr C' o' v):=by
 simp only[jr,ay,Option.some.injEq]at h
 obtain⟨h1,rfl⟩:=h
 rw[jr,ay.2 ⟨h1,rfl⟩,aC.next,aC.next,hn]
 exact px
theorem As{id off n:Nat}(hg:get C' o' id=get C o id):jG C' o' id off n=jG C o id off n:=by
 simp only[jG,hg]
theorem FN{op:Op}{r:AV×aC}(hk:oX (bS op)=true)(h:zg T C ρ o op=some r)(hn:C'.lo+o'.n=C.lo+o.n)
 (hg:FO (bS op)=true->∀x∈op.operands.toList,∀v id,ρ x=some v->df v=some id->get C' o' id=get C o id):F2 o o' r (zg T C' ρ o' op):=by
 unfold zg at h ⊢
 cases op<;>simp only[fM]at h ⊢
 case move=>exact cw h rfl
 case assign=>exact cw h rfl
 case pick=>exact cw h rfl
 case build=>exact cw h rfl
 case nilCheck=>exact cw h rfl
 case binOp=>exact cw h rfl
 case unOp=>exact cw h rfl
 case makeInterface=>exact cw h rfl
 case makeFunc=>exact cw h rfl
 case slice=>exact cw h rfl
 case fieldAddr=>exact cw h rfl
 case field=>exact cw h rfl
 case indexAddr=>exact cw h rfl
 case index=>exact cw h rfl
 case extract=>exact cw h rfl
 case load t a=>
  refine cw h ?_
  obtain⟨h1,_⟩:=bF.1 h
  simp only[ag]at h1
  obtain⟨v,hv,h1⟩:=h1
  rw[hv]
  cases v<;>simp only[nI,reduceCtorEq]at h1
  simp only[ob,nI]
  rw[hg rfl a (by simp[Op.operands]) _ _ hv rfl]
 case lookup t a k ok'=>
  refine cw h ?_
  obtain⟨h1,_⟩:=bF.1 h
  simp only[ag]at h1
  obtain⟨v,hv,kv,hkv,h1⟩:=h1
  rw[hv,hkv]
  simp only[xT,ag,ay]at h1
  obtain⟨_,_,_,h1⟩:=h1
  cases v<;>simp only[oF,reduceCtorEq]at h1
  simp only[ob,xT,oF]
  rw[hg rfl a (by simp[Op.operands]) _ _ hv rfl]
 case alloc t=>
  simp only[lX,ag]at h
  obtain⟨z,hz,h⟩:=h
  simp only[lX,hz,ob]
  exact pQ hn h
 case box t x=>
  simp only[sj,ag]at h
  obtain⟨z,hz,h⟩:=h
  simp only[sj,hz,ob]
  exact pQ hn h
 case buildSlice t len ps=>
  simp only[eK,ga,ag,ay,Option.some.injEq]at h
  obtain⟨e,he,n,hsz,z,hz,ps',hps,h1,cs,hcs,h2,rfl⟩:=h
  simp only[eK,ga,he,hsz,hz,hps,ob,nK h1,hcs,nK h2,aC.next,hn]
  exact px
 case convert s d x=>
  simp only[gd,ag]at h
  obtain⟨v,hv,h⟩:=h
  simp only[gd,hv,ob]
  cases v<;>simp only[ig,reduceCtorEq,ay]at h ⊢
  · rw[nK h.1];exact cw h.2 rfl
  · obtain⟨h1,h⟩:=h
    rw[nK h1]
    unfold lH at h ⊢
    split at h
    · cases h;exact⟨[],rfl,rfl⟩
    · simp only[ay,Option.some.injEq]at h
      obtain⟨h2,rfl⟩:=h
      rw[nK h2,aC.next,aC.next,hn]
      exact px
    · cases h
  · rename_i id off len c
    refine cw h ?_
    have hgi:=hg rfl x (by simp[Op.operands]) _ _ hv rfl
    simp only[lM,As hgi]
 all_goals first|cases h|cases hk
theorem Au{call call':bg->FuncId->List AV->aC->Option (AV×aC)}{op:Op}{r:AV×aC}(hk:oX (bS op)=true)(h:fq T call o_ C ρ o op=some r)(hn:C'.lo+o'.n=C.lo+o.n)
 (hg:FO (bS op)=true->∀x∈op.operands.toList,∀v id,ρ x=some v->df v=some id->get C' o' id=get C o id):F2 o o' r (fq T call' o_ C' ρ o' op):=by
 unfold fq at h ⊢
 split at h
 · rename_i c
   unfold og at h ⊢
   simp only[bS]at hk
   cases hcal:c.callee with
   | value f=>rw[hcal]at hk;cases hk
   | invoke x n=>rw[hcal]at hk;cases hk
   | builtin b=>
     simp only[hcal,ag]at h ⊢
     obtain⟨vs,hvs,h⟩:=h
     rw[hvs]
     simp only[ob]
     rw[hcal]at hk
     unfold eQ at h ⊢
     cases b<;>first|exact cw h rfl|cases hk
 · exact FN hk h hn hg
end
theorem zE{T:eA}{C:bg}{o:aC}{ρ:Operand->Option AV}{call:bg->FuncId->List AV->aC->Option (AV×aC)}{op:Op}{r:AV×aC}(hk:kE (bS op)=true\/j9 (bS op)=true)(h:fq T call o_ C ρ o op=some r):r.2=o:=by
 unfold fq at h
 split at h
 · rename_i c
   unfold og at h
   simp only[bS]at hk
   cases hcal:c.callee with
   | value f=>rw[hcal]at hk;rcases hk with hk|hk<;>cases hk
   | invoke x n=>rw[hcal]at hk;rcases hk with hk|hk<;>cases hk
   | builtin b=>
     simp only[hcal,ag]at h
     obtain⟨vs,_,h⟩:=h
     rw[hcal]at hk
     unfold eQ at h
     cases b<;>first|exact(bF.1 h).2|(rcases hk with hk|hk<;>cases hk)
 · unfold zg at h
   cases op<;>simp only[fM]at h<;>first|exact(bF.1 h).2|(rcases hk with hk|hk<;>cases hk)|cases h
theorem Cf{cfg:cx}{ρ:Operand->Option AV}{op:Op}(hk:kE (bS op)=true):cU cfg ρ op=.none:=by
 cases op<;>first|rfl|(cases hk;done)|skip
 rename_i c
 simp only[bS]at hk
 simp only[cU]
 cases hcal:c.callee with
 | value f=>rw[hcal]at hk;cases hk
 | invoke x n=>rw[hcal]at hk;cases hk
 | builtin b=>rw[hcal]at hk;cases b<;>first|rfl|cases hk
theorem z7{cfg:cx}{ρ:Operand->Option AV}{op:Op}(hk:oX (bS op)=true):cD (cU cfg ρ op)=[]:=by
 cases op<;>first|rfl|(cases hk;done)|skip
 · rename_i t a
   simp only[cU]
   cases(ob (ρ a) df)<;>rfl
 · rename_i c
   simp only[bS]at hk
   simp only[cU]
   cases hcal:c.callee with
   | value f=>rw[hcal]at hk;cases hk
   | invoke x n=>rw[hcal]at hk;cases hk
   | builtin b=>rw[hcal]at hk;cases b<;>first|rfl|cases hk
theorem xZ{cfg:cx}{ρ:Operand->Option AV}{op:Op}(hk:oX (bS op)=false)(hc:bS op≠.call):∃ids,cU cfg ρ op=.bar ids:=by
 have b1:∀x:Option Nat,∃ids,pw x=.bar ids:=λx=>by cases x<;>exact⟨_,rfl⟩
 cases op<;>first|(cases hk;done)|exact⟨_,rfl⟩|exact b1 _|skip
 rename_i c
 simp only[bS]at hk hc
 simp only[cU]
 cases hcal:c.callee with
 | value f=>rw[hcal]at hc;exact absurd rfl hc
 | invoke x n=>exact⟨_,rfl⟩
 | builtin b=>rw[hcal]at hk;cases b<;>first|exact b1 _|cases hk
section
variable(T:eA)(cfg:cx)(call:bg->FuncId->List AV->aC->Option (AV×aC))(C:bg)(ops:Array Oper)
def cX(S:Nat->St)(k:Nat):fb:=match ops[k]? with
 | some op=>bif dV ops (S k).ts op.guard then cU cfg (ea cfg.G (S k).ts) op.op else .none
 | none=>.none
def t_(S:Nat->St)(k:Nat):Prop:=∃op,ops[k]? = some op/\
 ((dV ops (S k).ts op.guard=true/\∃r,fq T call o_ C (ea cfg.G (S k).ts) (S k).o op.op=some r/\ii (S k) r.1 r.2 op.dst=some (S (k+1))/\∀id∈cD (cU cfg (ea cfg.G (S k).ts) op.op),id<C.lo+(S k).o.n)\/
  (dV ops (S k).ts op.guard=false/\ii (S k) bj (S k).o op.dst=some (S (k+1))))
variable{T cfg call C ops}
theorem vK:∀{l:List Oper} {i:Nat} {st:St} {log:List (Nat×fb)} {r:St×List (Nat×fb)},ops.toList.drop i=l->mG T cfg call C ops i l st log=some r->
 ∃S:Nat->St,S i=st/\S (i+l.length)=r.1/\(∀k,i<=k->k<i+l.length->t_ T cfg call C ops S k/\(k,cX cfg ops S k)∈r.2)/\∀e∈log,e∈r.2
 | [],i,st,log,r,hl,h=>by
   cases h
   exact⟨λ_=>st,rfl,rfl,λk h1 h2=>by simp at h2;omega,λ_ h=>h⟩
 | op::rest,i,st,log,r,hl,h=>by
   have hk:ops[i]? = some op:=by
    have:(ops.toList.drop i)[0]? = some op:=by rw[hl];rfl
    rw[List.getElem?_drop]at this
    simpa using this
   have hrest:ops.toList.drop (i+1)=rest:=by rw[<-List.drop_drop,hl];rfl
   have key:∀(st1:St) (f:fb),mG T cfg call C ops (i+1) rest st1 ((i,f)::log)=some r->
    (∀S:Nat->St,S i=st->S (i+1)=st1->t_ T cfg call C ops S i/\cX cfg ops S i=f)->
    ∃S:Nat->St,S i=st/\S (i+(op::rest).length)=r.1/\(∀k,i<=k->k<i+(op::rest).length->t_ T cfg call C ops S k/\(k,cX cfg ops S k)∈r.2)/\∀e∈log,e∈r.2:=by
    intro st1 f hd hs
    obtain⟨S,h1,h2,h3,h4⟩:=vK hrest hd
    refine⟨λk=>if k=i then st else S k,by simp,?_,?_,λe he=>h4 e (List.mem_cons_of_mem _ he)⟩
    · grind
    · intro k hk1 hk2
      simp only[List.length_cons]at hk2
      by_cases e:k=i
      · grind
      · obtain⟨a,b⟩:=h3 k (by omega) (by omega)
        have e1:(λk=>if k=i then st else S k) k=S k:=if_neg e
        have e2:(λk=>if k=i then st else S k) (k+1)=S (k+1):=if_neg (by omega)
        refine⟨?_,?_⟩
        · unfold t_ at a ⊢
          rw[e1,e2];exact a
        · have:cX cfg ops (λk=>if k=i then st else S k) k=cX cfg ops S k:=by
           unfold cX
           rw[e1]
          rw[this];exact b
   unfold mG at h
   cases hw:dV ops st.ts op.guard with
   | true=>
     simp only[hw,cond_true,ag,ay]at h
     obtain⟨q,hq,st1,hp,hf,h⟩:=h
     refine key st1 _ h λS e1 e2=>⟨⟨op,hk,.inl ?_⟩,?_⟩
     · rw[e1,e2];exact⟨hw,q,hq,hp,Aa.1 hf⟩
     · simp only[cX,hk,e1,hw,cond_true]
   | false=>
     simp only[hw,cond_false,ag]at h
     obtain⟨st1,hp,h⟩:=h
     refine key st1 _ h λS e1 e2=>⟨⟨op,hk,.inr ?_⟩,?_⟩
     · grind
     · simp only[cX,hk,e1,hw,cond_false]
def dq(ops:Array Oper)(k:Nat):Option Tmp:=(ops[k]?).bind (·.dst)
theorem nN{st st':St}{v:AV}{o:aC}{dst:Option Tmp}(h:ii st v o dst=some st')(t:Nat):st'.ts.get t=(if dst=some t then v else st.ts.get t):=by
 cases dst with
 | none=>simp only[ii,Option.some.injEq]at h;subst h;simp
 | some d=>
   simp only[ii,ay,Option.some.injEq,Bool.and_eq_true]at h
   obtain⟨⟨h1,h2⟩,h⟩:=h
   rw[ba]at h1 h2
   subst h
   rw[Ts.get_set 20 _ _ _ _ (Nat.lt_of_lt_of_le h2 (by decide))]
   by_cases e:t=d
   · grind
   · grind
theorem fQ{st st':St}{v:AV}{o:aC}{dst:Option Tmp}(h:ii st v o dst=some st'):st'.tn=st.tn/\st'.o=o/\∀d,dst=some d->d<st.tn:=by
 cases dst with
 | none=>simp only[ii,Option.some.injEq]at h;subst h;simp
 | some d=>
   simp only[ii,ay,Option.some.injEq,Bool.and_eq_true]at h
   obtain⟨⟨h1,h2⟩,h⟩:=h
   rw[ba]at h1
   subst h
   exact⟨rfl,rfl,λd' e=>by cases e;exact h1⟩
theorem lO{st st':St}{v:AV}{o:aC}{dst:Option Tmp}(h:ii st v o dst=some st'):st'.ds=st.ds/\st'.ro=st.ro:=by
 cases dst with
 | none=>simp only[ii,Option.some.injEq]at h;subst h;exact⟨rfl,rfl⟩
 | some d=>
   simp only[ii,ay,Option.some.injEq,Bool.and_eq_true]at h
   obtain⟨_,h⟩:=h
   subst h
   exact⟨rfl,rfl⟩
def Wr(cfg:cx)(ops:Array Oper)(S:Nat->St)(k i:Nat):Prop:=i∈cD (cX cfg ops S k)/\cfg.root.n<=i
structure kr(T:eA)(cfg:cx)(call:bg->FuncId->List AV->aC->Option (AV×aC))(C:bg)(ops:Array Oper)(S:Nat->St):Prop where
 step:∀k,k<ops.size->t_ T cfg call C ops S k
 len0:(S 0).o.os.length=(S 0).o.n
 le0:∀id,id∈(S 0).o.le.map (·.1)->cfg.root.n<=id/\id<C.lo
 lo:cfg.root.n<=C.lo
 g0:∀g,g<cfg.G->g<C.lo+(S 0).o.n
theorem kr.ids{S:Nat->St}(h:kr T cfg call C ops S):∀k,k<ops.size->∀id∈cD (cX cfg ops S k),id<C.lo+(S k).o.n:=by
 intro k hk id hid
 obtain⟨op,hop,h1|h1⟩:=h.step k hk
 · obtain⟨hw,r,hr,hp,hb⟩:=h1
   simp only[cX,hop,hw,cond_true]at hid
   exact hb id hid
 · simp only[cX,hop,h1.1,cond_false]at hid
   cases hid
theorem kr.stepF{S:Nat->St}(h:kr T cfg call C ops S)(hc:bV cfg call):∀k,k<ops.size->(S k).o.os.length=(S k).o.n->eb C (S k).o (S (k+1)).o (cD (cX cfg ops S k)):=by
 intro k hk hl
 obtain⟨op,hop,h1|h1⟩:=h.step k hk
 · obtain⟨hw,r,hr,hp,hb⟩:=h1
   rw[(fQ hp).2.1]
   have:=mV hc hr hl
   simp only[cX,hop,hw,cond_true]
   exact this
 · rw[(fQ h1.2).2.1];exact .refl hl
theorem kr.len{S:Nat->St}(h:kr T cfg call C ops S)(hc:bV cfg call):∀k,k<=ops.size->(S k).o.os.length=(S k).o.n
 | 0,_=>h.len0
 | k+1,hk=>(h.stepF hc k (by omega) (h.len hc k (by omega))).len
theorem kr.foot{S:Nat->St}(h:kr T cfg call C ops S)(hc:bV cfg call)(k:Nat)(hk:k<ops.size):eb C (S k).o (S (k+1)).o (cD (cX cfg ops S k)):=h.stepF hc k hk (h.len hc k (by omega))
theorem kr.tn{S:Nat->St}(h:kr T cfg call C ops S):∀k,k<=ops.size->(S k).tn=(S 0).tn
 | 0,_=>rfl
 | k+1,hk=>by
   rw[<-h.tn k (by omega)]
   obtain⟨op,hop,h1|h1⟩:=h.step k (by omega)
   · obtain⟨hw,r,hr,hp,hb⟩:=h1;exact(fQ hp).1
   · exact(fQ h1.2).1
theorem kr.ds{S:Nat->St}(h:kr T cfg call C ops S):∀k,k<=ops.size->(S k).ds=(S 0).ds/\(S k).ro=(S 0).ro
 | 0,_=>⟨rfl,rfl⟩
 | k+1,hk=>by
   obtain⟨i1,i2⟩:=h.ds k (by omega)
   rw[<-i1,<-i2]
   obtain⟨op,hop,h1|h1⟩:=h.step k (by omega)
   · obtain⟨hw,r,hr,hp,hb⟩:=h1;exact lO hp
   · exact lO h1.2
theorem kr.le{S:Nat->St}(h:kr T cfg call C ops S)(hc:bV cfg call):∀k,k<=ops.size->(S k).o.le.map (·.1)=(S 0).o.le.map (·.1)
 | 0,_=>rfl
 | k+1,hk=>(h.foot hc k (by omega)).le.trans (h.le hc k (by omega))
theorem kr.mono{S:Nat->St}(h:kr T cfg call C ops S)(hc:bV cfg call){k:Nat}:∀d,k+d<=ops.size->(S k).o.n<=(S (k+d)).o.n
 | 0,_=>Nat.le_refl _
 | d+1,hk=>Nat.le_trans (h.mono hc d (by omega)) (h.foot hc (k+d) (by omega)).grow
theorem kr.mono'{S:Nat->St}(h:kr T cfg call C ops S)(hc:bV cfg call){k k':Nat}(h1:k<=k')(h2:k'<=ops.size):(S k).o.n<=(S k').o.n:=by
 have:=h.mono hc (k:=k) (k' - k) (by omega)
 rwa [show k+(k' - k)=k' by omega]at this
theorem kr.root{S:Nat->St}(h:kr T cfg call C ops S)(hc:bV cfg call)(k:Nat)(hk:k<=ops.size){i:Nat}(hi:i<cfg.root.n):get C (S k).o i=get C (S 0).o i:=by
 have hlo:=h.lo
 have hb:Nat.ble C.lo i=false:=im (by omega)
 have key:∀o:aC,(o.le.map (·.1)=(S 0).o.le.map (·.1))->get C o i=ff C.B i:=by
  intro o ho
  rw[get,ff]
  simp only[hb,cond_false]
  cases hx:ew o.le i with
  | none=>rfl
  | some x=>
    have:i∈o.le.map (·.1):=d7.1 (by rw[hx];rfl)
    rw[ho]at this
    have:=(h.le0 i this).1
    omega
 rw[key _ (h.le hc k hk),key _ rfl]
theorem kr.same1{S:Nat->St}(h:kr T cfg call C ops S)(hc:bV cfg call){k i:Nat}(hk:k<ops.size)(hi:i<C.lo+(S k).o.n)(hw:¬Wr cfg ops S k i):get C (S (k+1)).o i=get C (S k).o i:=by
 by_cases hr:i<cfg.root.n
 · rw[h.root hc (k+1) (by omega) hr,h.root hc k (by omega) hr]
 · exact(h.foot hc k hk).same (h.ids k hk) i hi λhm=>hw ⟨hm,by omega⟩
theorem kr.same{S:Nat->St}(h:kr T cfg call C ops S)(hc:bV cfg call){k i:Nat}:∀d,k+d<=ops.size->i<C.lo+(S k).o.n->(∀j,k<=j->j<k+d->¬Wr cfg ops S j i)->get C (S (k+d)).o i=get C (S k).o i
 | 0,_,_,_=>rfl
 | d+1,hd,hi,hw=>by
   have hm:=h.mono hc (k:=k) d (by omega)
   rw[<-h.same hc d (by omega) hi λj h1 h2=>hw j h1 (by omega)]
   exact h.same1 (k:=k+d) hc (by omega) (by omega) (hw (k+d) (by omega) (by omega))
theorem kr.same'{S:Nat->St}(h:kr T cfg call C ops S)(hc:bV cfg call){k k' i:Nat}(h1:k<=k')(h2:k'<=ops.size)(hi:i<C.lo+(S k).o.n)(hw:∀j,k<=j->j<k'->¬Wr cfg ops S j i):get C (S k').o i=get C (S k).o i:=by
 have:=h.same hc (k:=k) (k' - k) (by omega) hi λj h3 h4=>hw j h3 (by omega)
 rwa [show k+(k' - k)=k' by omega]at this
theorem kr.ts1{S:Nat->St}(h:kr T cfg call C ops S){k t:Nat}(hk:k<ops.size)(ht:dq ops k≠some t):(S (k+1)).ts.get t=(S k).ts.get t:=by
 obtain⟨op,hop,h1|h1⟩:=h.step k hk
 · obtain⟨hw,r,hr,hp,hb⟩:=h1
   rw[nN hp,if_neg (by simpa [dq,hop]using ht)]
 · rw[nN h1.2,if_neg (by simpa [dq,hop]using ht)]
theorem kr.ts{S:Nat->St}(h:kr T cfg call C ops S){k t:Nat}:∀d,k+d<=ops.size->(∀j,k<=j->j<k+d->dq ops j≠some t)->(S (k+d)).ts.get t=(S k).ts.get t
 | 0,_,_=>rfl
 | d+1,hd,hw=>by
   rw[<-h.ts d (by omega) λj h1 h2=>hw j h1 (by omega)]
   exact h.ts1 (k:=k+d) (by omega) (hw (k+d) (by omega) (by omega))
theorem kr.ts'{S:Nat->St}(h:kr T cfg call C ops S){k k' t:Nat}(h1:k<=k')(h2:k'<=ops.size)(hw:∀j,k<=j->j<k'->dq ops j≠some t):(S k').ts.get t=(S k).ts.get t:=by
 have:=h.ts (k:=k) (t:=t) (k' - k) (by omega) λj h3 h4=>hw j h3 (by omega)
 rwa [show k+(k' - k)=k' by omega]at this
end
end Go.Ev
