import Derived.Test.YtafekjglclnegaaGreatDoorP08
set_option linter.all false
namespace Go.Ev
open Go Go.RowKit
theorem mapAll_congr {ρ ρ':Operand->Option AV}:∀{xs:List Operand},(∀x∈xs,ρ x=ρ' x)->mapAll ρ xs=mapAll ρ' xs
 | [],_=>rfl
 | x::xs,h=>by
   simp only [mapAll]
   rw [h x List.mem_cons_self,mapAll_congr fun y hy=>h y (List.mem_cons_of_mem _ hy)]
theorem partsA_congr {ρ ρ':Operand->Option AV}:∀{xs:List (Nat×Operand)},(∀x∈xs.map (·.2),ρ x=ρ' x)->partsA ρ xs=partsA ρ' xs
 | [],_=>rfl
 | x::xs,h=>by
   simp only [partsA]
   rw [h x.2 (by simp),partsA_congr fun y hy=>h y (by simp at hy ⊢;exact .inr hy)]
theorem optA_congr {ρ ρ':Operand->Option AV} {x:Option Operand} (h:∀y∈x.toArray.toList,ρ y=ρ' y):optA ρ x=optA ρ' x:=by
 cases x with
 | none=>rfl
 | some y=>simp only [optA];rw [h y (by simp)]
section
variable {T:Tab} {cfg:Cfg} {C:Ctx} {o:Own} {ρ ρ':Operand->Option AV}
theorem opA_congr {op:Op} (h:∀x∈op.operands.toList,ρ x=ρ' x):opA T C ρ o op=opA T C ρ' o op:=by
 unfold opA
 cases op<;>simp only [opSel]
 case move=>simp only [doMove];rw [h _ (by simp [Op.operands])]
 case assign=>simp only [doMove];rw [h _ (by simp [Op.operands])]
 case pick c a b=>simp only [doPick];rw [h c (by simp [Op.operands]),h a (by simp [Op.operands]),h b (by simp [Op.operands])]
 case alloc=>rfl
 case box=>simp only [doBox];rw [h _ (by simp [Op.operands])]
 case build t ps=>simp only [doBuild,buildA];rw [partsA_congr fun x hx=>h x (by simpa [Op.operands] using hx)]
 case buildSlice t l ps=>simp only [doBuildSlice,buildSliceA];rw [partsA_congr fun x hx=>h x (by simpa [Op.operands] using hx)]
 case load=>simp only [doLoad];rw [h _ (by simp [Op.operands])]
 case store t a x=>simp only [doStore];rw [h a (by simp [Op.operands]),h x (by simp [Op.operands])]
 case nilCheck=>simp only [doNilCheck];rw [h _ (by simp [Op.operands])]
 case binOp op t x y u=>simp only [doBin];rw [h x (by simp [Op.operands]),h y (by simp [Op.operands])]
 case unOp=>simp only [doUn];rw [h _ (by simp [Op.operands])]
 case convert=>simp only [doConvert];rw [h _ (by simp [Op.operands])]
 case makeInterface=>simp only [doIface];rw [h _ (by simp [Op.operands])]
 case makeFunc f a b=>
  simp only [doFunc]
  cases f with
  | func f=>simp only [makeFuncA];rw [mapAll_congr fun x hx=>h x (by simp [Op.operands,hx]),mapAll_congr fun x hx=>h x (by simp [Op.operands,hx])]
  | _=>rfl
 case makeMap=>rfl
 case insert t m k x=>simp only [doMapUp];rw [h m (by simp [Op.operands]),h k (by simp [Op.operands]),h x (by simp [Op.operands])]
 case mapUpdate t m k x=>simp only [doMapUp];rw [h m (by simp [Op.operands]),h k (by simp [Op.operands]),h x (by simp [Op.operands])]
 case makeSlice t l c=>simp only [doMakeSlice];rw [h l (by simp [Op.operands]),h c (by simp [Op.operands])]
 case slice t x lo hi mx=>
  simp only [doSlice]
  rw [h x (by simp [Op.operands]),optA_congr (x:=lo) fun y hy=>h y (by simp at hy;simp [Op.operands,hy]),optA_congr (x:=hi) fun y hy=>h y (by simp at hy;simp [Op.operands,hy]),optA_congr (x:=mx) fun y hy=>h y (by simp at hy;simp [Op.operands,hy])]
 case fieldAddr=>simp only [doFieldAddr];rw [h _ (by simp [Op.operands])]
 case field=>simp only [doField];rw [h _ (by simp [Op.operands])]
 case indexAddr t x i=>simp only [doIndexAddr];rw [h x (by simp [Op.operands]),h i (by simp [Op.operands])]
 case index t x i=>simp only [doIndex];rw [h x (by simp [Op.operands]),h i (by simp [Op.operands])]
 case lookup t x i k=>simp only [doLookup];rw [h x (by simp [Op.operands]),h i (by simp [Op.operands])]
 case range=>simp only [doRange];rw [h _ (by simp [Op.operands])]
 case next=>simp only [doNext];rw [h _ (by simp [Op.operands])]
 case extract=>simp only [doExtract];rw [h _ (by simp [Op.operands])]
 all_goals rfl
theorem stepA_congr {call:Ctx->FuncId->List AV->Own->Option (AV×Own)} {op:Op} (h:∀x∈op.operands.toList,ρ x=ρ' x):stepA T call rnd0 C ρ o op=stepA T call rnd0 C ρ' o op:=by
 unfold stepA
 split
 · rename_i c
   unfold callC
   cases hcal:c.callee with
   | value f=>
     simp only
     rw [h f (by simp [Op.operands,Call.operands,hcal]),mapAll_congr fun x hx=>h x (by simp [Op.operands,Call.operands,hcal,hx])]
   | builtin b=>
     simp only
     rw [mapAll_congr fun x hx=>h x (by simp [Op.operands,Call.operands,hcal,hx])]
   | invoke x n=>rfl
 · exact opA_congr h
theorem footA_congr {op:Op} (h:∀x∈op.operands.toList,ρ x=ρ' x):footA cfg ρ op=footA cfg ρ' op:=by
 cases op<;>simp only [footA,kindOp,footK]
 case load=>rw [h _ (by simp [Op.operands])]
 case store t a x=>rw [h a (by simp [Op.operands])]
 case insert t m k x=>rw [h m (by simp [Op.operands])]
 case mapUpdate t m k x=>rw [h m (by simp [Op.operands])]
 case next=>rw [h _ (by simp [Op.operands])]
 case call c=>
  cases hcal:c.callee with
  | value f=>
    simp only [footC]
    rw [h f (by simp [Op.operands,Call.operands,hcal]),mapAll_congr fun x hx=>h x (by simp [Op.operands,Call.operands,hcal,hx])]
  | builtin b=>
    have:(c.args.toList[0]?.elim none fun x=>(ρ x).bind nameOf)=(c.args.toList[0]?.elim none fun x=>(ρ' x).bind nameOf):=by
     cases hx:c.args.toList[0]? with
     | none=>rfl
     | some a=>simp only [Option.elim];rw [h a (by have:=List.mem_of_getElem? hx;simp at this;simp [Op.operands,Call.operands,hcal,this])]
    have:(ob c.args.toList[0]? fun x=>ob (ρ x) nameOf)=(ob c.args.toList[0]? fun x=>ob (ρ' x) nameOf):=by
     cases hx:c.args.toList[0]? with
     | none=>rfl
     | some a=>simp only [ob];rw [h a (by have:=List.mem_of_getElem? hx;simp at this;simp [Op.operands,Call.operands,hcal,this])]
    cases b<;>simp only [footC,footB,this]
  | invoke x n=>rfl
end
def pushes (l:List AObj) (o:Own):Own:=⟨o.n+l.length,l++o.os,o.le⟩
def Same (o o':Own) (r:AV×Own) (y:Option (AV×Own)):Prop:=∃l,r.2=pushes l o/\y=some (r.1,pushes l o')
theorem keep_same {o o':Own} {x y:Option AV} {r:AV×Own} (h:keep o x=some r) (e:y=x):Same o o' r (keep o' y):=by
 obtain ⟨h1,h2⟩:=keep_some.1 h
 subst e
 exact ⟨[],h2,by rw [h1];rfl⟩
theorem push_same {o o':Own} {v:AV} {x:AObj}:Same o o' (v,o.push x) (some (v,o'.push x)):=⟨[x],rfl,rfl⟩
theorem ok_true {α:Type} {b:Bool} {x:Option α} (h:b=true):ok b x=x:=by subst h;rfl
def quietK:Kind->Bool
 | .free|.alloc|.load|.look=>true
 | _=>false
def readsK:Kind->Bool
 | .load|.look=>true
 | _=>false
section
variable {T:Tab} {cfg:Cfg} {C C':Ctx} {o o':Own} {ρ:Operand->Option AV}
theorem allocV_same {v:AV} {r:AV×Own} (hn:C'.lo+o'.n=C.lo+o.n) (h:allocV C o v=some r):Same o o' r (allocV C' o' v):=by
 simp only [allocV,ok_some,Option.some.injEq] at h
 obtain ⟨h1,rfl⟩:=h
 rw [allocV,ok_some.2 ⟨h1,rfl⟩,Own.next,Own.next,hn]
 exact push_same
theorem readA_same {id off n:Nat} (hg:get C' o' id=get C o id):readA C' o' id off n=readA C o id off n:=by
 simp only [readA,hg]
theorem opA_same {op:Op} {r:AV×Own} (hk:quietK (kindOp op)=true) (h:opA T C ρ o op=some r) (hn:C'.lo+o'.n=C.lo+o.n)
 (hg:readsK (kindOp op)=true->∀x∈op.operands.toList,∀v id,ρ x=some v->nameOf v=some id->get C' o' id=get C o id):Same o o' r (opA T C' ρ o' op):=by
 unfold opA at h ⊢
 cases op<;>simp only [opSel] at h ⊢
 case move=>exact keep_same h rfl
 case assign=>exact keep_same h rfl
 case pick=>exact keep_same h rfl
 case build=>exact keep_same h rfl
 case nilCheck=>exact keep_same h rfl
 case binOp=>exact keep_same h rfl
 case unOp=>exact keep_same h rfl
 case makeInterface=>exact keep_same h rfl
 case makeFunc=>exact keep_same h rfl
 case slice=>exact keep_same h rfl
 case fieldAddr=>exact keep_same h rfl
 case field=>exact keep_same h rfl
 case indexAddr=>exact keep_same h rfl
 case index=>exact keep_same h rfl
 case extract=>exact keep_same h rfl
 case load t a=>
  refine keep_same h ?_
  obtain ⟨h1,_⟩:=keep_some.1 h
  simp only [ob_some] at h1
  obtain ⟨v,hv,h1⟩:=h1
  rw [hv]
  cases v<;>simp only [loadA,reduceCtorEq] at h1
  simp only [ob,loadA]
  rw [hg rfl a (by simp [Op.operands]) _ _ hv rfl]
 case lookup t a k ok'=>
  refine keep_same h ?_
  obtain ⟨h1,_⟩:=keep_some.1 h
  simp only [ob_some] at h1
  obtain ⟨v,hv,kv,hkv,h1⟩:=h1
  rw [hv,hkv]
  simp only [lookA,ob_some,ok_some] at h1
  obtain ⟨_,_,_,h1⟩:=h1
  cases v<;>simp only [lookupA,reduceCtorEq] at h1
  simp only [ob,lookA,lookupA]
  rw [hg rfl a (by simp [Op.operands]) _ _ hv rfl]
 case alloc t=>
  simp only [doAlloc,ob_some] at h
  obtain ⟨z,hz,h⟩:=h
  simp only [doAlloc,hz,ob]
  exact allocV_same hn h
 case box t x=>
  simp only [doBox,ob_some] at h
  obtain ⟨z,hz,h⟩:=h
  simp only [doBox,hz,ob]
  exact allocV_same hn h
 case buildSlice t len ps=>
  simp only [doBuildSlice,buildSliceA,ob_some,ok_some,Option.some.injEq] at h
  obtain ⟨e,he,n,hsz,z,hz,ps',hps,h1,cs,hcs,h2,rfl⟩:=h
  simp only [doBuildSlice,buildSliceA,he,hsz,hz,hps,ob,ok_true h1,hcs,ok_true h2,Own.next,hn]
  exact push_same
 case convert s d x=>
  simp only [doConvert,ob_some] at h
  obtain ⟨v,hv,h⟩:=h
  simp only [doConvert,hv,ob]
  cases v<;>simp only [convertA,reduceCtorEq,ok_some] at h ⊢
  · rw [ok_true h.1];exact keep_same h.2 rfl
  · obtain ⟨h1,h⟩:=h
    rw [ok_true h1]
    unfold convStr at h ⊢
    split at h
    · cases h;exact ⟨[],rfl,rfl⟩
    · simp only [ok_some,Option.some.injEq] at h
      obtain ⟨h2,rfl⟩:=h
      rw [ok_true h2,Own.next,Own.next,hn]
      exact push_same
    · cases h
  · rename_i id off len c
    refine keep_same h ?_
    have hgi:=hg rfl x (by simp [Op.operands]) _ _ hv rfl
    simp only [convSlice,readA_same hgi]
 all_goals first|cases h|cases hk
theorem stepA_same {call call':Ctx->FuncId->List AV->Own->Option (AV×Own)} {op:Op} {r:AV×Own} (hk:quietK (kindOp op)=true) (h:stepA T call rnd0 C ρ o op=some r) (hn:C'.lo+o'.n=C.lo+o.n)
 (hg:readsK (kindOp op)=true->∀x∈op.operands.toList,∀v id,ρ x=some v->nameOf v=some id->get C' o' id=get C o id):Same o o' r (stepA T call' rnd0 C' ρ o' op):=by
 unfold stepA at h ⊢
 split at h
 · rename_i c
   unfold callC at h ⊢
   simp only [kindOp] at hk
   cases hcal:c.callee with
   | value f=>rw [hcal] at hk;cases hk
   | invoke x n=>rw [hcal] at hk;cases hk
   | builtin b=>
     simp only [hcal,ob_some] at h ⊢
     obtain ⟨vs,hvs,h⟩:=h
     rw [hvs]
     simp only [ob]
     rw [hcal] at hk
     unfold builtinA at h ⊢
     cases b<;>first|exact keep_same h rfl|cases hk
 · exact opA_same hk h hn hg
end
theorem stepA_keep {T:Tab} {C:Ctx} {o:Own} {ρ:Operand->Option AV} {call:Ctx->FuncId->List AV->Own->Option (AV×Own)} {op:Op} {r:AV×Own} (hk:isFree (kindOp op)=true∨isLoad (kindOp op)=true) (h:stepA T call rnd0 C ρ o op=some r):r.2=o:=by
 unfold stepA at h
 split at h
 · rename_i c
   unfold callC at h
   simp only [kindOp] at hk
   cases hcal:c.callee with
   | value f=>rw [hcal] at hk;rcases hk with hk|hk<;>cases hk
   | invoke x n=>rw [hcal] at hk;rcases hk with hk|hk<;>cases hk
   | builtin b=>
     simp only [hcal,ob_some] at h
     obtain ⟨vs,_,h⟩:=h
     rw [hcal] at hk
     unfold builtinA at h
     cases b<;>first|exact (keep_some.1 h).2|(rcases hk with hk|hk<;>cases hk)
 · unfold opA at h
   cases op<;>simp only [opSel] at h<;>first|exact (keep_some.1 h).2|(rcases hk with hk|hk<;>cases hk)|cases h
theorem foot_free {cfg:Cfg} {ρ:Operand->Option AV} {op:Op} (hk:isFree (kindOp op)=true):footA cfg ρ op=.none:=by
 cases op<;>first|rfl|(cases hk;done)|skip
 rename_i c
 simp only [kindOp] at hk
 simp only [footA]
 cases hcal:c.callee with
 | value f=>rw [hcal] at hk;cases hk
 | invoke x n=>rw [hcal] at hk;cases hk
 | builtin b=>rw [hcal] at hk;cases b<;>first|rfl|cases hk
theorem foot_quiet {cfg:Cfg} {ρ:Operand->Option AV} {op:Op} (hk:quietK (kindOp op)=true):footIds (footA cfg ρ op)=[]:=by
 cases op<;>first|rfl|(cases hk;done)|skip
 · rename_i t a
   simp only [footA]
   cases (ob (ρ a) nameOf)<;>rfl
 · rename_i c
   simp only [kindOp] at hk
   simp only [footA]
   cases hcal:c.callee with
   | value f=>rw [hcal] at hk;cases hk
   | invoke x n=>rw [hcal] at hk;cases hk
   | builtin b=>rw [hcal] at hk;cases b<;>first|rfl|cases hk
theorem foot_bar {cfg:Cfg} {ρ:Operand->Option AV} {op:Op} (hk:quietK (kindOp op)=false) (hc:kindOp op≠.call):∃ids,footA cfg ρ op=.bar ids:=by
 have b1:∀x:Option Nat,∃ids,bar1 x=.bar ids:=fun x=>by cases x<;>exact ⟨_,rfl⟩
 cases op<;>first|(cases hk;done)|exact ⟨_,rfl⟩|exact b1 _|skip
 rename_i c
 simp only [kindOp] at hk hc
 simp only [footA]
 cases hcal:c.callee with
 | value f=>rw [hcal] at hc;exact absurd rfl hc
 | invoke x n=>exact ⟨_,rfl⟩
 | builtin b=>rw [hcal] at hk;cases b<;>first|exact b1 _|cases hk
section
variable (T:Tab) (cfg:Cfg) (call:Ctx->FuncId->List AV->Own->Option (AV×Own)) (C:Ctx) (ops:Array Oper)
def footAt (S:Nat->St) (k:Nat):Foot:=match ops[k]? with
 | some op=>bif wantedA ops (S k).ts op.guard then footA cfg (evalA cfg.G (S k).ts) op.op else .none
 | none=>.none
def StepR (S:Nat->St) (k:Nat):Prop:=∃op,ops[k]? = some op/\
 ((wantedA ops (S k).ts op.guard=true/\∃r,stepA T call rnd0 C (evalA cfg.G (S k).ts) (S k).o op.op=some r/\putA (S k) r.1 r.2 op.dst=some (S (k+1))/\∀id∈footIds (footA cfg (evalA cfg.G (S k).ts) op.op),id<C.lo+(S k).o.n)∨
  (wantedA ops (S k).ts op.guard=false/\putA (S k) undefA (S k).o op.dst=some (S (k+1))))
variable {T cfg call C ops}
theorem drawA_row:∀{l:List Oper} {i:Nat} {st:St} {log:List (Nat×Foot)} {r:St×List (Nat×Foot)},ops.toList.drop i=l->drawA T cfg call C ops i l st log=some r->
 ∃S:Nat->St,S i=st/\S (i+l.length)=r.1/\(∀k,i≤k->k<i+l.length->StepR T cfg call C ops S k/\(k,footAt cfg ops S k)∈r.2)/\∀e∈log,e∈r.2
 | [],i,st,log,r,hl,h=>by
   cases h
   exact ⟨fun _=>st,rfl,rfl,fun k h1 h2=>by simp at h2;omega,fun _ h=>h⟩
 | op::rest,i,st,log,r,hl,h=>by
   have hk:ops[i]? = some op:=by
    have:(ops.toList.drop i)[0]? = some op:=by rw [hl];rfl
    rw [List.getElem?_drop] at this
    simpa using this
   have hrest:ops.toList.drop (i+1)=rest:=by rw [←List.drop_drop,hl];rfl
   have key:∀(st1:St) (f:Foot),drawA T cfg call C ops (i+1) rest st1 ((i,f)::log)=some r->
    (∀S:Nat->St,S i=st->S (i+1)=st1->StepR T cfg call C ops S i/\footAt cfg ops S i=f)->
    ∃S:Nat->St,S i=st/\S (i+(op::rest).length)=r.1/\(∀k,i≤k->k<i+(op::rest).length->StepR T cfg call C ops S k/\(k,footAt cfg ops S k)∈r.2)/\∀e∈log,e∈r.2:=by
    intro st1 f hd hs
    obtain ⟨S,h1,h2,h3,h4⟩:=drawA_row hrest hd
    refine ⟨fun k=>if k=i then st else S k,by simp,?_,?_,fun e he=>h4 e (List.mem_cons_of_mem _ he)⟩
    · simp only [List.length_cons]
      rw [if_neg (by omega),show i+(rest.length+1)=i+1+rest.length by omega];exact h2
    · intro k hk1 hk2
      simp only [List.length_cons] at hk2
      by_cases e:k=i
      · subst e
        obtain ⟨a,b⟩:=hs (fun j=>if j=k then st else S j) (by simp) (by simp [h1])
        exact ⟨a,by rw [b];exact h4 _ List.mem_cons_self⟩
      · obtain ⟨a,b⟩:=h3 k (by omega) (by omega)
        have e1:(fun k=>if k=i then st else S k) k=S k:=if_neg e
        have e2:(fun k=>if k=i then st else S k) (k+1)=S (k+1):=if_neg (by omega)
        refine ⟨?_,?_⟩
        · unfold StepR at a ⊢
          rw [e1,e2];exact a
        · have:footAt cfg ops (fun k=>if k=i then st else S k) k=footAt cfg ops S k:=by
           unfold footAt
           rw [e1]
          rw [this];exact b
   unfold drawA at h
   cases hw:wantedA ops st.ts op.guard with
   | true=>
     simp only [hw,cond_true,ob_some,ok_some] at h
     obtain ⟨q,hq,st1,hp,hf,h⟩:=h
     refine key st1 _ h fun S e1 e2=>⟨⟨op,hk,.inl ?_⟩,?_⟩
     · rw [e1,e2];exact ⟨hw,q,hq,hp,footLt_iff.1 hf⟩
     · simp only [footAt,hk,e1,hw,cond_true]
   | false=>
     simp only [hw,cond_false,ob_some] at h
     obtain ⟨st1,hp,h⟩:=h
     refine key st1 _ h fun S e1 e2=>⟨⟨op,hk,.inr ?_⟩,?_⟩
     · rw [e1,e2];exact ⟨hw,hp⟩
     · simp only [footAt,hk,e1,hw,cond_false]
def dstAt (ops:Array Oper) (k:Nat):Option Tmp:=(ops[k]?).bind (·.dst)
theorem putA_get {st st':St} {v:AV} {o:Own} {dst:Option Tmp} (h:putA st v o dst=some st') (t:Nat):st'.ts.get t=(if dst=some t then v else st.ts.get t):=by
 cases dst with
 | none=>simp only [putA,Option.some.injEq] at h;subst h;simp
 | some d=>
   simp only [putA,ok_some,Option.some.injEq,Bool.and_eq_true] at h
   obtain ⟨⟨h1,h2⟩,h⟩:=h
   rw [natLt_iff] at h1 h2
   subst h
   rw [Ts.get_set 20 _ _ _ _ (Nat.lt_of_lt_of_le h2 (by decide))]
   by_cases e:t=d
   · subst e;simp
   · rw [if_neg e,if_neg (by simpa using Ne.symm e)]
theorem putA_tn {st st':St} {v:AV} {o:Own} {dst:Option Tmp} (h:putA st v o dst=some st'):st'.tn=st.tn/\st'.o=o/\∀d,dst=some d->d<st.tn:=by
 cases dst with
 | none=>simp only [putA,Option.some.injEq] at h;subst h;simp
 | some d=>
   simp only [putA,ok_some,Option.some.injEq,Bool.and_eq_true] at h
   obtain ⟨⟨h1,h2⟩,h⟩:=h
   rw [natLt_iff] at h1
   subst h
   exact ⟨rfl,rfl,fun d' e=>by cases e;exact h1⟩
theorem putA_ds {st st':St} {v:AV} {o:Own} {dst:Option Tmp} (h:putA st v o dst=some st'):st'.ds=st.ds/\st'.ro=st.ro:=by
 cases dst with
 | none=>simp only [putA,Option.some.injEq] at h;subst h;exact ⟨rfl,rfl⟩
 | some d=>
   simp only [putA,ok_some,Option.some.injEq,Bool.and_eq_true] at h
   obtain ⟨_,h⟩:=h
   subst h
   exact ⟨rfl,rfl⟩
def Wr (cfg:Cfg) (ops:Array Oper) (S:Nat->St) (k i:Nat):Prop:=i∈footIds (footAt cfg ops S k)/\cfg.root.n≤i
structure Row (T:Tab) (cfg:Cfg) (call:Ctx->FuncId->List AV->Own->Option (AV×Own)) (C:Ctx) (ops:Array Oper) (S:Nat->St):Prop where
 step:∀k,k<ops.size->StepR T cfg call C ops S k
 len0:(S 0).o.os.length=(S 0).o.n
 le0:∀id,id∈(S 0).o.le.map (·.1)->cfg.root.n≤id/\id<C.lo
 lo:cfg.root.n≤C.lo
 g0:∀g,g<cfg.G->g<C.lo+(S 0).o.n
theorem Row.ids {S:Nat->St} (h:Row T cfg call C ops S):∀k,k<ops.size->∀id∈footIds (footAt cfg ops S k),id<C.lo+(S k).o.n:=by
 intro k hk id hid
 obtain ⟨op,hop,h1|h1⟩:=h.step k hk
 · obtain ⟨hw,r,hr,hp,hb⟩:=h1
   simp only [footAt,hop,hw,cond_true] at hid
   exact hb id hid
 · simp only [footAt,hop,h1.1,cond_false] at hid
   cases hid
theorem Row.stepF {S:Nat->St} (h:Row T cfg call C ops S) (hc:CallFoot cfg call):∀k,k<ops.size->(S k).o.os.length=(S k).o.n->StepF C (S k).o (S (k+1)).o (footIds (footAt cfg ops S k)):=by
 intro k hk hl
 obtain ⟨op,hop,h1|h1⟩:=h.step k hk
 · obtain ⟨hw,r,hr,hp,hb⟩:=h1
   rw [(putA_tn hp).2.1]
   have:=stepA_foot hc hr hl
   simp only [footAt,hop,hw,cond_true]
   exact this
 · rw [(putA_tn h1.2).2.1];exact .refl hl
theorem Row.len {S:Nat->St} (h:Row T cfg call C ops S) (hc:CallFoot cfg call):∀k,k≤ops.size->(S k).o.os.length=(S k).o.n
 | 0,_=>h.len0
 | k+1,hk=>(h.stepF hc k (by omega) (h.len hc k (by omega))).len
theorem Row.foot {S:Nat->St} (h:Row T cfg call C ops S) (hc:CallFoot cfg call) (k:Nat) (hk:k<ops.size):StepF C (S k).o (S (k+1)).o (footIds (footAt cfg ops S k)):=h.stepF hc k hk (h.len hc k (by omega))
theorem Row.tn {S:Nat->St} (h:Row T cfg call C ops S):∀k,k≤ops.size->(S k).tn=(S 0).tn
 | 0,_=>rfl
 | k+1,hk=>by
   rw [←h.tn k (by omega)]
   obtain ⟨op,hop,h1|h1⟩:=h.step k (by omega)
   · obtain ⟨hw,r,hr,hp,hb⟩:=h1;exact (putA_tn hp).1
   · exact (putA_tn h1.2).1
theorem Row.ds {S:Nat->St} (h:Row T cfg call C ops S):∀k,k≤ops.size->(S k).ds=(S 0).ds/\(S k).ro=(S 0).ro
 | 0,_=>⟨rfl,rfl⟩
 | k+1,hk=>by
   obtain ⟨i1,i2⟩:=h.ds k (by omega)
   rw [←i1,←i2]
   obtain ⟨op,hop,h1|h1⟩:=h.step k (by omega)
   · obtain ⟨hw,r,hr,hp,hb⟩:=h1;exact putA_ds hp
   · exact putA_ds h1.2
theorem Row.le {S:Nat->St} (h:Row T cfg call C ops S) (hc:CallFoot cfg call):∀k,k≤ops.size->(S k).o.le.map (·.1)=(S 0).o.le.map (·.1)
 | 0,_=>rfl
 | k+1,hk=>(h.foot hc k (by omega)).le.trans (h.le hc k (by omega))
theorem Row.mono {S:Nat->St} (h:Row T cfg call C ops S) (hc:CallFoot cfg call) {k:Nat}:∀d,k+d≤ops.size->(S k).o.n≤(S (k+d)).o.n
 | 0,_=>Nat.le_refl _
 | d+1,hk=>Nat.le_trans (h.mono hc d (by omega)) (h.foot hc (k+d) (by omega)).grow
theorem Row.mono' {S:Nat->St} (h:Row T cfg call C ops S) (hc:CallFoot cfg call) {k k':Nat} (h1:k≤k') (h2:k'≤ops.size):(S k).o.n≤(S k').o.n:=by
 have:=h.mono hc (k:=k) (k' - k) (by omega)
 rwa [show k+(k' - k)=k' by omega] at this
theorem Row.root {S:Nat->St} (h:Row T cfg call C ops S) (hc:CallFoot cfg call) (k:Nat) (hk:k≤ops.size) {i:Nat} (hi:i<cfg.root.n):get C (S k).o i=get C (S 0).o i:=by
 have hlo:=h.lo
 have hb:Nat.ble C.lo i=false:=bleF (by omega)
 have key:∀o:Own,(o.le.map (·.1)=(S 0).o.le.map (·.1))->get C o i=getB C.B i:=by
  intro o ho
  rw [get,getB]
  simp only [hb,cond_false]
  cases hx:leAt o.le i with
  | none=>rfl
  | some x=>
    have:i∈o.le.map (·.1):=leAt_isSome.1 (by rw [hx];rfl)
    rw [ho] at this
    have:=(h.le0 i this).1
    omega
 rw [key _ (h.le hc k hk),key _ rfl]
theorem Row.same1 {S:Nat->St} (h:Row T cfg call C ops S) (hc:CallFoot cfg call) {k i:Nat} (hk:k<ops.size) (hi:i<C.lo+(S k).o.n) (hw:¬Wr cfg ops S k i):get C (S (k+1)).o i=get C (S k).o i:=by
 by_cases hr:i<cfg.root.n
 · rw [h.root hc (k+1) (by omega) hr,h.root hc k (by omega) hr]
 · exact (h.foot hc k hk).same (h.ids k hk) i hi fun hm=>hw ⟨hm,by omega⟩
theorem Row.same {S:Nat->St} (h:Row T cfg call C ops S) (hc:CallFoot cfg call) {k i:Nat}:∀d,k+d≤ops.size->i<C.lo+(S k).o.n->(∀j,k≤j->j<k+d->¬Wr cfg ops S j i)->get C (S (k+d)).o i=get C (S k).o i
 | 0,_,_,_=>rfl
 | d+1,hd,hi,hw=>by
   have hm:=h.mono hc (k:=k) d (by omega)
   rw [←h.same hc d (by omega) hi fun j h1 h2=>hw j h1 (by omega)]
   exact h.same1 (k:=k+d) hc (by omega) (by omega) (hw (k+d) (by omega) (by omega))
theorem Row.same' {S:Nat->St} (h:Row T cfg call C ops S) (hc:CallFoot cfg call) {k k' i:Nat} (h1:k≤k') (h2:k'≤ops.size) (hi:i<C.lo+(S k).o.n) (hw:∀j,k≤j->j<k'->¬Wr cfg ops S j i):get C (S k').o i=get C (S k).o i:=by
 have:=h.same hc (k:=k) (k' - k) (by omega) hi fun j h3 h4=>hw j h3 (by omega)
 rwa [show k+(k' - k)=k' by omega] at this
theorem Row.ts1 {S:Nat->St} (h:Row T cfg call C ops S) {k t:Nat} (hk:k<ops.size) (ht:dstAt ops k≠some t):(S (k+1)).ts.get t=(S k).ts.get t:=by
 obtain ⟨op,hop,h1|h1⟩:=h.step k hk
 · obtain ⟨hw,r,hr,hp,hb⟩:=h1
   rw [putA_get hp,if_neg (by simpa [dstAt,hop] using ht)]
 · rw [putA_get h1.2,if_neg (by simpa [dstAt,hop] using ht)]
theorem Row.ts {S:Nat->St} (h:Row T cfg call C ops S) {k t:Nat}:∀d,k+d≤ops.size->(∀j,k≤j->j<k+d->dstAt ops j≠some t)->(S (k+d)).ts.get t=(S k).ts.get t
 | 0,_,_=>rfl
 | d+1,hd,hw=>by
   rw [←h.ts d (by omega) fun j h1 h2=>hw j h1 (by omega)]
   exact h.ts1 (k:=k+d) (by omega) (hw (k+d) (by omega) (by omega))
theorem Row.ts' {S:Nat->St} (h:Row T cfg call C ops S) {k k' t:Nat} (h1:k≤k') (h2:k'≤ops.size) (hw:∀j,k≤j->j<k'->dstAt ops j≠some t):(S k').ts.get t=(S k).ts.get t:=by
 have:=h.ts (k:=k) (t:=t) (k' - k) (by omega) fun j h3 h4=>hw j h3 (by omega)
 rwa [show k+(k' - k)=k' by omega] at this
end
theorem ObjRel.join {D1 D2:Nat->Prop} {m:Nat->Loc} {l:Loc} {x:AObj} {b b':Option Obj} (h1:ObjRel D1 m l x b) (h2:ObjRel D2 m l x b'):ObjRel D1 m l x b':=by
 cases x with
 | dead=>trivial
 | cells cs rw g=>
   obtain ⟨c,e,fz,_,hc⟩:=h1
   obtain ⟨c',e',fz',hb,hc'⟩:=h2
   exact ⟨c',e',fz',hb,hc'.at',hc.okc,hc'.free,hc'.grow⟩
 | map es=>
   obtain ⟨_,_,_,_,h3⟩:=h1
   obtain ⟨en,ck,hb,h4,_⟩:=h2
   exact ⟨en,ck,hb,h4,h3⟩
 | siter s pos=>exact h2
 | loop r=>
   obtain ⟨_,_,_,h3⟩:=h1
   obtain ⟨fn,tmps,hb,h4⟩:=h2
   exact ⟨fn,tmps,hb,h4.size,h4.at',h3.okt,h3.defs⟩
 | defs=>exact h2
theorem ObjRel.in_heap {D:Nat->Prop} {m:Nat->Loc} {l:Loc} {x:AObj} {w:World} (h:ObjRel D m l x w.heap[l.blk]?) (hl:live x=true):l.blk<w.heap.size:=by
 cases hb:w.heap[l.blk]? with
 | some b=>exact (Array.getElem?_eq_some_iff.1 hb).1
 | none=>
   rw [hb] at h
   cases x with
   | dead=>cases hl
   | cells cs rw g=>obtain ⟨_,_,_,e,_⟩:=h;cases e
   | map es=>obtain ⟨_,_,e,_⟩:=h;cases e
   | siter s p=>cases h.1
   | loop r=>obtain ⟨_,_,e,_⟩:=h;cases e
   | defs=>cases h
structure Mv (C:Ctx) (D:Nat->Prop) (m:Nat->Loc) (o:Own) (w:World) (D':Nat->Prop) (m':Nat->Loc) (w':World):Prop where
 sub:∀i,D i->D' i
 same:∀i,D i->m' i=m i
 new:∀i,D' i->D i∨C.lo+o.n≤i
 os:w'.os=w.os
 tape:w'.tape=w.tape
 output:w'.output=w.output
 size:w.heap.size≤w'.heap.size
 frame:∀k,k<w.heap.size->(∀i,D i->(own? C o i).isSome=true->(m i).blk≠k)->w'.heap[k]? = w.heap[k]?
 fresh:∀i,D' i->¬D i->w.heap.size≤(m' i).blk∨∃j,D j/\(own? C o j).isSome=true/\(m j).blk=(m' i).blk
section
variable {C:Ctx} {D0 D D':Nat->Prop} {m0 m m':Nat->Loc} {o0:Own} {w0 w w':World}
theorem Mv.mute (h:Mv C D0 m0 o0 w0 D m w) (hs:∀i,D i->D' i) (hm:∀i,D i->m' i=m i) (hn:∀i,D' i->D i∨C.lo+o0.n≤i) (hos:w'.os=w.os) (ht:w'.tape=w.tape) (hu:w'.output=w.output) (hz:w.heap.size≤w'.heap.size)
 (hf:∀k,k<w.heap.size->w'.heap[k]? = w.heap[k]?) (hfr:∀i,D' i->¬D i->w.heap.size≤(m' i).blk):Mv C D0 m0 o0 w0 D' m' w':=by
 refine ⟨fun i hi=>hs i (h.sub i hi),fun i hi=>(hm i (h.sub i hi)).trans (h.same i hi),fun i hi=>?_,hos.trans h.os,ht.trans h.tape,hu.trans h.output,Nat.le_trans h.size hz,fun k hk hn=>?_,fun i hi hni=>?_⟩
 · rcases hn i hi with hi|hi
   · exact h.new i hi
   · exact .inr hi
 · rw [hf k (Nat.lt_of_lt_of_le hk h.size),h.frame k hk hn]
 · by_cases hd:D i
   · rw [hm i hd];exact h.fresh i hd hni
   · exact .inl (Nat.le_trans h.size (hfr i hi hd))
theorem Mv.ext {cfg:Cfg} {o o':Own} (h:Mv C D0 m0 o0 w0 D m w) (k:Ext cfg C D m o w D' m' o' w') (hle:o.le.map (·.1)=o0.le.map (·.1)) (hn:o0.n≤o.n):Mv C D0 m0 o0 w0 D' m' w':=by
 refine ⟨fun i hi=>k.sub i (h.sub i hi),fun i hi=>(k.same i (h.sub i hi)).trans (h.same i hi),fun i hi=>?_,k.os.trans h.os,k.tape.trans h.tape,k.output.trans h.output,Nat.le_trans h.size k.size,fun b hb hn=>?_,fun i hi hni=>?_⟩
 · rcases k.new i hi with hi|hi
   · exact h.new i hi
   · exact .inr (by omega)
 · rw [k.frame b (Nat.lt_of_lt_of_le hb h.size) (fun i hi ho=>?_),h.frame b hb hn]
   rw [own_isSome hle i] at ho
   by_cases hd:D0 i
   · rw [h.same i hd];exact hn i hd ho
   · rcases h.fresh i hi hd with hf|⟨j,hj,hoj,e⟩
     · omega
     · rw [←e];exact hn j hj hoj
 · by_cases hd:D i
   · rw [k.same i hd];exact h.fresh i hd hni
   · rcases k.fresh i hi hd with hf|⟨j,hj,hoj,e⟩
     · exact .inl (Nat.le_trans h.size hf)
     · rw [own_isSome hle j] at hoj
       by_cases hdj:D0 j
       · exact .inr ⟨j,hdj,hoj,by rw [←e,h.same j hdj]⟩
       · rcases h.fresh j hj hdj with hf|⟨j',hj',ho',e'⟩
         · exact .inl (by omega)
         · exact .inr ⟨j',hj',ho',e'.trans e⟩
end
def Bel (C:Ctx) (S:Nat->St) (D:Nat->Prop) (k i:Nat):Prop:=D i/\i<C.lo+(S k).o.n
def CompT (ops:Array Oper) (E:Nat->Prop) (t k:Nat):Prop:=∀j,j<ops.size->dstAt ops j=some t->(E j↔j<k)
def CompB (cfg:Cfg) (ops:Array Oper) (S:Nat->St) (E:Nat->Prop) (i k:Nat):Prop:=∀j,j<ops.size->Wr cfg ops S j i->(E j↔j<k)
def TmpI (C:Ctx) (ops:Array Oper) (S:Nat->St) (E D:Nat->Prop) (m:Nat->Loc) (a:Act):Prop:=
 ∀t k,k≤ops.size->CompT ops E t k->a.tmps.getD t undef=conc m ((S k).ts.get t)/\okV (Bel C S D k) m ((S k).ts.get t)
structure DI (cfg:Cfg) (C:Ctx) (ops:Array Oper) (S:Nat->St) (D0:Nat->Prop) (m0:Nat->Loc) (w0:World) (E D:Nat->Prop) (m:Nat->Loc) (a:Act) (w:World):Prop where
 sz:a.tmps.size=(S 0).tn
 defers:a.defers=marksOf m0 (S 0).ds
 tmp:TmpI C ops S E D m a
 obj:∀i k,k≤ops.size->D i->i<C.lo+(S k).o.n->CompB cfg ops S E i k->ObjRel (Bel C S D k) m (m i) (get C (S k).o i) w.heap[(m i).blk]?
 inj:∀i j k,k≤ops.size->D i->D j->i<C.lo+(S k).o.n->j<C.lo+(S k).o.n->CompB cfg ops S E i k->CompB cfg ops S E j k->i≠j->
  live (get C (S k).o i)=true->rwO (get C (S k).o j)=true->(m i).blk≠(m j).blk
 orig:∀i,D i->i<C.lo+(S 0).o.n∨∃e,E e/\e<ops.size/\C.lo+(S e).o.n≤i/\i<C.lo+(S (e+1)).o.n
 wr:∀j i,E j->j<ops.size->Wr cfg ops S j i->D i
 glob:∀g,g<cfg.G->D g/\(m g).blk=g/\(m g).base=0/\(m g).cap=1
 root:∀id,id<cfg.root.n->D id/\get C (S 0).o id=cfg.root.at id
 mv:Mv C D0 m0 (S 0).o w0 D m w
theorem put_getD (a:Act) (dst:Option Tmp) (v:Value) (h:∀d,dst=some d->d<a.tmps.size) (t:Nat):(a.put dst v).tmps.getD t undef=if dst=some t then v else a.tmps.getD t undef:=by
 cases dst with
 | none=>simp [Act.put]
 | some d=>
   have hd:=h d rfl
   simp only [Act.put]
   by_cases e:t=d
   · subst e;simp [Array.getD,hd]
   · rw [if_neg (by simpa using Ne.symm e)]
     simp only [Array.getD,Array.size_setIfInBounds]
     split
     · rw [Array.getInternal_eq_getElem,Array.getInternal_eq_getElem,Array.getElem_setIfInBounds_ne (h:=fun e'=>e e'.symm)]
     · rfl
section
variable {T:Tab} {cfg:Cfg} {call:Ctx->FuncId->List AV->Own->Option (AV×Own)} {C:Ctx} {ops:Array Oper} {S:Nat->St} {D0:Nat->Prop} {m0:Nat->Loc} {w0:World} {E D D':Nat->Prop} {m m':Nat->Loc} {a:Act} {w w':World} {e:Nat}
theorem tmp_step (hR:Row T cfg call C ops S) (hc:CallFoot cfg call) (he:e<ops.size) (hE:¬E e) (h:TmpI C ops S E D m a) (ho:∀d,dstAt ops e=some d->∀j,j<ops.size->dstAt ops j=some d->j≠e->(E j↔j<e))
 (hs:∀i,D i->D' i) (hm:∀i,D i->m' i=m i) {v:AV} (hv:okV (Bel C S D' (e+1)) m' v) (hg:∀d,dstAt ops e=some d->(S (e+1)).ts.get d=v) (hd:∀d,dstAt ops e=some d->d<a.tmps.size) :
 TmpI C ops S (fun j=>E j∨j=e) D' m' (a.put (dstAt ops e) (conc m' v)):=by
 intro t k hk hct
 rw [put_getD a _ _ hd]
 by_cases ht:dstAt ops e=some t
 · rw [if_pos ht]
   have hek:e<k:=(hct e he ht).1 (.inr rfl)
   have hts:(S k).ts.get t=v:=by
    rw [←hg t ht]
    refine hR.ts' (by omega) hk fun j h1 h2 hj=>?_
    have h3:=(hct j (by omega) hj).2 h2
    have h4:=ho t ht j (by omega) hj (by omega)
    rcases h3 with h3|h3
    · have:=h4.1 h3;omega
    · omega
   rw [hts]
   refine ⟨rfl,hv.mono (fun i hi=>⟨hi.1,?_⟩) fun _ _=>rfl⟩
   have:=hR.mono' hc (k:=e+1) (k':=k) (by omega) hk
   have:=hi.2
   omega
 · rw [if_neg ht]
   have hct':CompT ops E t k:=fun j hj hjt=>by
    have:=hct j hj hjt
    have hne:j≠e:=fun e'=>ht (e'▸hjt)
    simpa [hne] using this
   obtain ⟨h1,h2⟩:=h t k hk hct'
   refine ⟨by rw [h1,conc_same h2 fun i hi=>hm i hi.1],h2.mono (fun i hi=>⟨hs i hi.1,hi.2⟩) fun i hi=>hm i hi.1⟩
end
end Go.Ev
