import Derived.LoopNIn
import Derived.RangeFuncRecord
import Derived.Test.YtafekjglclnegaaGreatDoorP10
set_option linter.all false
namespace Go.Ev
open Go Go.RowKit
theorem countP_le {p q:Nat->Bool} (h:∀i,q i=true->p i=true):∀l:List Nat,l.countP q≤l.countP p
 | []=>by simp
 | x::l=>by
   have:=countP_le h l
   rw [List.countP_cons,List.countP_cons]
   cases hq:q x with
   | true=>rw [h x hq];simp;exact this
   | false=>simp only [Bool.false_eq_true,if_false];omega
theorem countP_lt {p q:Nat->Bool} (h:∀i,q i=true->p i=true) {e:Nat} (hp:p e=true) (hq:q e=false):∀{l:List Nat},e∈l->l.countP q<l.countP p
 | [],he=>by cases he
 | x::l,he=>by
   rw [List.countP_cons,List.countP_cons]
   rcases List.mem_cons.1 he with rfl|he
   · have:=countP_le h l
     rw [hp,hq];simp;omega
   · have:=countP_lt h hp hq he
     cases hx:q x with
     | true=>rw [h x hx];simp;exact this
     | false=>simp only [Bool.false_eq_true,if_false];omega
def Lst (listed:Array Bool) (j:Nat):Prop:=listed.getD j false=true
theorem getD_tf (listed:Array Bool) {i:Nat} (h:i<listed.size):listed.getD i true=listed.getD i false:=by simp [Array.getD,h]
theorem lst_set {listed:Array Bool} {i:Nat} (h:i<listed.size) (j:Nat):Lst (listed.setIfInBounds i true) j↔Lst listed j∨j=i:=by
 unfold Lst
 by_cases e:j=i
 · subst e;simp [Array.getD,h]
 · simp only [e,or_false,Array.getD,Array.size_setIfInBounds]
   split
   · rw [Array.getInternal_eq_getElem,Array.getInternal_eq_getElem,Array.getElem_setIfInBounds_ne (h:=fun e'=>e e'.symm)]
   · rfl
theorem ready_iff {ops:Array Oper} {listed:Array Bool} (hs:listed.size=ops.size) {i:Nat}:i∈Region.ready .any ops listed↔i<ops.size/\¬Lst listed i/\WaitsOK ops (Lst listed) i:=by
 unfold Region.ready
 rw [List.mem_filter,List.mem_range]
 constructor
 · rintro ⟨hi,h⟩
   rw [getD_tf listed (by omega)] at h
   have hop:ops[i]? = some ops[i]:=by simp [hi]
   simp only [hop,Option.map_some,Option.getD_some,Bool.and_eq_true,Bool.not_eq_true'] at h
   refine ⟨hi,by unfold Lst;simp [h.1],fun o ho e he hb=>?_⟩
   rw [hop] at ho
   cases ho
   have:=h.2
   rw [←Array.all_toList,List.all_eq_true] at this
   have:=this e he
   simpa [hb,Lst] using this
 · rintro ⟨hi,h1,h2⟩
   refine ⟨hi,?_⟩
   have hop:ops[i]? = some ops[i]:=by simp [hi]
   rw [getD_tf listed (by omega)]
   simp only [hop,Option.map_some,Option.getD_some,Bool.and_eq_true,Bool.not_eq_true']
   refine ⟨by unfold Lst at h1;simpa using h1,?_⟩
   rw [←Array.all_toList,List.all_eq_true]
   intro e he
   cases hb:Region.binds .any e with
   | false=>simp
   | true=>have:=h2 _ hop e he hb;simpa [Lst] using this
section
variable {P:Program} {T:Tab} (hT:TabOK P T) {cfg:Cfg} {call:Ctx->FuncId->List AV->Own->Option (AV×Own)} (hcall:CallOK P cfg True call) (hc:CallFoot cfg call) {C:Ctx} {ops:Array Oper} {S:Nat->St} (hR:Row T cfg call C ops S) (hA:Checks cfg ops S)
 {D0:Nat->Prop} {m0:Nat->Loc} {w0:World}
include hT hcall hc hR hA
theorem any_ok {x:Option Nat} {Q:Exit->Act->World->Prop} (hq:∀D m a w,DI cfg C ops S D0 m0 w0 (fun j=>j<ops.size) D m a w->Q .normal a w):∀(fuel:Nat) (listed:Array Bool),listed.size=ops.size->((List.range ops.size).countP fun i=>!listed.getD i true)≤fuel->
 (∀j,Lst listed j->WaitsOK ops (Lst listed) j)->∀{D:Nat->Prop} {m:Nat->Loc} {a:Act} {w:World},DI cfg C ops S D0 m0 w0 (Lst listed) D m a w->wpAnyIn (FR x) 0 P .any ops Q fuel listed a w:=by
 have fin:∀(listed:Array Bool),listed.size=ops.size->Region.ready .any ops listed=[]->∀{D:Nat->Prop} {m:Nat->Loc} {a:Act} {w:World},DI cfg C ops S D0 m0 w0 (Lst listed) D m a w->Q .normal a w:=by
  intro listed hs hr D m a w h
  have hall:∀j,j<ops.size->Lst listed j:=by
   intro j
   induction j using Nat.strongRecOn with
   | ind j ih=>
     intro hj
     refine Classical.byContradiction fun hn=>?_
     have:j∈Region.ready .any ops listed:=(ready_iff hs).2 ⟨hj,hn,fun o ho e he hb=>by
      have:=hA.edge j o ho e he hb
      exact ih e.on this (by omega)⟩
     rw [hr] at this;cases this
  have heq:Lst listed=fun j=>j<ops.size:=funext fun j=>propext ⟨fun hh=>(by
   refine Classical.byContradiction fun hn=>?_
   unfold Lst at hh
   simp only [Array.getD] at hh
   rw [dif_neg (by omega)] at hh
   cases hh),hall j⟩
  rw [heq] at h
  exact hq D m a w h
 intro fuel
 induction fuel with
 | zero=>
   intro listed hs hcnt hd D m a w h
   have hr:Region.ready .any ops listed=[]:=by
    rw [List.eq_nil_iff_forall_not_mem]
    intro i hi
    obtain ⟨h1,h2,_⟩:=(ready_iff hs).1 hi
    have:0<(List.range ops.size).countP fun i=>!listed.getD i true:=List.countP_pos_iff.2 ⟨i,List.mem_range.2 h1,by rw [getD_tf listed (by omega)];unfold Lst at h2;simpa using h2⟩
    omega
   exact ⟨hr,fin listed hs hr h⟩
 | succ fuel ih=>
   intro listed hs hcnt hd D m a w h
   refine ⟨fun hr=>fin listed hs hr h,fun i hi=>?_⟩
   obtain ⟨h1,h2,h3⟩:=(ready_iff hs).1 hi
   have hset:Lst (listed.setIfInBounds i true)=fun j=>Lst listed j∨j=i:=funext fun j=>propext (lst_set (by omega) j)
   refine draw_step hT hcall hc hR hA h hd h1 h2 h3 fun D2 m2 a2 w2 h'=>?_
   refine ih (listed.setIfInBounds i true) (by simp [hs]) ?_ ?_ (by rw [hset];exact h')
   · have hlt:(List.range ops.size).countP (fun j=>!(listed.setIfInBounds i true).getD j true)<(List.range ops.size).countP (fun j=>!listed.getD j true):=by
      refine countP_lt (e:=i) (fun j hj=>?_) ?_ ?_ (List.mem_range.2 h1)
      · by_cases hjs:j<listed.size
        · rw [getD_tf _ (by simpa using hjs)] at hj
          rw [getD_tf _ hjs]
          have:¬Lst (listed.setIfInBounds i true) j:=by unfold Lst;simpa using hj
          rw [lst_set (by omega)] at this
          have:¬Lst listed j:=fun hh=>this (.inl hh)
          unfold Lst at this;simpa using this
        · simp [Array.getD,hjs] at hj
      · rw [getD_tf _ (by omega)];unfold Lst at h2;simpa using h2
      · rw [getD_tf _ (by simp;omega)]
        have:Lst (listed.setIfInBounds i true) i:=(lst_set (by omega) i).2 (.inr rfl)
        unfold Lst at this;simp [this]
     omega
   · intro j hj o ho e he hb
     rw [hset] at hj ⊢
     rcases hj with hj|rfl
     · exact .inl (hd j hj o ho e he hb)
     · exact .inl (h3 o ho e he hb)
end
section
variable {P:Program} {T:Tab} (hT:TabOK P T) (hm:P.follows .mixedOrders=true) {cfg:Cfg} {C:Ctx} {call:Ctx->FuncId->List AV->Own->Option (AV×Own)} (hcall:CallOK P cfg True call) (hc:CallFoot cfg call)
include hT hm hcall hc
theorem draw_ok {x:Option Nat} {rnd:Ctx->Nat->List AV->Own->Option (AV×Own)} {callI:Ctx->FuncId->List AV->Own->Option (AV×Own)} {ops:Array Oper} {id:Nat} {Q:Exit->Act->World->Prop} {D:Nat->Prop} {m:Nat->Loc} {st st':St} {a:Act} {w:World} (hi:Inv cfg D m C st.o w) (ht:TR D m st a) (h:regionA T cfg call rnd C callI ops true st=some st')
 (hq:∀D' m' a' w',TR D' m' st' a'->Ext cfg C D m st.o w D' m' st'.o w'->Q .normal a' w'):(Code.region id ops true).wpIn (FR x) 0 P Q a w:=by
 simp only [regionA,cond_true,ob_some,ok_some,Option.some.injEq] at h
 obtain ⟨acc,hs,r,hd,hap,rfl⟩:=h
 obtain ⟨S,h0,hn,hst,_⟩:=drawA_row (by simp) hd
 rw [Nat.zero_add] at hn
 have hlen:ops.toList.length=ops.size:=by simp
 rw [hlen] at hn
 have hst':∀k,k<ops.size->StepR T cfg call C ops S k/\(k,footAt cfg ops S k)∈r.2:=fun k hk=>hst k (Nat.zero_le _) (by rw [hlen];omega)
 have hR:Row T cfg call C ops S:=⟨fun k hk=>(hst' k hk).1,by rw [h0];exact hi.len,by rw [h0];exact hi.le,hi.lo,fun g hg=>by rw [h0];exact hi.lt g (hi.glob g hg).1⟩
 have hA:Checks cfg ops S:=checks_of hs (fun k hk=>(hst' k hk).2) hap
 refine wpIn_region_any hm (any_ok hT hcall hc hR hA (D0:=D) (m0:=m) (w0:=w) (fun D' m' a' w' hdi=>?_) ops.size _ (by simp) ?_ ?_ (D:=D) (m:=m) ?_)
 · have hbd:∀i,D' i->i<C.lo+(S ops.size).o.n:=fun i hi'=>by
    rcases hdi.orig i hi' with h5|⟨e,_,he,_,h7⟩
    · have:=hR.mono' hc (k:=0) (k':=ops.size) (by omega) (by omega);omega
    · have:=hR.mono' hc (k:=e+1) (k':=ops.size) (by omega) (by omega);omega
   have hall:∀i,CompB cfg ops S (fun j=>j<ops.size) i ops.size:=fun i j hj _=>⟨fun _=>hj,fun _=>hj⟩
   have hallt:∀t,CompT ops (fun j=>j<ops.size) t ops.size:=fun i j hj _=>⟨fun _=>hj,fun _=>hj⟩
   have htr:TR D' m' (S ops.size) a':=⟨by rw [hdi.sz,hR.tn _ (Nat.le_refl _)],fun t=>(hdi.tmp t _ (Nat.le_refl _) (hallt t)).1,fun t=>(hdi.tmp t _ (Nat.le_refl _) (hallt t)).2.mono (fun i hi'=>hi'.1) fun _ _=>rfl,by rw [hdi.defers,(hR.ds _ (Nat.le_refl _)).1,marksOf_same (D:=D) (by rw [h0];exact ht.dsD) hdi.mv.same],fun d hd=>hdi.mv.sub d (by rw [(hR.ds _ (Nat.le_refl _)).1,h0] at hd;exact ht.dsD d hd),fun i hi'=>hdi.mv.sub i (by rw [(hR.ds _ (Nat.le_refl _)).2,h0] at hi';exact ht.roD i hi')⟩
   have hinv:Inv cfg D' m' C (S ops.size).o w':=by
    refine ⟨fun i hi'=>(hdi.obj i _ (Nat.le_refl _) hi' (hbd i hi') (hall i)).mono (fun j hj=>hj.1) fun _ _=>rfl,fun i j hi' hj' hij hl hr=>hdi.inj i j _ (Nat.le_refl _) hi' hj' (hbd i hi') (hbd j hj') (hall i) (hall j) hij hl hr,hbd,hdi.glob,fun i hi'=>?_,fun i hi'=>?_,hR.lo,hR.len hc _ (Nat.le_refl _)⟩
    · exact ⟨(hdi.root i hi').1,by rw [hR.root hc _ (Nat.le_refl _) hi'];exact (hdi.root i hi').2⟩
    · rw [hR.le hc _ (Nat.le_refl _)] at hi';exact hR.le0 i hi'
   rw [hn] at htr hinv
   have hmv:=hdi.mv
   rw [h0] at hmv
   have hgrow:=hR.mono' hc (k:=0) (k':=ops.size) (by omega) (by omega)
   have hle:=hR.le hc ops.size (Nat.le_refl _)
   rw [h0,hn] at hgrow hle
   exact hq D' m' a' w' htr ⟨hinv,hmv.sub,hmv.same,hmv.new,hgrow,hmv.os,hmv.tape,hmv.output,hmv.size,hmv.frame,hle,hmv.fresh⟩
 · refine Nat.le_trans List.countP_le_length (by simp)
 · intro j hj
   unfold Lst at hj
   simp only [Array.getD] at hj
   split at hj
   · simp at hj
   · cases hj
 · have hno:∀j,¬Lst (Array.replicate ops.size false) j:=fun j hj=>by
    unfold Lst at hj
    simp only [Array.getD] at hj
    split at hj
    · simp at hj
    · cases hj
   have cT:∀t k,k≤ops.size->CompT ops (Lst (Array.replicate ops.size false)) t k->(S k).ts.get t=st.ts.get t:=fun t k hk hct=>by
    rw [←h0]
    exact hR.ts' (by omega) hk fun j _ hj hjt=>hno j ((hct j (by omega) hjt).2 hj)
   have cB:∀i k,k≤ops.size->D i->CompB cfg ops S (Lst (Array.replicate ops.size false)) i k->get C (S k).o i=get C st.o i:=fun i k hk hdi hcb=>by
    have:=hi.lt i hdi
    have:=hR.same' hc (k:=0) (k':=k) (i:=i) (by omega) hk (by rw [h0];exact this) fun j _ hj hw=>hno j ((hcb j (by omega) hw).2 hj)
    rw [this,h0]
   have bel:∀k,k≤ops.size->∀i,D i->Bel C S D k i:=fun k hk i hdi=>⟨hdi,by
    have:=hi.lt i hdi
    have h1:=hR.mono' hc (k:=0) (k':=k) (by omega) hk
    rw [h0] at h1
    omega⟩
   refine { sz:=by rw [h0];exact ht.size,defers:=by rw [h0];exact ht.defers,tmp:=fun t k hk hct=>?_,obj:=fun i k hk hdi _ hcb=>?_,inj:=fun i j k hk hdi hdj _ _ hci hcj hij hl hr=>?_,orig:=fun i hdi=>.inl (by rw [h0];exact hi.lt i hdi),wr:=fun j i hj=>absurd hj (hno j),glob:=hi.glob,root:=fun i hid=>by rw [h0];exact hi.root i hid,mv:=?_ }
   · rw [cT t k hk hct]
     exact ⟨ht.at' t,(ht.okt t).mono (bel k hk) fun _ _=>rfl⟩
   · rw [cB i k hk hdi hcb]
     exact (hi.obj i hdi).mono (bel k hk) fun _ _=>rfl
   · rw [cB i k hk hdi hci] at hl
     rw [cB j k hk hdj hcj] at hr
     exact hi.inj i j hdi hdj hij hl hr
   · exact ⟨fun _ hh=>hh,fun _ _=>rfl,fun _ hh=>.inl hh,rfl,rfl,rfl,Nat.le_refl _,fun _ _ _=>rfl,fun i hh hn=>absurd hh hn⟩
theorem region_ok {x:Option Nat} {rnd:Ctx->Nat->List AV->Own->Option (AV×Own)} {callI:Ctx->FuncId->List AV->Own->Option (AV×Own)} (hcI:CallOK P cfg False callI) (hrI:RndOK P cfg False rnd) {ops:Array Oper} {id:Nat} {draw:Bool} {Q:Exit->Act->World->Prop} {D:Nat->Prop} {m:Nat->Loc} {st st':St} {a:Act} {w:World} (hi:Inv cfg D m C st.o w) (ht:TR D m st a) (h:regionA T cfg call rnd C callI ops draw st=some st')
 (hq:∀D' m' a' w',TR D' m' st' a'->Ext cfg C D m st.o w D' m' st'.o w'->Q .normal a' w'):(Code.region id ops draw).wpIn (FR x) 0 P Q a w:=by
 cases draw with
 | true=>exact draw_ok hT hm hcall hc hi ht h hq
 | false=>
   simp only [regionA,cond_false] at h
   refine wpIn_region ?_
   have:=ops_ok hT hcI hrI (Q:=Q) (x:=x) ops.toList 0 (by simp) hi ht h hq
   simpa [List.range_eq_range'] using this
end
def grown (o1 o:Own):Own:=⟨o1.n+o.n,o1.os++o.os,o.le⟩
theorem grown_old {C:Ctx} {o1 o:Own} {i:Nat} (hl:o1.os.length=o1.n) (hi:i<C.lo+o.n):get C (grown o1 o) i=get C o i:=by
 rw [get,getB,get,getB]
 by_cases hb:C.lo≤i
 · rw [ble_iff.2 hb,cond_true,cond_true]
   unfold grown Own.at
   simp only [List.getD_eq_getElem?_getD]
   rw [List.getElem?_append_right (by omega),show o1.n+o.n-1-(i-C.lo)-o1.os.length=o.n-1-(i-C.lo) by omega]
 · rw [bleF hb];rfl
theorem grown_new {C:Ctx} {o1 o:Own} {i:Nat} (hl:o1.os.length=o1.n) (h1:C.lo+o.n≤i) (h2:i<C.lo+o.n+o1.n):get C (grown o1 o) i=o1.at (i-(C.lo+o.n)):=by
 rw [get,getB,ble_iff.2 (by omega:C.lo≤i),cond_true]
 unfold grown Own.at
 simp only [List.getD_eq_getElem?_getD]
 rw [List.getElem?_append_left (by omega),show o1.n+o.n-1-(i-C.lo)=o1.n-1-(i-(C.lo+o.n)) by omega]
theorem StepF.grown {C:Ctx} {o1 o:Own} {ids:List Nat} (hl:o.os.length=o.n) (hl1:o1.os.length=o1.n):StepF C o (grown o1 o) ids:=
 ⟨by simp [Ev.grown],rfl,by simp [Ev.grown,hl,hl1],fun _ i hi _=>grown_old hl1 hi⟩
theorem backA_foot {C:Ctx} {ids:List Nat}:∀{l:List (Nat×AObj)} {o:Own},o.os.length=o.n->(∀p∈l,p.1∈ids)->StepF C o (backA C o l) ids
 | [],o,hl,_=>.refl hl
 | p::l,o,hl,h=>by
   rw [backA]
   exact (StepF.put hl (h p List.mem_cons_self)).trans (backA_foot (put_len hl) fun q hq=>h q (List.mem_cons_of_mem _ hq))
theorem lendA_ids {C:Ctx} {o:Own}:∀{ids:List Nat} {p:Nat×AObj},p∈lendA C o ids->p.1∈ids/\own? C o p.1=some p.2
 | [],p,h=>by cases h
 | id::ids,p,h=>by
   rw [lendA] at h
   have rec':p∈lendA C o ids->p.1∈id::ids/\own? C o p.1=some p.2:=fun h=>⟨List.mem_cons_of_mem _ (lendA_ids h).1,(lendA_ids h).2⟩
   cases hm:elemN id ids with
   | true=>rw [hm,cond_true] at h;exact rec' h
   | false=>
     rw [hm,cond_false] at h
     cases hx:own? C o id with
     | none=>rw [hx] at h;exact rec' h
     | some x=>
       rw [hx] at h
       rcases List.mem_cons.1 h with rfl|h
       · exact ⟨List.mem_cons_self,hx⟩
       · exact rec' h
theorem lendA_nodup {C:Ctx} {o:Own}:∀{ids:List Nat},((lendA C o ids).map (·.1)).Nodup
 | []=>by simp [lendA]
 | id::ids=>by
   rw [lendA]
   cases hm:elemN id ids with
   | true=>rw [cond_true];exact lendA_nodup
   | false=>
     rw [cond_false]
     cases hx:own? C o id with
     | none=>exact lendA_nodup
     | some x=>
       simp only [List.map_cons,List.nodup_cons]
       refine ⟨fun hin=>?_,lendA_nodup⟩
       obtain ⟨p,hp,e⟩:=List.mem_map.1 hin
       have:=(lendA_ids hp).1
       rw [e] at this
       rw [elemN_iff.2 this] at hm
       cases hm
def LL (o o':Own):Prop:=o.os.length=o.n->o'.os.length=o'.n/\o'.le.map (·.1)=o.le.map (·.1)
theorem LL.refl (o:Own):LL o o:=fun h=>⟨h,rfl⟩
theorem LL.trans {o o1 o2:Own} (h:LL o o1) (k:LL o1 o2):LL o o2:=fun hl=>⟨(k (h hl).1).1,(k (h hl).1).2.trans (h hl).2⟩
theorem LL.put {C:Ctx} {o:Own} {id:Nat} {x:AObj}:LL o (putO C o id x):=fun h=>⟨put_len h,put_le⟩
theorem LL.push {o:Own} {x:AObj}:LL o (o.push x):=fun h=>⟨by simp [Own.push,h],rfl⟩
theorem LL.foot {C:Ctx} {o o':Own} {ids:List Nat} (h:o.os.length=o.n->StepF C o o' ids):LL o o':=fun hl=>⟨(h hl).len,(h hl).le⟩
def CodeLL (code:Ctx->Code->St->Option (AX×St)):Prop:=∀C c st r,code C c st=some r->LL st.o r.2.o/\r.2.ro=st.ro
def CallLL (call:Ctx->FuncId->List AV->Own->Option (AV×Own)):Prop:=∀C f args o r,call C f args o=some r->LL o r.2
def RndLL (rnd:Ctx->Nat->List AV->Own->Option (AV×Own)):Prop:=∀C id args o r,rnd C id args o=some r->LL o r.2
theorem marksA_ll {C:Ctx}:∀{ds:List Nat} {o o':Own},marksA C o ds=some o'->LL o o'
 | [],o,o',h=>by cases h;exact .refl o
 | d::ds,o,o',h=>by
   unfold marksA at h
   split at h
   · exact LL.put.trans (marksA_ll h)
   · cases h
section
variable {T:Tab} {cfg:Cfg} {code:Ctx->Code->St->Option (AX×St)}
theorem enterA_some {C:Ctx} {fn:Func} {c:Code} {args:List AV} {o0:Own} {r:AV×Own} (h:enterA T code C fn c args o0=some r) :
 args.length≤1000/\∃x o vs,code C c (startA fn args o0)=some x/\(∀id,x.1≠.exit id)/\marksA C x.2.o x.2.ds=some o/\resA T C ⟨x.2.ts,x.2.tn,o,[],none⟩ fn.results.toList=some vs/\r=(oneOf vs,o):=by
 simp only [enterA,ok_some,ob_some,ble_iff] at h
 obtain ⟨h1,x,hx,h⟩:=h
 refine ⟨h1,?_⟩
 unfold endA at h
 split at h
 · cases h
 · rename_i hne
   simp only [ob_some,Option.some.injEq] at h
   obtain ⟨o,ho,vs,hvs,rfl⟩:=h
   exact ⟨x,o,vs,hx,fun id e=>hne id e,ho,hvs,rfl⟩
theorem enterA_ll (hll:CodeLL code) {C:Ctx} {fn:Func} {c:Code} {args:List AV} {o0:Own} {r:AV×Own} (h:enterA T code C fn c args o0=some r):LL o0 r.2:=by
 obtain ⟨_,x,o,vs,hx,_,hm,_,rfl⟩:=enterA_some h
 exact (hll _ _ _ _ hx).1.trans (marksA_ll hm)
theorem callN_foot (hll:CodeLL code) {C:Ctx} {fn:Func} {c:Code} {args:List AV} {o:Own} {r:AV×Own} {ids:List Nat} (h:callN T code C fn c args o (lendA C o ids)=some r) (hl:o.os.length=o.n):StepF C o r.2 ids:=by
 simp only [callN,ob_some,Option.some.injEq] at h
 obtain ⟨r1,he,rfl⟩:=h
 obtain ⟨h1,h2⟩:=enterA_ll hll he rfl
 have hg:StepF C o (grown r1.2 o) ids:=.grown hl h1
 unfold afterA
 split
 · cases belowA (C.lo+o.n) 20 r1.1 with
   | true=>exact .refl hl
   | false=>exact hg
 · refine hg.trans (backA_foot hg.len fun p hp=>?_)
   have:p.1∈(lendA C o ids).map (·.1):=by
    have h2':r1.2.le.map (·.1)=(lendA C o ids).map (·.1):=h2
    rw [←h2'];exact List.mem_map.2 ⟨p,hp,rfl⟩
   obtain ⟨q,hq,e⟩:=List.mem_map.1 this
   rw [←e]
   exact (lendA_ids hq).1
theorem callA_foot (horc:CallFoot cfg fun C f args o=>cfg.orc f C args o) (hll:CodeLL code):CallFoot cfg (callA T cfg false code):=by
 intro C f args o r h hl
 unfold callA at h
 cases ho:cfg.orc f C args o with
 | some r'=>
   rw [ho] at h
   cases h
   exact horc C f args o r ho hl
 | none=>
   rw [ho] at h
   simp only [callF,ob_some] at h
   obtain ⟨fc,_,h⟩:=h
   cases hb:(cfg.canon f&&belowL cfg.root.n args) with
   | true=>
     simp only [hb,cond_true,ob_some,Option.some.injEq] at h
     obtain ⟨v,_,rfl⟩:=h
     exact .refl hl
   | false=>
     simp only [hb,cond_false,callL,Bool.false_and] at h
     exact callN_foot hll h hl
theorem callA_ll {inl:Bool} (horc:CallFoot cfg fun C f args o=>cfg.orc f C args o) (hll:CodeLL code):CallLL (callA T cfg inl code):=by
 intro C f args o r h
 unfold callA at h
 cases ho:cfg.orc f C args o with
 | some r'=>
   rw [ho] at h
   cases h
   exact .foot fun hl=>horc C f args o r ho hl
 | none=>
   rw [ho] at h
   simp only [callF,ob_some] at h
   obtain ⟨fc,_,h⟩:=h
   cases hb:(cfg.canon f&&belowL cfg.root.n args) with
   | true=>
     simp only [hb,cond_true,ob_some,Option.some.injEq] at h
     obtain ⟨v,_,rfl⟩:=h
     exact .refl _
   | false=>
     simp only [hb,cond_false,callL] at h
     cases hy:(inl&&anyYL args) with
     | true=>rw [hy,cond_true] at h;exact enterA_ll hll h
     | false=>rw [hy,cond_false] at h;exact .foot fun hl=>callN_foot hll h hl
theorem stepA_ll (cf:Cfg) {call:Ctx->FuncId->List AV->Own->Option (AV×Own)} (hc:CallLL call) {rnd:Ctx->Nat->List AV->Own->Option (AV×Own)} (hr:RndLL rnd) {C:Ctx} {ρ:Operand->Option AV} {o:Own} {op:Op} {r:AV×Own} (h:stepA T call rnd C ρ o op=some r):LL o r.2:=by
 have other:stepA T (fun _ _ _ _=>none) rnd0 C ρ o op=some r->LL o r.2:=fun h'=>.foot fun hl=>stepA_foot (cfg:=cf) (fun C f args o r h=>by cases h) h' hl
 cases op with
 | call c=>
   unfold stepA callC at h
   unfold stepA callC at other
   cases hcal:c.callee with
   | value f=>
     simp only [hcal,ob_some] at h
     obtain ⟨fv,hf,vs,hvs,h⟩:=h
     cases fv<;>simp only [callV,reduceCtorEq] at h
     · exact hc _ _ _ _ _ h
     · exact hr _ _ _ _ _ h
   | builtin b=>simp only [hcal] at h other;exact other h
   | invoke x n=>simp only [hcal] at h other;exact other h
 | _=>exact other h
theorem opsA_ll {call:Ctx->FuncId->List AV->Own->Option (AV×Own)} (hc:CallLL call) {rnd:Ctx->Nat->List AV->Own->Option (AV×Own)} (hr:RndLL rnd) {C:Ctx} {ops:Array Oper}:∀{l:List Oper} {st st':St},opsA T cfg call rnd C ops l st=some st'->LL st.o st'.o/\st'.ro=st.ro
 | [],st,st',h=>by cases h;exact ⟨.refl _,rfl⟩
 | oo::rest,st,st',h=>by
   simp only [opsA,ob_some] at h
   obtain ⟨st1,hs,h⟩:=h
   cases hw:wantedA ops st.ts oo.guard with
   | true=>
     simp only [hw,cond_true,ob_some] at hs
     obtain ⟨r,hr',hp⟩:=hs
     have hf:=stepA_ll cfg hc hr hr'
     rw [←(putA_tn hp).2.1] at hf
     obtain ⟨a,b⟩:=opsA_ll hc hr h
     exact ⟨hf.trans a,b.trans (putA_ds hp).2⟩
   | false=>
     simp only [hw,cond_false] at hs
     have e:=(putA_tn hs).2.1
     obtain ⟨a,b⟩:=opsA_ll hc hr h
     rw [e] at a
     exact ⟨a,b.trans (putA_ds hs).2⟩
theorem drawA_ll {call:Ctx->FuncId->List AV->Own->Option (AV×Own)} (hc:CallFoot cfg call) {C:Ctx} {ops:Array Oper}:∀{l:List Oper} {i:Nat} {st:St} {log:List (Nat×Foot)} {r:St×List (Nat×Foot)},drawA T cfg call C ops i l st log=some r->LL st.o r.1.o/\r.1.ro=st.ro
 | [],i,st,log,r,h=>by cases h;exact ⟨.refl _,rfl⟩
 | oo::rest,i,st,log,r,h=>by
   unfold drawA at h
   cases hw:wantedA ops st.ts oo.guard with
   | true=>
     simp only [hw,cond_true,ob_some,ok_some] at h
     obtain ⟨q,hr,st1,hp,_,h⟩:=h
     have hf:LL st.o q.2:=.foot fun hl=>stepA_foot hc hr hl
     rw [←(putA_tn hp).2.1] at hf
     obtain ⟨a,b⟩:=drawA_ll hc h
     exact ⟨hf.trans a,b.trans (putA_ds hp).2⟩
   | false=>
     simp only [hw,cond_false,ob_some] at h
     obtain ⟨st1,hs,h⟩:=h
     have e:=(putA_tn hs).2.1
     obtain ⟨a,b⟩:=drawA_ll hc h
     rw [e] at a
     exact ⟨a,b.trans (putA_ds hs).2⟩
theorem regionA_ll {call callI:Ctx->FuncId->List AV->Own->Option (AV×Own)} (hc:CallFoot cfg call) (hcI:CallLL callI) {rnd:Ctx->Nat->List AV->Own->Option (AV×Own)} (hr:RndLL rnd) {C:Ctx} {ops:Array Oper} {draw:Bool} {st st':St} (h:regionA T cfg call rnd C callI ops draw st=some st'):LL st.o st'.o/\st'.ro=st.ro:=by
 cases draw with
 | true=>
   simp only [regionA,cond_true,ob_some,ok_some,Option.some.injEq] at h
   obtain ⟨acc,hs,r,hd,hap,rfl⟩:=h
   exact drawA_ll hc hd
 | false=>exact opsA_ll hcI hr h
theorem loopAt_some {C:Ctx} {o:Own} {id:Nat} {r:ALoop} (h:loopAt C o id=some r):own? C o id=some (.loop r):=by
 unfold loopAt at h
 split at h
 · cases h;assumption
 · cases h
theorem roundA_ll (hll:CodeLL code):RndLL (roundA code):=by
 intro C id args o r h
 simp only [roundA,ob_some] at h
 obtain ⟨q,_,ts,_,x,hx,h⟩:=h
 simp only [beginRoundA,ok_some,ob_some] at h
 obtain ⟨_,q1,_,_,x2,hx2,h⟩:=h
 simp only [endRoundA,ob_some,Option.some.injEq] at h
 obtain ⟨q2,_,rfl⟩:=h
 exact (((hll _ _ _ _ hx).1.trans LL.put).trans (hll _ _ _ _ hx2).1).trans LL.put
theorem then_ll {f:St->Option (AX×St)} {x r:AX×St} {st:St} (h:thenA f x=some r) (hx:LL st.o x.2.o/\x.2.ro=st.ro) (hf:∀st r,f st=some r->LL st.o r.2.o/\r.2.ro=st.ro) :
 LL st.o r.2.o/\r.2.ro=st.ro:=by
 unfold thenA at h
 split at h
 · obtain ⟨a,b⟩:=hf _ _ h
   exact ⟨hx.1.trans a,b.trans hx.2⟩
 · cases h;exact hx
theorem code_ll (horc:CallFoot cfg fun C f args o=>cfg.orc f C args o):∀n,CodeLL (codeA T cfg n)
 | 0,C,c,st,r,h=>by cases h
 | n+1,C,c,st,r,h=>by
   have ih:=code_ll horc n
   unfold codeA at h
   cases c<;>simp only [codeSel] at h
   case skip=>cases h;exact ⟨.refl _,rfl⟩
   case label=>cases h;exact ⟨.refl _,rfl⟩
   case seq a b=>
    simp only [cSeq,ob_some] at h
    obtain ⟨x,hx,h⟩:=h
    exact then_ll h (ih _ _ _ _ hx) fun st r=>ih _ _ st r
   case cond c a b=>
    simp only [cCond,ob_some] at h
    obtain ⟨v,hv,h⟩:=h
    unfold condA at h
    split at h
    · exact ih _ _ _ _ h
    · exact ih _ _ _ _ h
    · cases h
   case block id b=>
    simp only [cBlock,ob_some,Option.some.injEq] at h
    obtain ⟨x,hx,rfl⟩:=h
    have:=ih _ _ _ _ hx
    unfold leaveA
    split
    · cases Nat.beq _ id<;>exact this
    · exact this
   case loop b=>
    simp only [cLoop,ob_some] at h
    obtain ⟨x,hx,h⟩:=h
    exact then_ll h (ih _ _ _ _ hx) fun st r=>ih _ _ st r
   case scope b=>exact ih _ _ _ _ h
   case exit=>cases h;exact ⟨.refl _,rfl⟩
   case ret=>cases h;exact ⟨.refl _,rfl⟩
   case region id ops draw=>
    simp only [cRegion,ob_some,Option.some.injEq] at h
    obtain ⟨st',hs,rfl⟩:=h
    exact regionA_ll (callA_foot horc ih) (callA_ll horc ih) (roundA_ll ih) hs
   case rangeFunc g ps assign body=>
    simp only [cRange,ob_some] at h
    obtain ⟨gv,_,e,he,x,hx,h⟩:=h
    simp only [endLoopA,ob_some,ok_some,Option.some.injEq] at h
    obtain ⟨q,_,_,ax,_,rfl⟩:=h
    have h1:LL st.o e.2.1:=by
     unfold enterDefs at he
     split at he
     · cases he;exact LL.push
     · simp only [ob_some,Option.some.injEq] at he
       obtain ⟨_,_,rfl⟩:=he
       exact .refl _
    have h2:LL (e.2.1.push (.loop ⟨.ready,none,st.ts,st.tn,ps,assign,body,e.1⟩)) x.2:=by
     cases gv<;>simp only [loopCall,reduceCtorEq] at hx
     rw [ob_some] at hx
     obtain ⟨fc,_,hx⟩:=hx
     exact enterA_ll ih hx
    exact ⟨((h1.trans LL.push).trans h2).trans LL.put,rfl⟩
   all_goals cases h
end
def exitOf:AX->Exit
 | .normal=>.normal
 | .exit id=>.exit id
 | .ret=>.ret
def CodeOK (P:Program) (cfg:Cfg) (code:Ctx->Code->St->Option (AX×St)):Prop:=
 ∀C c st r,code C c st=some r->∀D m a w,Inv cfg D m C st.o w->TR D m st a->∀Q:Exit->Act->World->Prop,
  (∀D' m' a' w',TR D' m' r.2 a'->Ext cfg C D m st.o w D' m' r.2.o w'->Q (exitOf r.1) a' w')->c.wpIn (FR (roB m st.ro)) 0 P Q a w
def idsO:AObj->List (Nat×Nat)
 | .cells cs _ _=>idsL cs
 | .map es=>idsL (es.map (·.1))++idsL (es.map (·.2))
 | _=>[]
def noLoop:AObj->Bool
 | .loop _=>false
 | _=>true
structure CfgOK (cfg:Cfg):Prop where
 loops:∀id,id<cfg.root.n->noLoop (cfg.root.at id)=true
 G:cfg.G≤cfg.root.n
 root:∀id,id<cfg.root.n->∀i∈idsO (cfg.root.at id),i.1<cfg.root.n
theorem ObjRel.narrow {D D':Nat->Prop} {m:Nat->Loc} {l:Loc} {x:AObj} {b:Option Obj} (h:ObjRel D m l x b) (hl:noLoop x=true) (hi:∀i∈idsO x,D i.1->D' i.1):ObjRel D' m l x b:=by
 cases x with
 | dead=>trivial
 | cells cs rw g=>
   obtain ⟨c,e,fz,hb,hc⟩:=h
   exact ⟨c,e,fz,hb,hc.at',fun i hm=>⟨hi i hm (hc.okc i hm).1,(hc.okc i hm).2⟩,hc.free,hc.grow⟩
 | map es=>
   obtain ⟨en,ck,hb,he,ho⟩:=h
   refine ⟨en,ck,hb,he,fun e hm=>⟨fun i hi'=>⟨hi i ?_ ((ho e hm).1 i hi').1,((ho e hm).1 i hi').2⟩,fun i hi'=>⟨hi i ?_ ((ho e hm).2 i hi').1,((ho e hm).2 i hi').2⟩⟩⟩
   · simp only [idsO,List.mem_append];exact .inl (mem_idsL.2 ⟨e.1,List.mem_map.2 ⟨e,hm,rfl⟩,hi'⟩)
   · simp only [idsO,List.mem_append];exact .inr (mem_idsL.2 ⟨e.2,List.mem_map.2 ⟨e,hm,rfl⟩,hi'⟩)
 | siter s pos=>exact h
 | loop r=>exact absurd hl (by simp [noLoop])
 | defs=>exact h
theorem belowA_ok {lo:Nat}:∀(d:Nat) {v:AV},belowA lo d v=true->∀i∈idsA v,i.1<lo
 | 0,v,h=>by cases h
 | d+1,v,h=>by
   have key:∀vs:List AV,vs.all (belowA lo d)=true->∀i∈idsL vs,i.1<lo:=fun vs hv i hi=>by
    obtain ⟨v,hvm,hi⟩:=mem_idsL.1 hi
    exact belowA_ok d (List.all_eq_true.1 hv v hvm) i hi
   unfold belowA at h
   cases v<;>simp only at h<;>intro i hi<;>simp only [idsA] at hi
   case ptr=>simp only [List.mem_singleton] at hi;subst hi;exact natLt_iff.1 h
   case slice=>simp only [List.mem_singleton] at hi;subst hi;exact natLt_iff.1 h
   case map=>simp only [List.mem_singleton] at hi;subst hi;exact natLt_iff.1 h
   case yield=>simp only [List.mem_singleton] at hi;subst hi;exact natLt_iff.1 h
   case func=>
    rw [Bool.and_eq_true] at h
    rcases List.mem_append.1 hi with hi|hi
    · exact key _ h.1 i hi
    · exact key _ h.2 i hi
   case iface=>exact belowA_ok d h i hi
   case agg=>exact key _ h i hi
   case tuple=>exact key _ h i hi
   all_goals cases hi
theorem belowL_ok {lo:Nat} {vs:List AV} (h:belowL lo vs=true):∀i∈idsL vs,i.1<lo:=fun i hi=>by
 obtain ⟨v,hvm,hi⟩:=mem_idsL.1 hi
 exact belowA_ok 20 (List.all_eq_true.1 h v hvm) i hi
theorem quiet_back {cfg:Cfg} {C C1:Ctx} {D D1 D':Nat->Prop} {m m':Nat->Loc} {o o1 o2:Own} {w w':World} (hi:Inv cfg D m C o w) (hx:Ext cfg C1 D1 m o1 w D' m' o2 w') (hD:∀i,D1 i->D i)
 (hn:∀i,D1 i->(own? C1 o1 i).isSome=true->False) {v:AV} (hv:okV D' m' v) (hb:∀i∈idsA v,D' i.1->D1 i.1):conc m' v=conc m v/\okV D m v/\Ext cfg C D m o w D m o w'/\Mute D w D m w':=by
 have hf:∀k,k<w.heap.size->w'.heap[k]? = w.heap[k]? := fun k hk=>hx.frame k hk fun i hi' hs=>(hn i hi' hs).elim
 have hsame:∀i∈idsA v,m' i.1=m i.1:=fun i hm=>hx.same i.1 (hb i hm (hv i hm).1)
 refine ⟨conc_congr v hsame,fun i hm=>⟨hD _ (hb i hm (hv i hm).1),by rw [←hsame i hm];exact (hv i hm).2⟩,?_,hf,fun i h1 h2=>absurd h1 h2⟩
 exact ⟨hi.world fun j hj hl=>hf _ ((hi.obj j hj).in_heap hl),fun _ h=>h,fun _ _=>rfl,fun _ h=>.inl h,Nat.le_refl _,hx.os,hx.tape,hx.output,hx.size,fun k hk _=>hf k hk,rfl,fun i h1 h2=>absurd h1 h2⟩
theorem backA_get {C:Ctx}:∀{l:List (Nat×AObj)} {o:Own} {i:Nat},o.os.length=o.n->(l.map (·.1)).Nodup->(∀p∈l,p.1<C.lo+o.n/\(own? C o p.1).isSome=true)->i<C.lo+o.n->
 get C (backA C o l) i=(match leAt l i with
  | some x=>x
  | none=>get C o i)
 | [],o,i,_,_,_,_=>rfl
 | p::l,o,i,hl,hnd,hp,hi=>by
   obtain ⟨hp1,hp2⟩:=hp p List.mem_cons_self
   simp only [List.map_cons,List.nodup_cons] at hnd
   rw [backA,backA_get (put_len hl) hnd.2 (fun q hq=>by rw [put_n,own_isSome put_le];exact hp q (List.mem_cons_of_mem _ hq)) (by rw [put_n];exact hi)]
   rw [leAt]
   by_cases e:p.1=i
   · have hnone:leAt l i=none:=by
      cases hx:leAt l i with
      | none=>rfl
      | some x=>exact absurd (e▸leAt_isSome.1 (by rw [hx];rfl)) hnd.1
     rw [hnone,beqT e,cond_true]
     simp only
     rw [get_put hl hp1 hi hp2,if_pos e.symm]
   · rw [beqF e,cond_false]
     cases hx:leAt l i with
     | some x=>rfl
     | none=>
       simp only
       rw [get_put hl hp1 hi hp2,if_neg (Ne.symm e)]
theorem backA_n {C:Ctx}:∀{l:List (Nat×AObj)} {o:Own},(backA C o l).n=o.n/\(backA C o l).le.map (·.1)=o.le.map (·.1)/\(o.os.length=o.n->(backA C o l).os.length=(backA C o l).n)
 | [],o=>⟨rfl,rfl,fun h=>h⟩
 | p::l,o=>by
   obtain ⟨a,b,c⟩:=backA_n (C:=C) (l:=l) (o:=putO C o p.1 p.2)
   exact ⟨a.trans put_n,b.trans put_le,fun h=>c (put_len h)⟩
def resFn (tmps:Array Value):ResultVar->Sem Value
 | .tmp t=>pure (tmps.getD t undef)
 | .cell a t=>do loadVar t (←asAddr (tmps.getD a undef))
theorem results_eq (fn:Func) (tmps:Array Value):results fn tmps=(do
 let vs ←fn.results.mapM (resFn tmps)
 pure (if h:vs.size=1 then vs[0] else .tuple vs)):=by
 unfold results
 have:(fun x=>(match x with|.tmp t=>pure (tmps.getD t undef)|.cell a t=>(do loadVar t (←asAddr (tmps.getD a undef))):Sem Value))=resFn tmps:=by
  funext x;cases x<;>rfl
 rw [←this]
 rfl
section
variable {P:Program} {T:Tab} (hT:TabOK P T) {cfg:Cfg} {code:Ctx->Code->St->Option (AX×St)} (hcode:CodeOK P cfg code)
include hT
theorem run_results {C:Ctx} {D:Nat->Prop} {m:Nat->Loc} {st:St} {a:Act} {w:World} (hi:Inv cfg D m C st.o w) (ht:TR D m st a):∀{l:List ResultVar} {vs:List AV},resA T C st l=some vs->
 (l.mapM (resFn a.tmps)).run P w=.ok (concL m vs) w/\okL D m vs
 | [],vs,h=>by cases h;exact ⟨by simp [concL],okL_nil⟩
 | .tmp t::rest,vs,h=>by
   simp only [resA,ob_some,Option.some.injEq] at h
   obtain ⟨vs',hvs,rfl⟩:=h
   obtain ⟨h1,h2⟩:=run_results hi ht hvs
   refine ⟨?_,okL_cons.2 ⟨ht.okt t,h2⟩⟩
   simp only [List.mapM_cons,resFn,Sem.run_bind,Sem.run_pure,Result.andThen_ok,h1,ht.at' t,concL]
 | .cell b t::rest,vs,h=>by
   simp only [resA,ob_some,Option.some.injEq] at h
   obtain ⟨v,hv,vs',hvs,rfl⟩:=h
   obtain ⟨h1,h2⟩:=run_results hi ht hvs
   obtain ⟨ad,hc,hr,hok⟩:=run_loadA hT hi (ht.okt b) hv
   refine ⟨?_,okL_cons.2 ⟨hok,h2⟩⟩
   have ha:(asAddr (conc m (st.ts.get b))).run P w=.ok ad w:=by rw [hc];rfl
   simp only [List.mapM_cons,resFn,Sem.run_bind,Sem.run_pure,Result.andThen_ok,ht.at' b,ha,hr,h1,concL]
theorem results_ok {C:Ctx} {D:Nat->Prop} {m:Nat->Loc} {st:St} {a:Act} {w:World} (hi:Inv cfg D m C st.o w) (ht:TR D m st a) {fn:Func} {vs:List AV} (h:resA T C st fn.results.toList=some vs) :
 (results fn a.tmps).run P w=.ok (conc m (oneOf vs)) w/\okV D m (oneOf vs):=by
 obtain ⟨h1,h2⟩:=run_results hT hi ht h
 have hm:(fn.results.mapM (resFn a.tmps)).run P w=.ok (concL m vs).toArray w:=by
  rw [Array.mapM_eq_mapM_toList,Sem.run_map,h1];rfl
 refine ⟨?_,?_⟩
 · rw [results_eq,Sem.run_bind,hm,Result.andThen_ok,Sem.run_pure]
   cases vs with
   | nil=>simp [concL,oneOf,conc]
   | cons v vs=>
     cases vs with
     | nil=>simp [concL,oneOf]
     | cons u us=>simp [concL,oneOf,conc]
 · cases vs with
   | nil=>exact okV_tuple.2 h2
   | cons v vs=>
     cases vs with
     | nil=>exact (okL_cons.1 h2).1
     | cons u us=>exact okV_tuple.2 h2
theorem start_TR {D:Nat->Prop} {m:Nat->Loc} {fn:Func} {args:List AV} {le:Own} (hlen:args.length≤1000) (hok:okL D m args) :
 TR D m (startA fn args le) { tmps:=(concL m args).toArray++Array.replicate (fn.ntmps-(concL m args).toArray.size) undef,defers:=[] }:=by
 have hcl:(concL m args).length=args.length:=concL_len
 have hg:∀t,(startA fn args le).ts.get t=if t<args.length then args.getD t undefA else undefA:=fun t=>by
  have:=Ts.get_ofList args 0 .nil t (by omega)
  simp only [startA,this,Nat.zero_le,Nat.zero_add,true_and,Nat.sub_zero,Ts.get_nil]
 refine ⟨?_,fun t=>?_,fun t=>?_,rfl,fun d hd=>(by cases hd),fun i hi=>(by cases hi)⟩
 · simp only [startA,Array.size_append,List.size_toArray,Array.size_replicate,hcl]
   omega
 · rw [hg t]
   by_cases h:t<args.length
   · rw [if_pos h]
     have h1:(concL m args)[t]? = some (conc m (args.getD t undefA)):=by
      rw [concL_get];simp [h]
     simp only [Array.getD,Array.size_append,List.size_toArray,hcl]
     rw [dif_pos (by omega),Array.getInternal_eq_getElem,Array.getElem_append_left (by simp [hcl];exact h)]
     have h2:t<(concL m args).length:=by omega
     rw [List.getElem?_eq_getElem h2,Option.some.injEq] at h1
     simpa using h1
   · rw [if_neg h,conc_undef]
     simp only [Array.getD]
     split
     · rename_i hs
       rw [Array.getInternal_eq_getElem,Array.getElem_append_right (by simp [hcl];omega)]
       simp
     · rfl
 · rw [hg t]
   by_cases h:t<args.length
   · rw [if_pos h]
     exact okL_iff.1 hok _ (by simp [List.getD_eq_getElem?_getD,h])
   · rw [if_neg h];exact okV_undef
omit hT in
theorem leaves_ok {fn:Func} {tmps:Array Value} {R:Ending->World->Prop} {C:Ctx} {D:Nat->Prop} {m:Nat->Loc}:∀{ds:List Nat} {o o':Own} {w:World},marksA C o ds=some o'->Inv cfg D m C o w->(∀d∈ds,D d)->
 (∀w',Ext cfg C D m o w D m o' w'->LeavesIn Fence.wide 0 P fn tmps R [] .returning w')->LeavesInM Fence.wide 0 P fn tmps R (marksOf m ds) .returning w
 | [],o,o',w,h,hi,hd,hk=>by
   cases h
   exact hk w (Ext.refl hi)
 | d::ds,o,o',w,h,hi,hd,hk=>by
   unfold marksA at h
   split at h
   · rename_i hx
     have hdd:=hd d List.mem_cons_self
     have hb:w.heap[(m d).blk]? = some (.deferred (some [])):=by
      have:=hi.obj d hdd
      rw [own_get hx] at this
      exact this
     have hlt:(m d).blk<w.heap.size:=(Array.getElem?_eq_some_iff.1 hb).1
     have he:Ext cfg C D m o w D m (putO C o d .dead) (w.putObj (m d).blk (.deferred none)):=
      Ext.put hi hdd hx rfl (by simp) (fun k hk=>World.putObj_heap_other hk) trivial rfl rfl rfl
     exact ⟨by simp,.inl ⟨(m d).blk,_,rfl,run_takeDeferred hb,leaves_ok h he.inv (fun d' hd'=>hd d' (List.mem_cons_of_mem _ hd')) fun w' hw'=>hk w' (he.trans hw')⟩⟩
   · cases h
include hcode
theorem enter_ok {f:FuncId} {fn:Func} {c:Code} (hb:bodyOf T f=some (fn,c)) {C:Ctx} {D:Nat->Prop} {m:Nat->Loc} {args:List AV} {o0:Own} {w:World} {r:AV×Own} (h:enterA T code C fn c args o0=some r)
 (hi:Inv cfg D m C o0 w) (hok:okL D m args) {R:Value->World->Prop} (hR:∀D' m' w',okV D' m' r.1->Ext cfg C D m o0 w D' m' r.2 w'->R (conc m' r.1) w'):(callFunc f (concL m args).toArray).run P w=.ok (.enter f (concL m args).toArray) w/\Calls P f (concL m args).toArray w fun e w'=>∃v,e=.returned v/\R v w':=by
 simp only [bodyOf,ob_some,Option.some.injEq,Prod.mk.injEq] at hb
 obtain ⟨fn',hfn,c',hbody,rfl,rfl⟩:=hb
 obtain ⟨hf,hname⟩:=hT.fn f fn' hfn
 obtain ⟨hlen,x,o,vs,hx,hne,hmk,hres,rfl⟩:=enterA_some h
 refine ⟨?_,?_⟩
 · simp [callFunc,hf,hname,hbody]
 · refine callsIn_wide.1 (callsIn_of_wp_marks (n:=0) hf hbody trivial ?_)
   refine hcode _ _ _ _ hx D m _ w hi (start_TR hT hlen hok) _ fun D' m' a' w' ht he=>?_
   have this:LeavesInM Fence.wide 0 P fn' a'.tmps (fun e w''=>∃v,e=.returned v/\R v w'') a'.defers .returning w':=by
    rw [ht.defers]
    refine leaves_ok hmk he.inv ht.dsD fun w2 he2=>?_
    have ht2:TR D' m' ⟨x.2.ts,x.2.tn,o,[],none⟩ ⟨a'.tmps,[]⟩:=⟨ht.size,ht.at',ht.okt,rfl,fun d hd=>(by cases hd),fun i hi=>(by cases hi)⟩
    obtain ⟨h1,h2⟩:=results_ok hT he2.inv ht2 hres
    exact ⟨_,h1,_,rfl,hR D' m' w2 h2 (he.trans he2)⟩
   cases hxe:x.1 with
   | normal=>exact this
   | ret=>exact this
   | exit id=>exact absurd hxe (hne id)
end
end Go.Ev
