import Derived.OrdersIn
import Derived.Test.YtafekjglclnegaaGreatDoorP09
set_option linter.all false
namespace Go.Ev
open Go Go.RowKit
section
variable {T:Tab} {cfg:Cfg} {call:Ctx->FuncId->List AV->Own->Option (AV×Own)} {C:Ctx} {ops:Array Oper} {S:Nat->St} {D0:Nat->Prop} {m0:Nat->Loc} {w0:World} {E D D':Nat->Prop} {m m':Nat->Loc} {a:Act} {w w':World} {e:Nat}
theorem DI.mute (hR:Row T cfg call C ops S) (hc:CallFoot cfg call) (h:DI cfg C ops S D0 m0 w0 E D m a w) (he:e<ops.size) (hE:¬E e) (hnw:∀i,¬Wr cfg ops S e i)
 (ho:∀d,dstAt ops e=some d->∀j,j<ops.size->dstAt ops j=some d->j≠e->(E j↔j<e))
 (hd:∀d,dstAt ops e=some d->d<(S 0).tn)
 (h1:∀i,Bel C S D e i->D' i) (h2:∀i,Bel C S D e i->m' i=m i) (h3:∀i,D' i->Bel C S D e i∨C.lo+(S e).o.n≤i) (h4:∀i,D' i->i<C.lo+(S (e+1)).o.n)
 {v:AV} (hv:okV D' m' v) (hg:∀d,dstAt ops e=some d->(S (e+1)).ts.get d=v)
 (hos:w'.os=w.os) (ht:w'.tape=w.tape) (hu:w'.output=w.output) (hz:w.heap.size≤w'.heap.size)
 (hmu:Mute (Bel C S D e) w D' m' w')
 (hobj:∀i,D' i->¬Bel C S D e i->ObjRel D' m' (m' i) (get C (S (e+1)).o i) w'.heap[(m' i).blk]?)
 (hinj:∀i j,D' i->D' j->¬Bel C S D e i->¬Bel C S D e j->i≠j->live (get C (S (e+1)).o i)=true->rwO (get C (S (e+1)).o j)=true->(m' i).blk≠(m' j).blk) :
 ∃D2 m2,conc m2 v=conc m' v/\DI cfg C ops S D0 m0 w0 (fun j=>E j∨j=e) D2 m2 (a.put (dstAt ops e) (conc m2 v)) w':=by
 have hnr:∀i,D i->C.lo+(S e).o.n≤i->i<C.lo+(S (e+1)).o.n->False:=by
  intro i hi hlo hhi
  rcases h.orig i hi with h5|⟨e',he',hl,h6,h7⟩
  · have:=hR.mono' hc (k:=0) (k':=e) (by omega) (by omega);omega
  · rcases Nat.lt_trichotomy e' e with hlt|heq|hgt
    · have:=hR.mono' hc (k:=e'+1) (k':=e) (by omega) (by omega);omega
    · exact hE (heq▸he')
    · have:=hR.mono' hc (k:=e+1) (k':=e') (by omega) (by omega);omega
 let m2:Nat->Loc:=fun i=>if C.lo+(S e).o.n≤i/\i<C.lo+(S (e+1)).o.n then m' i else m i
 let D2:Nat->Prop:=fun i=>D i∨D' i
 have m2D:∀i,D i->m2 i=m i:=fun i hi=>if_neg fun hh=>hnr i hi hh.1 hh.2
 have m2D':∀i,D' i->m2 i=m' i:=fun i hi=>by
  rcases h3 i hi with hb|hlo
  · rw [m2D i hb.1,h2 i hb]
  · exact if_pos ⟨hlo,h4 i hi⟩
 have newR:∀i,D' i->¬D i->C.lo+(S e).o.n≤i:=fun i hi hn=>(h3 i hi).resolve_left fun hb=>hn hb.1
 have hmono:=(hR.foot hc e he).grow
 have nob:∀i,D' i->¬D i->¬Bel C S D e i:=fun i _ hn hb=>hn hb.1
 have cB:∀i k,CompB cfg ops S (fun j=>E j∨j=e) i k->CompB cfg ops S E i k:=fun i k hcb j hj hw=>by
  have:=hcb j hj hw
  have hne:j≠e:=fun ee=>hnw i (ee▸hw)
  simpa [hne] using this
 have newk:∀i k,k≤ops.size->D' i->¬D i->i<C.lo+(S k).o.n->e+1≤k:=fun i k hk hi hn hlt=>by
  have:=newR i hi hn
  rcases Nat.lt_or_ge e k with h'|h'
  · exact h'
  · have:=hR.mono' hc h' (by omega);omega
 have newget:∀i k,k≤ops.size->D' i->¬D i->i<C.lo+(S k).o.n->CompB cfg ops S (fun j=>E j∨j=e) i k->get C (S k).o i=get C (S (e+1)).o i:=fun i k hk hi hn hlt hcb=>
  hR.same' hc (newk i k hk hi hn hlt) hk (h4 i hi) fun j hj1 hj2 hw=>by
   rcases (hcb j (by omega) hw).2 hj2 with hj|hj
   · exact hn (h.wr j i hj (by omega) hw)
   · omega
 have oobj:∀i k,k≤ops.size->D i->i<C.lo+(S k).o.n->CompB cfg ops S E i k->live (get C (S k).o i)=true->(m i).blk<w.heap.size:=fun i k hk hi hlt hcb hl=>(h.obj i k hk hi hlt hcb).in_heap hl
 have nblk:∀i,D' i->¬D i->w.heap.size≤(m' i).blk:=fun i hi hn=>hmu.2 i hi (nob i hi hn)
 refine ⟨D2,m2,conc_same hv fun i hi=>m2D' i hi,?_⟩
 refine { sz:=?_,defers:=?_,tmp:=?_,obj:=?_,inj:=?_,orig:=?_,wr:=?_,glob:=?_,root:=?_,mv:=?_ }
 · have:=h.sz
   cases hdst:dstAt ops e<;>simp [Act.put,this]
 · have:=h.defers
   cases hdst:dstAt ops e<;>simp [Act.put,this]
 · refine tmp_step hR hc he hE h.tmp ho (fun i hi=>.inl hi) m2D ?_ hg fun d hdd=>by rw [h.sz];exact hd d hdd
   exact hv.mono (fun i hi=>⟨.inr hi,h4 i hi⟩) m2D'
 · intro i k hk hi hlt hcb
   by_cases hD:D i
   · have hold:=h.obj i k hk hD hlt (cB i k hcb)
     have:ObjRel (Bel C S D k) m (m i) (get C (S k).o i) w'.heap[(m i).blk]? := by
      cases hl:live (get C (S k).o i) with
      | true=>rw [hmu.1 _ (hold.in_heap hl)];exact hold
      | false=>
        cases hx:get C (S k).o i with
        | dead=>trivial
        | _=>rw [hx] at hl;cases hl
     rw [m2D i hD]
     exact this.mono (fun j hj=>⟨.inl hj.1,hj.2⟩) fun j hj=>m2D j hj.1
   · have hD':=hi.resolve_left hD
     rw [newget i k hk hD' hD hlt hcb,m2D' i hD']
     refine (hobj i hD' (nob i hD' hD)).mono (fun j hj=>⟨.inr hj,?_⟩) m2D'
     have:=h4 j hj
     have:=hR.mono' hc (newk i k hk hD' hD hlt) hk
     omega
 · intro i j k hk hi hj hli hlj hci hcj hij hl hr
   by_cases hDi:D i<;>by_cases hDj:D j
   · rw [m2D i hDi,m2D j hDj]
     exact h.inj i j k hk hDi hDj hli hlj (cB i k hci) (cB j k hcj) hij hl hr
   · have hDj':=hj.resolve_left hDj
     rw [m2D i hDi,m2D' j hDj']
     have h5:=oobj i k hk hDi hli (cB i k hci) hl
     have h6:=nblk j hDj' hDj
     omega
   · have hDi':=hi.resolve_left hDi
     rw [m2D' i hDi',m2D j hDj]
     have h5:=oobj j k hk hDj hlj (cB j k hcj) (live_of_rw hr)
     have h6:=nblk i hDi' hDi
     omega
   · have hDi':=hi.resolve_left hDi
     have hDj':=hj.resolve_left hDj
     rw [m2D' i hDi',m2D' j hDj']
     rw [newget i k hk hDi' hDi hli hci] at hl
     rw [newget j k hk hDj' hDj hlj hcj] at hr
     exact hinj i j hDi' hDj' (nob i hDi' hDi) (nob j hDj' hDj) hij hl hr
 · rintro i (hi|hi)
   · rcases h.orig i hi with h5|⟨e',h6,h7⟩
     · exact .inl h5
     · exact .inr ⟨e',.inl h6,h7⟩
   · by_cases hD:D i
     · rcases h.orig i hD with h5|⟨e',h6,h7⟩
       · exact .inl h5
       · exact .inr ⟨e',.inl h6,h7⟩
     · exact .inr ⟨e,.inr rfl,he,newR i hi hD,h4 i hi⟩
 · rintro j i (hj|rfl) hjl hw
   · exact .inl (h.wr j i hj hjl hw)
   · exact absurd hw (hnw i)
 · intro g hgl
   obtain ⟨g1,g2,g3⟩:=h.glob g hgl
   exact ⟨.inl g1,by rw [m2D g g1];exact g2,by rw [m2D g g1];exact g3⟩
 · intro id hid
   exact ⟨.inl (h.root id hid).1,(h.root id hid).2⟩
 · have hm0:=hR.mono' hc (k:=0) (k':=e) (by omega) (by omega)
   refine h.mv.mute (fun i hi=>.inl hi) m2D (fun i hi=>?_) hos ht hu hz hmu.1 fun i hi hn=>?_
   · rcases hi with hi|hi
     · exact .inl hi
     · by_cases hD:D i
       · exact .inl hD
       · have:=newR i hi hD;exact .inr (by omega)
   · have hD':=hi.resolve_left hn
     rw [m2D' i hD'];exact nblk i hD' hn
theorem DI.bar (hR:Row T cfg call C ops S) (hc:CallFoot cfg call) (h:DI cfg C ops S D0 m0 w0 E D m a w) (he:e<ops.size) (hE:¬E e)
 (ho:∀d,dstAt ops e=some d->∀j,j<ops.size->dstAt ops j=some d->j≠e->(E j↔j<e))
 (hd:∀d,dstAt ops e=some d->d<(S 0).tn)
 (hbd:∀i,D i->i<C.lo+(S e).o.n) (hwo:∀j i,j<ops.size->Wr cfg ops S j i->j≠e->(E j↔j<e)) (hwe:∀i,Wr cfg ops S e i->D i)
 {v:AV} (hv:okV D' m' v) (hg:∀d,dstAt ops e=some d->(S (e+1)).ts.get d=v)
 (hx:Ext cfg C D m (S e).o w D' m' (S (e+1)).o w') :
 DI cfg C ops S D0 m0 w0 (fun j=>E j∨j=e) D' m' (a.put (dstAt ops e) (conc m' v)) w':=by
 have hmono:=(hR.foot hc e he).grow
 have hlt':∀i,D' i->i<C.lo+(S (e+1)).o.n:=hx.inv.lt
 have key:∀i k,k≤ops.size->D' i->i<C.lo+(S k).o.n->CompB cfg ops S (fun j=>E j∨j=e) i k->get C (S k).o i=get C (S (e+1)).o i/\(k≤e->D i/\CompB cfg ops S E i k):=by
  intro i k hk hi hlt hcb
  rcases Nat.lt_or_ge e k with hek|hke
  · refine ⟨hR.same' hc (by omega) hk (hlt' i hi) fun j hj1 hj2 hw=>?_,fun hh=>by omega⟩
    have h5:=(hcb j (by omega) hw).2 hj2
    have h6:=hwo j i (by omega) hw (by omega)
    rcases h5 with h5|h5
    · have:=h6.1 h5;omega
    · omega
  · have hno:∀j,k≤j->j<e+1->¬Wr cfg ops S j i:=fun j hj1 hj2 hw=>by
     have h5:=hcb j (by omega) hw
     have h7:¬(E j∨j=e):=fun hh=>by have:=h5.1 hh;omega
     by_cases hje:j=e
     · exact h7 (.inr hje)
     · exact h7 (.inl ((hwo j i (by omega) hw hje).2 (by omega)))
    refine ⟨(hR.same' hc (by omega) (by omega) hlt hno).symm,fun _=>⟨?_,fun j hj hw=>?_⟩⟩
    · rcases hx.new i hi with hi|hi
      · exact hi
      · have:=hR.mono' hc hke (by omega);omega
    · have:=hcb j hj hw
      have hne:j≠e:=fun ee=>hno e hke (by omega) (ee▸hw)
      simpa [hne] using this
 refine { sz:=?_,defers:=?_,tmp:=?_,obj:=?_,inj:=?_,orig:=?_,wr:=?_,glob:=?_,root:=?_,mv:=?_ }
 · have:=h.sz
   cases hdst:dstAt ops e<;>simp [Act.put,this]
 · have:=h.defers
   cases hdst:dstAt ops e<;>simp [Act.put,this]
 · refine tmp_step hR hc he hE h.tmp ho hx.sub hx.same ?_ hg fun d hdd=>by rw [h.sz];exact hd d hdd
   exact hv.mono (fun i hi=>⟨hi,hlt' i hi⟩) fun _ _=>rfl
 · intro i k hk hi hlt hcb
   obtain ⟨h5,h6⟩:=key i k hk hi hlt hcb
   have hnew:ObjRel D' m' (m' i) (get C (S k).o i) w'.heap[(m' i).blk]? := by rw [h5];exact hx.inv.obj i hi
   rcases Nat.lt_or_ge e k with hek|hke
   · refine hnew.mono (fun j hj=>⟨hj,?_⟩) fun _ _=>rfl
     have:=hlt' j hj
     have:=hR.mono' hc (k:=e+1) hek hk
     omega
   · obtain ⟨hD,hcb'⟩:=h6 hke
     have hold:=(h.obj i k hk hD hlt hcb').mono (D':=Bel C S D' k) (m':=m') (fun j hj=>⟨hx.sub j hj.1,hj.2⟩) fun j hj=>hx.same j hj.1
     rw [←hx.same i hD] at hold
     exact hold.join hnew
 · intro i j k hk hi hj hli hlj hci hcj hij hl hr
   rw [(key i k hk hi hli hci).1] at hl
   rw [(key j k hk hj hlj hcj).1] at hr
   exact hx.inv.inj i j hi hj hij hl hr
 · intro i hi
   rcases hx.new i hi with hD|hn
   · rcases h.orig i hD with h5|⟨e',h6,h7⟩
     · exact .inl h5
     · exact .inr ⟨e',.inl h6,h7⟩
   · exact .inr ⟨e,.inr rfl,he,hn,hlt' i hi⟩
 · rintro j i (hj|rfl) hjl hw
   · exact hx.sub i (h.wr j i hj hjl hw)
   · exact hx.sub i (hwe i hw)
 · intro g hgl
   obtain ⟨g1,g2,g3⟩:=h.glob g hgl
   exact ⟨hx.sub g g1,by rw [hx.same g g1];exact g2,by rw [hx.same g g1];exact g3⟩
 · intro id hid
   exact ⟨hx.sub id (h.root id hid).1,(h.root id hid).2⟩
 · exact h.mv.ext hx (hR.le hc e (by omega)) (hR.mono' hc (by omega) (by omega))
end
theorem tmpJ_spec {acc:List Nat} {n k t:Nat}:∀{l:List Oper} {i:Nat},tmpJ acc n k t i l=true->∀(d:Nat) (op:Oper),l[d]? = some op->op.dst=some t->i+d≠k->ordB acc n (i+d) k=true
 | [],i,h,d,op,hd,_,_=>by simp at hd
 | o::rest,i,h,d,op,hd,ht,hne=>by
   simp only [tmpJ,Bool.and_eq_true] at h
   cases d with
   | zero=>
     simp only [List.getElem?_cons_zero,Option.some.injEq] at hd
     subst hd
     have h1:=h.1
     simp only [ht,isDst,Bool.or_eq_true,Bool.not_eq_true',beq_iff] at h1
     rcases h1 with (h1|h1)|h1
     · exact absurd h1 (by simp)
     · exact absurd h1 hne
     · exact h1
   | succ d=>
     have:=tmpJ_spec h.2 d op (by simpa using hd) ht (by omega)
     rwa [show i+(d+1)=i+1+d by omega]
theorem tmpK_spec {ops:Array Oper} {acc:List Nat}:∀{l:List Oper} {i:Nat},tmpK ops acc i l=true->∀(d:Nat) (op:Oper),l[d]? = some op->∀t∈tmpsOf ops op,tmpJ acc ops.size (i+d) t 0 ops.toList=true
 | [],i,h,d,op,hd,_,_=>by simp at hd
 | o::rest,i,h,d,op,hd,t,ht=>by
   simp only [tmpK,Bool.and_eq_true,List.all_eq_true] at h
   cases d with
   | zero=>
     simp only [List.getElem?_cons_zero,Option.some.injEq] at hd
     subst hd
     exact h.1 t ht
   | succ d=>
     have:=tmpK_spec h.2 d op (by simpa using hd) t ht
     rwa [show i+(d+1)=i+1+d by omega]
theorem edgeJ_spec {j:Nat}:∀{l:List Edge},edgeJ j l=true->∀e∈l,Region.binds .any e=true->e.on<j
 | [],_,e,he,_=>by cases he
 | x::l,h,e,he,hb=>by
   simp only [edgeJ,Bool.and_eq_true,Bool.or_eq_true,Bool.not_eq_true',natLt_iff] at h
   rcases List.mem_cons.1 he with rfl|he
   · rcases h.1 with h1|h1
     · rw [hb] at h1;cases h1
     · exact h1
   · exact edgeJ_spec h.2 e he hb
theorem edgeK_spec:∀{l:List Oper} {i:Nat},edgeK i l=true->∀(d:Nat) (op:Oper),l[d]? = some op->∀e∈op.after.toList,Region.binds .any e=true->e.on<i+d
 | [],i,h,d,op,hd,_,_,_=>by simp at hd
 | o::rest,i,h,d,op,hd,e,he,hb=>by
   simp only [edgeK,Bool.and_eq_true] at h
   cases d with
   | zero=>
     simp only [List.getElem?_cons_zero,Option.some.injEq] at hd
     subst hd
     exact edgeJ_spec h.1 e he hb
   | succ d=>
     have:=edgeK_spec h.2 d op (by simpa using hd) e he hb
     rwa [show i+(d+1)=i+1+d by omega]
theorem elemN_iff {id:Nat}:∀{l:List Nat},elemN id l=true↔id∈l
 | []=>by simp [elemN]
 | x::l=>by
   simp only [elemN,Bool.or_eq_true,beq_iff,elemN_iff (l:=l),List.mem_cons]
   exact ⟨fun h=>h.imp Eq.symm fun x=>x,fun h=>h.imp Eq.symm fun x=>x⟩
theorem readsNot_spec {j:Nat} {ids:List Nat}:∀{log:List (Nat×Foot)},readsNot j ids log=true->∀id,(j,Foot.reads id)∈log->id∉ids
 | [],_,id,h=>by cases h
 | e::rest,h,id,hm=>by
   simp only [readsNot,Bool.and_eq_true] at h
   rcases List.mem_cons.1 hm with rfl|hm
   · have h1:=h.1
     simp only [Bool.not_eq_true',Bool.and_eq_false_iff] at h1
     rcases h1 with h1|h1
     · simp at h1
     · intro hin;rw [elemN_iff.2 hin] at h1;cases h1
   · exact readsNot_spec h.2 id hm
theorem apartJ_spec {acc:List Nat} {n i:Nat} {log:List (Nat×Foot)} {ids:List Nat}:∀{l:List Oper} {b:Nat},apartJ acc n log i ids b l=true->∀(d:Nat) (op:Oper),l[d]? = some op->i≠b+d->
 isFree (kindOp op.op)=true∨ordB acc n i (b+d)=true∨(isLoad (kindOp op.op)=true/\∀id,(b+d,Foot.reads id)∈log->id∉ids)
 | [],b,h,d,op,hd,_=>by simp at hd
 | o::rest,b,h,d,op,hd,hne=>by
   simp only [apartJ,Bool.and_eq_true] at h
   cases d with
   | zero=>
     simp only [List.getElem?_cons_zero,Option.some.injEq] at hd
     subst hd
     have h1:=h.1
     simp only [Bool.or_eq_true,Bool.and_eq_true,beq_iff] at h1
     rcases h1 with ((h1|h1)|h1)|⟨h1,h2⟩
     · exact absurd h1 hne
     · exact .inl h1
     · exact .inr (.inl h1)
     · exact .inr (.inr ⟨h1,fun id=>readsNot_spec h2 id⟩)
   | succ d=>
     have:=apartJ_spec h.2 d op (by simpa using hd) (by omega)
     rwa [show b+(d+1)=b+1+d by omega]
theorem apartE_spec {ops:Array Oper} {acc:List Nat} {log:List (Nat×Foot)}:∀{l:List (Nat×Foot)},apartE ops acc log l=true->∀i ids,(i,Foot.bar ids)∈l->apartJ acc ops.size log i ids 0 ops.toList=true
 | [],_,i,ids,h=>by cases h
 | e::rest,h,i,ids,hm=>by
   simp only [apartE,Bool.and_eq_true] at h
   rcases List.mem_cons.1 hm with rfl|hm
   · exact h.1
   · exact apartE_spec h.2 i ids hm
structure Checks (cfg:Cfg) (ops:Array Oper) (S:Nat->St):Prop where
 bar:∀e ids,e<ops.size->footAt cfg ops S e=.bar ids->∀j op,ops[j]? = some op->e≠j->
  isFree (kindOp op.op)=true∨ordB (befR ops.toList.reverse) ops.size e j=true∨(isLoad (kindOp op.op)=true/\∀id,footAt cfg ops S j=.reads id->id∉ids)
 tmp:∀k op,ops[k]? = some op->∀t∈tmpsOf ops op,∀j,dstAt ops j=some t->j≠k->ordB (befR ops.toList.reverse) ops.size j k=true
 edge:∀k op,ops[k]? = some op->∀e∈op.after.toList,Region.binds .any e=true->e.on<k
theorem checks_of {cfg:Cfg} {ops:Array Oper} {S:Nat->St} {acc:List Nat} {log:List (Nat×Foot)} (hs:statA ops=some acc) (hl:∀k,k<ops.size->(k,footAt cfg ops S k)∈log) (ha:apartE ops acc log log=true):Checks cfg ops S:=by
 simp only [statA,forceL_eq,ok_some,Bool.and_eq_true,Option.some.injEq] at hs
 obtain ⟨⟨h1,h2⟩,rfl⟩:=hs
 refine ⟨fun e ids he hf j op hop hne=>?_,fun k op hop t ht j hj hne=>?_,fun k op hop e he hb=>?_⟩
 · have hjl:j<ops.size:=(Array.getElem?_eq_some_iff.1 hop).1
   have h3:=apartE_spec ha e ids (by rw [←hf];exact hl e he)
   have h4:=apartJ_spec h3 j op (by simpa using hop) (by simpa using hne)
   rw [Nat.zero_add] at h4
   rcases h4 with h4|h4|⟨h4,h5⟩
   · exact .inl h4
   · exact .inr (.inl h4)
   · exact .inr (.inr ⟨h4,fun id hr=>h5 id (by rw [←hr];exact hl j hjl)⟩)
 · have h3:=tmpK_spec h1 k op (by simpa using hop) t ht
   rw [Nat.zero_add] at h3
   unfold dstAt at hj
   cases hjo:ops[j]? with
   | none=>rw [hjo] at hj;cases hj
   | some oj=>
     rw [hjo] at hj
     have h4:=tmpJ_spec h3 j oj (by simpa using hjo) hj (by simpa using hne)
     rwa [Nat.zero_add] at h4
 · have:=edgeK_spec h2 k op (by simpa using hop) e he hb
   rwa [Nat.zero_add] at this
theorem ordB_iff {ops:Array Oper} {E:Nat->Prop} (hd:∀j,E j->WaitsOK ops E j) {e j:Nat} (hE:¬E e) (hw:WaitsOK ops E e) (hne:j≠e) (h:ordB (befR ops.toList.reverse) ops.size j e=true∨ordB (befR ops.toList.reverse) ops.size e j=true):E j↔j<e:=by
 have hb:(j<e/\bitAt (befR ops.toList.reverse) ops.size j e=true)∨(e<j/\bitAt (befR ops.toList.reverse) ops.size e j=true):=by
  unfold ordB at h
  rcases Nat.lt_or_ge j e with hl|hg
  · rw [ble_iff.2 (Nat.le_of_lt hl),bleF (by omega:¬e≤j),cond_true,cond_false] at h
    exact .inl ⟨hl,h.elim id id⟩
  · rw [ble_iff.2 hg,bleF (by omega:¬j≤e),cond_true,cond_false] at h
    exact .inr ⟨by omega,h.elim id id⟩
 rcases hb with ⟨hl,hb⟩|⟨hl,hb⟩
 · exact ⟨fun _=>hl,fun _=>before_in hd e hw hb⟩
 · exact ⟨fun hj=>absurd (before_in hd j (hd j hj) hb) hE,fun hh=>by omega⟩
theorem namesAt_ok {D:Nat->Prop} {m:Nat->Loc} {args:List AV} (h:okL D m args):∀{ps:List Nat} {i:Nat},i∈namesAt args ps->D i
 | [],i,hi=>by cases hi
 | p::ps,i,hi=>by
   unfold namesAt at hi
   split at hi
   · rename_i id hid
     rcases List.mem_cons.1 hi with rfl|hi
     · simp only [ob_some] at hid
       obtain ⟨v,hv,hn⟩:=hid
       have:=okL_iff.1 h v (List.mem_of_getElem? hv)
       cases v<;>simp only [nameOf,reduceCtorEq,Option.some.injEq] at hn<;>subst hn<;>exact (this _ (by simp [idsA];rfl)).1
     · exact namesAt_ok h hi
   · exact namesAt_ok h hi
theorem nameOf_ok {D:Nat->Prop} {m:Nat->Loc} {v:AV} (h:okV D m v) {i:Nat} (hn:nameOf v=some i):D i:=by
 cases v<;>simp only [nameOf,reduceCtorEq,Option.some.injEq] at hn<;>subst hn<;>exact (h _ (by simp [idsA];rfl)).1
theorem foot_names {cfg:Cfg} {D:Nat->Prop} {m:Nat->Loc} {ρ:Operand->Option AV} {ev:Operand->Value} (hρ:RhoOK D m ρ ev) {op:Op} {i:Nat} (h:i∈footIds (footA cfg ρ op)):D i:=by
 have b1:∀x:Operand,i∈footIds (bar1 (ob (ρ x) nameOf))->D i:=by
  intro x hx
  cases hv:ρ x with
  | none=>rw [hv] at hx;cases hx
  | some v=>
    rw [hv] at hx
    simp only [ob] at hx
    cases hn:nameOf v with
    | none=>rw [hn] at hx;cases hx
    | some id=>
      rw [hn] at hx
      simp only [bar1,footIds,List.mem_singleton] at hx
      subst hx
      exact nameOf_ok (hρ x v hv).2 hn
 cases op<;>simp only [footA,footK,kindOp,footIds] at h<;>first|cases h|exact b1 _ h|skip
 · rename_i t a
   cases hx:ob (ρ a) nameOf<;>rw [hx] at h<;>cases h
 · rename_i c
   cases hcal:c.callee with
   | invoke x n=>rw [hcal] at h;cases h
   | builtin b=>
     rw [hcal] at h
     have:i∈footIds (bar1 (ob c.args.toList[0]? fun x=>ob (ρ x) nameOf))->D i:=by
      intro hh
      cases hx:c.args.toList[0]? with
      | none=>rw [hx] at hh;cases hh
      | some x=>rw [hx] at hh;exact b1 x hh
     cases b<;>first|exact this h|cases h
   | value f=>
     rw [hcal] at h
     simp only [footC] at h
     cases hf:ρ f with
     | none=>rw [hf] at h;cases h
     | some fv=>
       cases hvs:mapAll ρ c.args.toList with
       | none=>rw [hf,hvs] at h;cases h
       | some vs=>
         rw [hf,hvs] at h
         obtain ⟨_,h4⟩:=mapAll_arr hρ hvs
         have h2:=(hρ f _ hf).2
         cases fv<;>simp only [footF,List.not_mem_nil] at h
         rename_i fid first captured
         have hok:okL D m (first++vs++captured):=by
          have:okL D m first/\okL D m captured:=⟨fun i hm=>h2 i (by simp [idsA,hm]),fun i hm=>h2 i (by simp [idsA,hm])⟩
          exact okL_append.2 ⟨okL_append.2 ⟨this.1,h4⟩,this.2⟩
         refine namesAt_ok hok (ps:=cfg.lend fid) ?_
         cases hna:namesAt (first++vs++captured) (cfg.lend fid) with
         | nil=>rw [hna] at h;cases h
         | cons x xs=>rw [hna] at h;exact h
def hotOwn (f:Nat->AObj) (r N:Nat):Own:=⟨N-r,((List.range (N-r)).map fun k=>f (k+r)).reverse,[]⟩
def hotC (cfg:Cfg) (f:Nat->AObj) (N:Nat):Ctx:=⟨[(cfg.root.n,hotOwn f cfg.root.n N),(0,cfg.root)],N⟩
def cold:Own:=⟨0,[],[]⟩
theorem hot_get {cfg:Cfg} {f:Nat->AObj} {N:Nat} {l:List AObj} {id:Nat} (h:id<N):get (hotC cfg f N) (pushes l cold) id=if cfg.root.n≤id then f id else cfg.root.at id:=by
 rw [get,getB]
 simp only [hotC]
 rw [bleF (by omega:¬N≤id)]
 simp only [cond_false,pushes,cold,leAt,getB]
 by_cases hr:cfg.root.n≤id
 · rw [ble_iff.2 hr,if_pos hr,cond_true]
   unfold hotOwn Own.at
   simp only
   rw [List.getD_eq_getElem?_getD,List.getElem?_reverse (by simp;omega)]
   simp only [List.length_map,List.length_range,List.getElem?_map]
   rw [show N-cfg.root.n-1-(N-cfg.root.n-1-(id-cfg.root.n))=id-cfg.root.n by omega,List.getElem?_range (by omega)]
   simp only [Option.map_some,Option.getD_some]
   rw [show id-cfg.root.n+cfg.root.n=id by omega]
 · rw [bleF hr,if_neg hr,cond_false]
   simp only [hotOwn,leAt]
   rw [ble_iff.2 (Nat.zero_le _),cond_true,Nat.sub_zero]
theorem pushes_get {C C':Ctx} {o o':Own} {l:List AObj} {id:Nat} (hn:C'.lo+o'.n=C.lo+o.n) (h1:C.lo+o.n≤id) (h2:id<C.lo+o.n+l.length):get C' (pushes l o') id=get C (pushes l o) id:=by
 have key:∀(C:Ctx) (o:Own),C.lo+o.n≤id->id<C.lo+o.n+l.length->get C (pushes l o) id=l.getD (C.lo+o.n+l.length-1-id) .dead:=by
  intro C o h1 h2
  rw [get,getB,ble_iff.2 (by omega:C.lo≤id),cond_true]
  unfold pushes Own.at
  simp only
  rw [show o.n+l.length-1-(id-C.lo)=C.lo+o.n+l.length-1-id by omega]
  simp only [List.getD_eq_getElem?_getD]
  rw [List.getElem?_append_left (by omega)]
 rw [key C o h1 h2,key C' o' (by omega) (by omega),hn]
theorem wanted_eq' {m:Nat->Loc} {ts:Ts} {a:Act} {ops:Array Oper} {oo:Oper} (h:∀t,guardT ops oo.guard=some t->a.tmps.getD t undef=conc m (ts.get t)):Region.wanted oo (yielded ops a.tmps)=wantedA ops ts oo.guard:=by
 unfold Region.wanted wantedA
 cases hgd:oo.guard with
 | none=>rfl
 | some jw=>
   obtain ⟨j,want⟩:=jw
   simp only [yielded]
   cases hj:ops[j]? with
   | none=>simp
   | some op=>
     cases hd:op.dst with
     | none=>simp [hd,wantedT]
     | some t=>
       have hat:=h t (by simp [hgd,guardT,hj,ob,hd])
       simp only [Option.bind_some,hd,wantedT]
       cases hg:a.tmps[t]? with
       | none=>
         have:a.tmps.getD t undef=undef:=by
          rw [Array.getElem?_eq_none_iff] at hg
          simp only [Array.getD]
          rw [dif_neg (by omega)]
         rw [this] at hat
         cases hv:ts.get t<;>rw [hv] at hat<;>simp [conc,undef] at hat<;>first|rfl|(subst hat;rfl)
       | some v=>
         have:a.tmps.getD t undef=v:=by simp [hg]
         rw [this] at hat
         subst hat
         cases hv:ts.get t with
         | any v=>simp only [conc,isTrue];cases v<;>simp [isTrueV,want_beq]
         | _=>simp [conc,isTrue,want_beq]
theorem load_foot {T:Tab} {cfg:Cfg} {C:Ctx} {o:Own} {ρ:Operand->Option AV} {call:Ctx->FuncId->List AV->Own->Option (AV×Own)} {op:Op} {r:AV×Own} (hk:isLoad (kindOp op)=true) (h:stepA T call rnd0 C ρ o op=some r) :
 ∃id,footA cfg ρ op=.reads id/\∀x∈op.operands.toList,∀v i,ρ x=some v->nameOf v=some i->i=id:=by
 have main:∀t a,op=.load t a->∃id,footA cfg ρ op=.reads id/\∀x∈op.operands.toList,∀v i,ρ x=some v->nameOf v=some i->i=id:=by
  rintro t a rfl
  change opA T C ρ o (.load t a)=some r at h
  simp only [opA,opSel,doLoad] at h
  obtain ⟨h1,_⟩:=keep_some.1 h
  simp only [ob_some] at h1
  obtain ⟨v,hv,h1⟩:=h1
  cases v<;>simp only [loadA,reduceCtorEq] at h1
  rename_i id off
  refine ⟨id,by simp only [footA,hv,ob,nameOf,reads1],fun x hx v i hxv hn=>?_⟩
  simp only [Op.operands,List.mem_singleton] at hx
  subst hx
  rw [hv] at hxv
  cases hxv
  cases hn;rfl
 cases op<;>first|exact main _ _ rfl|(cases hk;done)|skip
 rename_i c
 simp only [kindOp] at hk
 cases hcal:c.callee with
 | value f=>rw [hcal] at hk;cases hk
 | invoke x n=>rw [hcal] at hk;cases hk
 | builtin b=>rw [hcal] at hk;cases b<;>cases hk
section
variable {P:Program} {T:Tab} (hT:TabOK P T) {cfg:Cfg} {call:Ctx->FuncId->List AV->Own->Option (AV×Own)} (hcall:CallOK P cfg True call) (hc:CallFoot cfg call) {C:Ctx} {ops:Array Oper} {S:Nat->St} (hR:Row T cfg call C ops S) (hA:Checks cfg ops S)
 {D0:Nat->Prop} {m0:Nat->Loc} {w0:World} {E D:Nat->Prop} {m:Nat->Loc} {a:Act} {w:World} {e:Nat} (h:DI cfg C ops S D0 m0 w0 E D m a w)
 (hdown:∀j,E j->WaitsOK ops E j) (he:e<ops.size) (hE:¬E e) (hw:WaitsOK ops E e)
include hR hc h he
omit hc in
theorem inv_at (hc:CallFoot cfg call) (hall:∀i,CompB cfg ops S E i e):Inv cfg (Bel C S D e) m C (S e).o w:=by
 have h0:=hR.mono' hc (k:=0) (k':=e) (by omega) (by omega)
 refine ⟨fun i hi=>h.obj i e (by omega) hi.1 hi.2 (hall i),fun i j hi hj hij hl hr=>h.inj i j e (by omega) hi.1 hj.1 hi.2 hj.2 (hall i) (hall j) hij hl hr,fun i hi=>hi.2,fun g hg=>?_,fun i hi=>?_,fun i hi=>?_,hR.lo,hR.len hc e (by omega)⟩
 · obtain ⟨g1,g2,g3⟩:=h.glob g hg
   have:=hR.g0 g hg
   exact ⟨⟨g1,by omega⟩,g2,g3⟩
 · have:=hR.lo
   exact ⟨⟨(h.root i hi).1,by omega⟩,by rw [hR.root hc e (by omega) hi];exact (h.root i hi).2⟩
 · rw [hR.le hc e (by omega)] at hi;exact hR.le0 i hi
open Classical in
noncomputable def hotF (cfg:Cfg) (C:Ctx) (ops:Array Oper) (S:Nat->St) (E:Nat->Prop) (e i:Nat):AObj:=if CompB cfg ops S E i e then get C (S e).o i else .dead
omit hc in
theorem hot_get' (hc:CallFoot cfg call) {l:List AObj} {id:Nat} (hid:id<C.lo+(S e).o.n):get (hotC cfg (hotF cfg C ops S E e) (C.lo+(S e).o.n)) (pushes l cold) id=hotF cfg C ops S E e id:=by
 rw [hot_get hid]
 by_cases hr:cfg.root.n≤id
 · rw [if_pos hr]
 · rw [if_neg hr]
   have hcb:CompB cfg ops S E id e:=fun j hj hw=>absurd hw.2 hr
   unfold hotF
   rw [if_pos hcb,hR.root hc e (by omega) (by omega)]
   exact ((h.root id (by omega)).2).symm
omit hc in
theorem inv_hot (hc:CallFoot cfg call):Inv cfg (Bel C S D e) m (hotC cfg (hotF cfg C ops S E e) (C.lo+(S e).o.n)) cold w:=by
 have h0:=hR.mono' hc (k:=0) (k':=e) (by omega) (by omega)
 have hg:∀i,i<C.lo+(S e).o.n->get (hotC cfg (hotF cfg C ops S E e) (C.lo+(S e).o.n)) cold i=hotF cfg C ops S E e i:=fun i hi=>hot_get' (l:=[]) hR h he hc hi
 have hlo:=hR.lo
 refine ⟨fun i hi=>?_,fun i j hi hj hij hl hr=>?_,fun i hi=>hi.2,fun g hgl=>?_,fun i hi=>?_,fun i hi=>(by cases hi),(by simp only [hotC];omega),rfl⟩
 · rw [hg i hi.2]
   unfold hotF
   split
   · rename_i hcb;exact h.obj i e (by omega) hi.1 hi.2 hcb
   · trivial
 · rw [hg i hi.2] at hl
   rw [hg j hj.2] at hr
   unfold hotF at hl hr
   split at hl
   · rename_i hci
     split at hr
     · rename_i hcj;exact h.inj i j e (by omega) hi.1 hj.1 hi.2 hj.2 hci hcj hij hl hr
     · cases hr
   · cases hl
 · obtain ⟨g1,g2,g3⟩:=h.glob g hgl
   have:=hR.g0 g hgl
   exact ⟨⟨g1,by omega⟩,g2,g3⟩
 · have hin:i<C.lo+(S e).o.n:=by omega
   refine ⟨⟨(h.root i hi).1,hin⟩,?_⟩
   have hh:=hot_get (cfg:=cfg) (f:=hotF cfg C ops S E e) (l:=[]) hin
   rw [if_neg (by omega)] at hh
   exact hh
include hT hcall hA hdown hE hw
open Classical in
theorem draw_step {Q:Exit->Act->World->Prop} {K:Act->World->Prop} (hK:∀D2 m2 a2 w2,DI cfg C ops S D0 m0 w0 (fun j=>E j∨j=e) D2 m2 a2 w2->K a2 w2) {x:Option Nat}:wpOpIn (FR x) 0 P ops Q e K a w:=by
 obtain ⟨op,hop,hstep⟩:=hR.step e he
 have hdst:dstAt ops e=op.dst:=by simp [dstAt,hop]
 have ho:∀j,j<ops.size->∀t,t∈tmpsOf ops op->dstAt ops j=some t->j≠e->(E j↔j<e):=fun j hj t ht hjt hne=>ordB_iff hdown hE hw hne (.inl (hA.tmp e op hop t ht j hjt hne))
 have hod:∀d,dstAt ops e=some d->∀j,j<ops.size->dstAt ops j=some d->j≠e->(E j↔j<e):=fun d hd j hj hjd hne=>ho j hj d (by rw [hdst] at hd;simp [tmpsOf,hd]) hjd hne
 have hct:∀t,t∈tmpsOf ops op->CompT ops E t e:=fun t ht j hj hjt=>by
  by_cases hne:j=e
  · subst hne;exact ⟨fun hh=>absurd hh hE,fun hh=>by omega⟩
  · exact ho j hj t ht hjt hne
 have hwanted:=wanted_eq' (m:=m) (ts:=(S e).ts) (a:=a) (ops:=ops) (oo:=op) fun t ht=>(h.tmp t e (by omega) (hct t (by simp [tmpsOf,ht]))).1
 unfold wpOpIn
 simp only [hop]
 rw [hwanted]
 rcases hstep with ⟨hwt,r,hr,hp,hbnd⟩|⟨hwt,hp⟩
 · rw [hwt,if_pos rfl]
   obtain ⟨htn,hro,hdd⟩:=putA_tn hp
   have hd:∀d,dstAt ops e=some d->d<(S 0).tn:=fun d hd=>by rw [←hR.tn e (by omega)];exact hdd d (by rw [←hdst];exact hd)
   have hg:∀d,dstAt ops e=some d->(S (e+1)).ts.get d=r.1:=fun d hd=>by rw [putA_get hp,if_pos (by rw [←hdst];exact hd)]
   have hfoot:footAt cfg ops S e=footA cfg (evalA cfg.G (S e).ts) op.op:=by simp only [footAt,hop,hwt,cond_true]
   let ρ:Operand->Option AV:=fun x=>if x∈op.op.operands.toList then evalA cfg.G (S e).ts x else none
   have hρe:∀x∈op.op.operands.toList,evalA cfg.G (S e).ts x=ρ x:=fun x hx=>(if_pos hx).symm
   have hρ:RhoOK (Bel C S D e) m ρ a.eval:=by
    intro x v hx
    have hxo:x∈op.op.operands.toList:=Classical.byContradiction fun hn=>by simp only [ρ,if_neg hn] at hx;cases hx
    simp only [ρ,if_pos hxo] at hx
    have h0:=hR.mono' hc (k:=0) (k':=e) (by omega) (by omega)
    cases x with
    | tmp t=>
      cases hx
      exact h.tmp t e (by omega) (hct t (by simp only [tmpsOf,List.mem_append,List.mem_filterMap];exact .inr ⟨_,hxo,rfl⟩))
    | const c=>obtain ⟨h1,h2⟩:=absV_conc (m:=m) hx;exact ⟨h1.symm,okV_none h2⟩
    | global g=>
      simp only [evalA,ok_some,Option.some.injEq,natLt_iff] at hx
      obtain ⟨hgl,rfl⟩:=hx
      obtain ⟨a1,a2,a3⟩:=h.glob g hgl
      refine ⟨by simp [Act.eval,conc,a2,a3],fun i hi=>?_⟩
      simp only [idsA,List.mem_singleton] at hi
      subst hi
      have:=hR.g0 g hgl
      exact ⟨⟨a1,by omega⟩,Nat.zero_le _⟩
    | func f=>cases hx;exact ⟨by simp [Act.eval,conc,concL],fun i hi=>by simp [idsA,idsL] at hi⟩
   rw [stepA_congr hρe] at hr
   rw [footA_congr hρe] at hfoot
   have hbarall:∀j i,j<ops.size->Wr cfg ops S j i->j≠e->isFree (kindOp op.op)=false->isLoad (kindOp op.op)=false->(E j↔j<e):=by
    intro j i hj hwr hne hnf hnl
    have:∃ids,footAt cfg ops S j=.bar ids:=by
     have:=hwr.1
     cases hf:footAt cfg ops S j with
     | bar ids=>exact ⟨ids,rfl⟩
     | none=>rw [hf] at this;cases this
     | reads id=>rw [hf] at this;cases this
    obtain ⟨ids,hids⟩:=this
    rcases hA.bar j ids hj hids e op hop hne with h1|h1|⟨h1,_⟩
    · rw [hnf] at h1;cases h1
    · exact ordB_iff hdown hE hw hne (.inl h1)
    · rw [hnl] at h1;cases h1
   have hself:∀i,CompB cfg ops S E i e∨True:=fun _=>.inr trivial
   by_cases hq:quietK (kindOp op.op)=true
   ·
    have hfe:footIds (footAt cfg ops S e)=[]:=by rw [hfoot];exact foot_quiet hq
    have hnw:∀i,¬Wr cfg ops S e i:=fun i hwr=>by have:=hwr.1;rw [hfe] at this;cases this
    have hi:=inv_hot hR h he hc
    have hsame:=stepA_same (C':=hotC cfg (hotF cfg C ops S E e) (C.lo+(S e).o.n)) (o':=cold) (call':=call) hq hr (by simp [hotC,cold]) fun hrd x hx v id hxv hn=>by
     have hb:id<C.lo+(S e).o.n:=(nameOf_ok (hρ x v hxv).2 hn).2
     have hcb:CompB cfg ops S E id e:=fun j hj hwr=>by
      by_cases hne:j=e
      · subst hne;exact absurd hwr (hnw id)
      · by_cases hld:isLoad (kindOp op.op)=true
        · obtain ⟨rid,hrid,hrall⟩:=load_foot (cfg:=cfg) hld hr
          have hide:=hrall x hx v id hxv hn
          have hf':footAt cfg ops S e=.reads rid:=by rw [hfoot];exact hrid
          have:∃ids,footAt cfg ops S j=.bar ids:=by
           have:=hwr.1
           cases hf:footAt cfg ops S j with
           | bar ids=>exact ⟨ids,rfl⟩
           | none=>rw [hf] at this;cases this
           | reads id=>rw [hf] at this;cases this
          obtain ⟨ids,hids⟩:=this
          rcases hA.bar j ids hj hids e op hop hne with h1|h1|⟨_,h1⟩
          · rw [foot_free h1] at hrid;cases hrid
          · exact ordB_iff hdown hE hw hne (.inl h1)
          · have:=h1 rid hf'
            have h2:=hwr.1
            rw [hids,hide] at h2
            exact absurd h2 this
        · refine hbarall j id hj hwr hne ?_ (by simpa using hld)
          cases hkk:kindOp op.op<;>rw [hkk] at hrd<;>first|rfl|cases hrd
     refine (hot_get' (l:=[]) hR h he hc hb).trans ?_
     unfold hotF
     rw [if_pos hcb]
    obtain ⟨l,hl,hr'⟩:=hsame
    have hon:(S (e+1)).o=pushes l (S e).o:=by rw [hro,hl]
    refine step_ok (r:=(r.1,pushes l cold)) hT hi hρ hcall rnd0_ok hr' fun D' m' w' hv hx _=>?_
    have hlt:∀i,D' i->i<C.lo+(S (e+1)).o.n:=fun i hi'=>by
     have:=hx.inv.lt i hi'
     rw [hon]
     simp only [hotC,pushes,cold] at this ⊢
     omega
    have hnew:∀i,D' i->Bel C S D e i∨C.lo+(S e).o.n≤i:=fun i hi'=>by
     have:=hx.new i hi'
     simpa [hotC,cold] using this
    have hnown:∀i,Bel C S D e i->(own? (hotC cfg (hotF cfg C ops S E e) (C.lo+(S e).o.n)) cold i).isSome=true->False:=fun i hi' hs=>by
     unfold own? at hs
     simp only [hotC] at hs
     rw [bleF (by have:=hi'.2;omega)] at hs
     simp [cold,leAt] at hs
    have hgn:∀i,D' i->¬Bel C S D e i->get (hotC cfg (hotF cfg C ops S E e) (C.lo+(S e).o.n)) (pushes l cold) i=get C (S (e+1)).o i:=fun i hi' hn=>by
     rw [hon]
     refine pushes_get (by simp [hotC,cold]) ((hnew i hi').resolve_left hn) ?_
     have:=hlt i hi'
     rw [hon] at this
     simp only [pushes] at this
     omega
    obtain ⟨D2,m2,hcv,hdi⟩:=DI.mute hR hc h he hE hnw hod hd hx.sub hx.same hnew hlt hv hg hx.os hx.tape hx.output hx.size
     ⟨fun k hk=>hx.frame k hk fun i hi' hs=>(hnown i hi' hs).elim,fun i hi' hn=>(hx.fresh i hi' hn).resolve_right fun ⟨j,hj,hs,_⟩=>hnown j hj hs⟩
     (fun i hi' hn=>by rw [←hgn i hi' hn];exact hx.inv.obj i hi')
     (fun i j hi' hj' hni hnj hij hl' hr''=>by rw [←hgn i hi' hni] at hl';rw [←hgn j hj' hnj] at hr'';exact hx.inv.inj i j hi' hj' hij hl' hr'')
    rw [hcv,hdst] at hdi
    exact hK D2 m2 _ _ hdi
   · have hq':quietK (kindOp op.op)=false:=by simpa using hq
     have hnf:isFree (kindOp op.op)=false:=by cases hk:kindOp op.op<;>rw [hk] at hq'<;>first|rfl|cases hq'
     have hnl:isLoad (kindOp op.op)=false:=by cases hk:kindOp op.op<;>rw [hk] at hq'<;>first|rfl|cases hq'
     have hall:∀i,CompB cfg ops S E i e:=fun i j hj hwr=>by
      by_cases hne:j=e
      · subst hne;exact ⟨fun hh=>absurd hh hE,fun hh=>by omega⟩
      · exact hbarall j i hj hwr hne hnf hnl
     have hi:=inv_at hR h he hc hall
     cases hf:footAt cfg ops S e with
     | bar ids=>
       have hbd:∀i,D i->i<C.lo+(S e).o.n:=fun i hi'=>by
        rcases h.orig i hi' with h5|⟨e',he',hl',h6,h7⟩
        · have:=hR.mono' hc (k:=0) (k':=e) (by omega) (by omega);omega
        · rcases Nat.lt_trichotomy e' e with hlt|heq|hgt
          · have:=hR.mono' hc (k:=e'+1) (k':=e) (by omega) (by omega);omega
          · exact absurd (heq▸he') hE
          · obtain ⟨op',hop',hst'⟩:=hR.step e' hl'
            have hkeep:(isFree (kindOp op'.op)=true∨isLoad (kindOp op'.op)=true)->False:=fun hk=>by
             have:(S (e'+1)).o=(S e').o:=by
              rcases hst' with ⟨_,r',hr',hp',_⟩|⟨_,hp'⟩
              · rw [(putA_tn hp').2.1,stepA_keep hk hr']
              · rw [(putA_tn hp').2.1]
             rw [this] at h7;omega
            rcases hA.bar e ids he hf e' op' hop' (by omega) with h1|h1|⟨h1,_⟩
            · exact (hkeep (.inl h1)).elim
            · have:=(ordB_iff hdown hE hw (j:=e') (by omega) (.inr h1)).1 he';omega
            · exact (hkeep (.inr h1)).elim
       have hBD:Bel C S D e=D:=funext fun i=>propext ⟨And.left,fun hh=>⟨hh,hbd i hh⟩⟩
       rw [hBD] at hi hρ
       refine step_ok hT hi hρ hcall rnd0_ok hr fun D' m' w' hv hx _=>?_
       rw [←hro] at hx
       have:=DI.bar hR hc h he hE hod hd hbd (fun j i hj hwr hne=>hbarall j i hj hwr hne hnf hnl) (fun i hwr=>foot_names hρ (by have:=hwr.1;rw [hfoot] at this;exact this)) hv hg hx
       rw [hdst] at this
       exact hK D' m' _ _ this
     | none=>
       have hkc:kindOp op.op=.call:=Classical.byContradiction fun hk=>by
        obtain ⟨ids,hids⟩:=foot_bar (cfg:=cfg) (ρ:=ρ) hq' hk
        rw [hfoot,hids] at hf;cases hf
       have hfe:footIds (footA cfg ρ op.op)=[]:=by rw [←hfoot,hf];rfl
       have hnw:∀i,¬Wr cfg ops S e i:=fun i hwr=>by have:=hwr.1;rw [hf] at this;cases this
       refine step_ok hT hi hρ hcall rnd0_ok hr fun D' m' w' hv hx hmu=>?_
       rw [←hro] at hx
       obtain ⟨D2,m2,hcv,hdi⟩:=DI.mute hR hc h he hE hnw hod hd hx.sub hx.same hx.new hx.inv.lt hv hg hx.os hx.tape hx.output hx.size (hmu trivial hkc hfe)
        (fun i hi' _=>hx.inv.obj i hi') (fun i j hi' hj' _ _ hij hl' hr''=>hx.inv.inj i j hi' hj' hij hl' hr'')
       rw [hcv,hdst] at hdi
       exact hK D2 m2 _ _ hdi
     | reads id=>
       have hkc:kindOp op.op=.call:=Classical.byContradiction fun hk=>by
        obtain ⟨ids,hids⟩:=foot_bar (cfg:=cfg) (ρ:=ρ) hq' hk
        rw [hfoot,hids] at hf;cases hf
       have hfe:footIds (footA cfg ρ op.op)=[]:=by rw [←hfoot,hf];rfl
       have hnw:∀i,¬Wr cfg ops S e i:=fun i hwr=>by have:=hwr.1;rw [hf] at this;cases this
       refine step_ok hT hi hρ hcall rnd0_ok hr fun D' m' w' hv hx hmu=>?_
       rw [←hro] at hx
       obtain ⟨D2,m2,hcv,hdi⟩:=DI.mute hR hc h he hE hnw hod hd hx.sub hx.same hx.new hx.inv.lt hv hg hx.os hx.tape hx.output hx.size (hmu trivial hkc hfe)
        (fun i hi' _=>hx.inv.obj i hi') (fun i j hi' hj' _ _ hij hl' hr''=>hx.inv.inj i j hi' hj' hij hl' hr'')
       rw [hcv,hdst] at hdi
       exact hK D2 m2 _ _ hdi
 · rw [hwt,if_neg (by simp)]
   refine ⟨fun _ _=>trivial,?_⟩
   obtain ⟨htn,hro,hdd⟩:=putA_tn hp
   have hd:∀d,dstAt ops e=some d->d<(S 0).tn:=fun d hd=>by rw [←hR.tn e (by omega)];exact hdd d (by rw [←hdst];exact hd)
   have hg:∀d,dstAt ops e=some d->(S (e+1)).ts.get d=undefA:=fun d hd=>by rw [putA_get hp,if_pos (by rw [←hdst];exact hd)]
   have hf:footAt cfg ops S e=.none:=by simp only [footAt,hop,hwt,cond_false]
   have hnw:∀i,¬Wr cfg ops S e i:=fun i hwr=>by have:=hwr.1;rw [hf] at this;cases this
   obtain ⟨D2,m2,hcv,hdi⟩:=DI.mute (D':=Bel C S D e) (m':=m) (w':=w) (v:=undefA) hR hc h he hE hnw hod hd (fun _ hi=>hi) (fun _ _=>rfl) (fun _ hi=>.inl hi) (fun i hi=>by rw [hro];exact hi.2) okV_undef hg rfl rfl rfl (Nat.le_refl _)
    ⟨fun _ _=>rfl,fun i hi hn=>absurd hi hn⟩ (fun i hi hn=>absurd hi hn) (fun i j hi _ hn=>absurd hi hn)
   rw [hcv,hdst,conc_undef] at hdi
   exact hK D2 m2 _ _ hdi
end
end Go.Ev
