import Derived.Laws.StructEq
import Derived.Laws.CopyRow
import Derived.Laws.Slices
import Derived.Test.YtafekjglclnegaaGreatDoorP04
set_option linter.all false
namespace Go.Ev
open Go Go.RowKit
theorem sameK_iff {a b:IntKind}:sameK a b=true↔a=b:=by
 rw [sameK,beq_iff]
 cases a<;>cases b<;>simp [ctorK]
theorem intLe_iff {a b:Int}:intLe a b=true↔a≤b:=by
 cases a<;>cases b<;>simp only [intLe]
 · rw [ble_iff];exact Int.ofNat_le.symm
 · simp only [Bool.false_eq_true,false_iff,Int.negSucc_eq,Int.ofNat_eq_natCast];omega
 · simp only [true_iff,Int.negSucc_eq,Int.ofNat_eq_natCast];omega
 · simp only [ble_iff,Int.negSucc_eq];omega
theorem intEq_iff {a b:Int}:intEq a b=true↔a=b:=by
 cases a<;>cases b<;>simp only [intEq]
 · rw [beq_iff];exact Int.ofNat_inj.symm
 · simp
 · simp
 · rw [beq_iff];exact Int.negSucc_inj.symm
theorem intEq_beq (a b:Int):intEq a b=(a==b):=by
 rw [Bool.eq_iff_iff,intEq_iff,beq_iff_eq]
theorem intLe_dec (a b:Int):intLe a b=decide (a≤b):=by
 rw [Bool.eq_iff_iff,intLe_iff,decide_eq_true_iff]
theorem outI_eq (k:IntKind) (n:Int):outI k n=.int k n:=by
 cases n with
 | ofNat n=>cases n<;>rfl
 | negSucc n=>cases n<;>rfl
theorem goInt_eq (n:Nat):goInt n=.int .i64 n:=by cases n<;>rfl
theorem outN_eq (k:IntKind) (n:Nat):outN k .ofNat n=.int k n:=by cases n<;>rfl
theorem wrap_id (k:IntKind) (n:Int) (h1:loK k≤n) (h2:n≤hiK k):k.wrap n=n:=by
 cases k<;>simp only [loK,hiK] at h1 h2<;>simp [IntKind.wrap,IntKind.bits,IntKind.signed]<;>omega
theorem wrapA_eq (k:IntKind) (n:Int):wrapA k n=k.wrap n:=by
 unfold wrapA
 cases h:intLe (loK k) n&&intLe n (hiK k) with
 | true=>
   rw [Bool.and_eq_true,intLe_iff,intLe_iff] at h
   exact (wrap_id k n h.1 h.2).symm
 | false=>rfl
theorem mkInt_eq (k:IntKind) (n:Int):mkInt k n=some (.int k (k.wrap n)):=by rw [mkInt,outI_eq,wrapA_eq]
theorem okV_int {D:Nat->Prop} {m:Nat->Loc} {k:IntKind} {n:Int}:okV D m (.int k n):=fun i hi=>by simp [idsA] at hi
theorem okV_bool {D:Nat->Prop} {m:Nat->Loc} {b:Bool}:okV D m (.bool b):=fun i hi=>by simp [idsA] at hi
theorem boolEq_beq (a b:Bool):boolEq a b=(a==b):=by cases a<;>cases b<;>rfl
theorem bytesEq_beq:∀a b:List UInt8,bytesEq a b=(a==b)
 | [],[]=>rfl
 | [],_::_=>rfl
 | _::_,[]=>rfl
 | a::x,b::y=>by
   rw [bytesEq,bytesEq_beq x y,List.cons_beq_cons]
   congr 1
   rw [Bool.eq_iff_iff,beq_iff,beq_iff_eq]
   exact UInt8.toNat_inj
theorem bytesLt_eq:∀a b:List UInt8,bytesLt a b=Op.bytesLess a b
 | [],[]=>rfl
 | [],_::_=>rfl
 | _::_,[]=>rfl
 | a::x,b::y=>by
   rw [bytesLt,bytesLt_eq x y,Op.bytesLess]
   have e1:natLt a.toNat b.toNat=decide (a<b):=by rw [Bool.eq_iff_iff,natLt_iff,decide_eq_true_iff];exact Iff.rfl
   have e2:Nat.beq a.toNat b.toNat=(a==b):=by rw [Bool.eq_iff_iff,beq_iff,beq_iff_eq];exact UInt8.toNat_inj
   rw [e1,e2]
theorem toList_mk' (s:List UInt8):(ByteArray.mk ⟨s⟩).toList=s:=ByteArray.toList_mk s
section
variable {P:Program} {T:Tab} (hT:TabOK P T)
include hT
theorem run_eqFieldsA {n:Nat} {m:Nat->Loc} (cmp:TypeId->AV->AV->Option Bool) (hc:∀t x y b,cmp t x y=some b->∀w,(Op.equalIn n t (conc m x) (conc m y)).run P w=.ok b w) (xs ys:List AV) :
 ∀(fs:List Field) (b:Bool),eqFieldsA T cmp xs ys fs=some b->∀w,(Op.eqFields n (concL m xs).toArray (concL m ys).toArray fs).run P w=.ok b w
 | [],b,h,w=>by cases h;simp [Op.eqFields]
 | f::fs,b,h,w=>by
   simp only [eqFieldsA,ok_some,ob_some,Bool.not_eq_true'] at h
   obtain ⟨h1,x,hx,y,hy,r,hr,h⟩:=h
   have hne:f.name ≠ "_" := by simpa using h1
   simp only [Op.eqFields,if_pos hne,Sem.run_bind,run_partA hT hx w,run_partA hT hy w,Result.andThen_ok,hc _ _ _ _ hr w]
   cases r with
   | true=>
     simp only [cond_true] at h
     simpa using run_eqFieldsA cmp hc xs ys fs b h w
   | false=>
     simp only [cond_false,Option.some.injEq] at h
     subst h
     simp
theorem run_eqElemsA {n sz:Nat} {m:Nat->Loc} (elem:TypeId) (cmp:AV->AV->Option Bool) (hc:∀x y b,cmp x y=some b->∀w,(Op.equalIn n elem (conc m x) (conc m y)).run P w=.ok b w) (xs ys:List AV) :
 ∀(len i:Nat) (b:Bool),eqElemsA T cmp elem sz xs ys i len=some b->∀w,
  (forIn (List.range' i len) ((none,()):Option Bool×PUnit) (fun j _=>do
    let a ←part elem (concL m xs).toArray (j*sz)
    let c ←part elem (concL m ys).toArray (j*sz)
    let r ←Op.equalIn n elem a c
    if (!r)=true then pure (ForInStep.done (some false,())) else pure (ForInStep.yield (none,())):Nat->Option Bool×PUnit->Sem (ForInStep (Option Bool×PUnit)))).run P w =
  .ok (if b then none else some false,()) w
 | 0,i,b,h,w=>by cases h;simp
 | len+1,i,b,h,w=>by
   simp only [eqElemsA,ob_some] at h
   obtain ⟨x,hx,y,hy,r,hr,h⟩:=h
   simp only [List.range'_succ,List.forIn_cons,Sem.run_bind,run_partA hT hx w,run_partA hT hy w,Result.andThen_ok,hc _ _ _ hr w]
   cases r with
   | true=>
     simp only [cond_true] at h
     simpa using run_eqElemsA elem cmp hc xs ys len (i+1) b h w
   | false=>
     simp only [cond_false,Option.some.injEq] at h
     subst h
     simp
theorem run_eqArray {n len sz:Nat} {t elem:TypeId} {m:Nat->Loc} (ht:T.und t=some (.array len elem)) (hs:szOf T elem=some sz) (cmp:AV->AV->Option Bool) (hc:∀x y b,cmp x y=some b->∀w,(Op.equalIn n elem (conc m x) (conc m y)).run P w=.ok b w)
 (xs ys:List AV) (b:Bool) (h:eqElemsA T cmp elem sz xs ys 0 len=some b) (w:World):(Op.equalIn (n+1) t (.agg (concL m xs).toArray) (.agg (concL m ys).toArray)).run P w=.ok b w:=by
 simp only [Op.equalIn,Sem.run_bind,run_und hT ht w,Result.andThen_ok,run_sz hT hs w]
 have:=run_eqElemsA hT elem cmp hc xs ys len 0 b h w
 rw [Std.Legacy.Range.forIn_eq_forIn_range']
 simp only [Std.Legacy.Range.size,Nat.sub_zero,Nat.add_sub_cancel,Nat.div_one]
 rw [this]
 cases b<;>simp
theorem run_eqStruct {n:Nat} {t:TypeId} {fs:Array Field} {m:Nat->Loc} (ht:T.und t=some (.struct fs)) (hs:P.stoodInHeld t=false) (cmp:TypeId->AV->AV->Option Bool) (hc:∀t x y b,cmp t x y=some b->∀w,(Op.equalIn n t (conc m x) (conc m y)).run P w=.ok b w)
 (xs ys:List AV) (b:Bool) (h:eqFieldsA T cmp xs ys fs.toList=some b) (w:World):(Op.equalIn (n+1) t (.agg (concL m xs).toArray) (.agg (concL m ys).toArray)).run P w=.ok b w:=by
 have hu:=und_some hT ht
 have hf:P.fieldsOf t=fs:=by simp [Program.fieldsOf,hu]
 rw [run_equalIn_struct w n t _ _ (by rw [hf];exact hu) hs,hf]
 exact run_eqFieldsA hT cmp hc xs ys fs.toList b h w
theorem run_eqNil {n:Nat} {t:TypeId} {x y:AV} {b:Bool} {m:Nat->Loc} (h:eqNil (T.und t) x y=some b) (w:World):(Op.equalIn (n+1) t (conc m x) (conc m y)).run P w=.ok b w:=by
 simp only [eqNil,ok_some,Option.some.injEq,Bool.and_eq_true,beq_iff] at h
 obtain ⟨⟨⟨h1,h2⟩,h3⟩,rfl⟩:=h
 cases hd:T.und t with
 | none=>rw [hd] at h1 h2;cases x<;>simp [kindA,kindD] at h1
 | some d=>
   rw [hd] at h1 h2
   have hr:=run_und hT hd w
   cases d<;>simp only [kindD] at h1 h2<;>cases x<;>simp only [kindA] at h1<;>(first|(exfalso;revert h1;decide)|skip)<;>
    cases y<;>simp only [kindA] at h2<;>(first|(exfalso;revert h2;decide)|skip)<;>(first|(simp [isNilA] at h3;done)|simp [Op.equalIn,hr,conc,isNilA])
theorem run_eqH {n:Nat} {m:Nat->Loc} (cmp:TypeId->AV->AV->Option Bool) (hc:∀t x y b,cmp t x y=some b->∀w,(Op.equalIn n t (conc m x) (conc m y)).run P w=.ok b w) (t:TypeId) (x y:AV) (b:Bool)
 (h:eqH T cmp t x y=some b) (w:World):(Op.equalIn (n+1) t (conc m x) (conc m y)).run P w=.ok b w:=by
 cases x with
 | bool a=>
   cases y<;>simp only [eqH,eqBoolA,ok_some,Option.some.injEq,reduceCtorEq] at h
   obtain ⟨h1,rfl⟩:=h
   cases hd:T.und t with
   | none=>simp [hd,boolD] at h1
   | some d=>cases d<;>simp [hd,boolD] at h1;simp [Op.equalIn,run_und hT hd w,conc,boolEq_beq]
 | int k a=>
   cases y<;>simp only [eqH,eqIntA,ok_some,Option.some.injEq,reduceCtorEq,Bool.and_eq_true,sameK_iff] at h
   obtain ⟨⟨h1,rfl⟩,rfl⟩:=h
   cases hd:T.und t with
   | none=>simp [intT,hd,intD] at h1
   | some d=>cases d<;>simp [intT,hd,intD] at h1;simp [Op.equalIn,run_und hT hd w,conc,intEq_beq]
 | str a=>
   cases y<;>simp only [eqH,eqStrA,ok_some,Option.some.injEq,reduceCtorEq] at h
   obtain ⟨h1,rfl⟩:=h
   cases hd:T.und t with
   | none=>simp [strT,hd,strD] at h1
   | some d=>
     cases d<;>simp [strT,hd,strD] at h1
     simp only [Op.equalIn,Sem.run_bind,run_und hT hd w,conc,bytesEq_beq,Result.andThen_ok,beq_toListBytes,toList_mk',Sem.run_pure]
 | agg xs=>
   cases y<;>simp only [eqH,eqAggA,reduceCtorEq] at h
   rename_i ys
   cases hd:T.und t with
   | none=>simp [hd,eqAggD] at h
   | some d=>
     cases d<;>simp only [hd,eqAggD,reduceCtorEq,ob_some] at h
     · obtain ⟨sz,hs,h⟩:=h
       simp only [conc]
       exact run_eqArray hT hd hs _ (fun x y b h w=>hc _ x y b h w) xs ys b h w
     · rename_i fields
       obtain ⟨e,he,h⟩:=h
       simp only [ok_some,Bool.not_eq_true'] at h
       have hst:=(hT.ty t e he).2.2.2
       have heu:e.u=.struct fields:=by
        have:=hd
        simp only [Tab.und,he,ob,Option.some.injEq] at this
        exact this
       simp only [conc]
       exact run_eqStruct hT hd (by rw [hst (by rw [heu];rfl)];exact h.1) cmp hc xs ys b h.2 w
 | iface a u=>
   cases y with
   | iface c v=>
     simp only [eqH,eqIfaceA,ok_some] at h
     obtain ⟨h1,h⟩:=h
     cases hd:T.und t with
     | none=>simp [hd,ifaceD] at h1
     | some d=>
       cases d<;>simp [hd,ifaceD] at h1
       by_cases e:a=c
       · subst e
         rw [beqT rfl,cond_true] at h
         simp only [ob_some,ok_some] at h
         obtain ⟨i,hi,hcm,h⟩:=h
         simp [Op.equalIn,run_und hT hd w,conc,run_inf hT hi w,hcm,hc _ _ _ _ h w]
       · rw [beqF e,cond_false,Option.some.injEq] at h
         subst h
         simp [Op.equalIn,run_und hT hd w,conc,e]
   | _=>exact run_eqNil hT (by simpa only [eqH,eqIfaceA] using h) w
 | _=>exact run_eqNil hT (by simpa only [eqH] using h) w
theorem run_eqA {m:Nat->Loc}:∀(d:Nat) (t:TypeId) (x y:AV) (b:Bool),eqA T d t x y=some b->∀n,d≤n->∀w,(Op.equalIn n t (conc m x) (conc m y)).run P w=.ok b w
 | 0,_,_,_,_,h,_,_,_=>by cases h
 | d+1,t,x,y,b,h,n,hn,w=>by
   obtain ⟨n,rfl⟩:∃k,n=k+1:=⟨n-1,by omega⟩
   exact run_eqH hT (eqA T d) (fun t x y b h w=>run_eqA d t x y b h n (by omega) w) t x y b h w
end
section
variable {P:Program} {T:Tab} (hT:TabOK P T)
theorem ltd (a b:Int):decide (a<b)=!decide (b≤a):=by rw [←decide_not,decide_eq_decide];omega
theorem run_binI {op:BinOp} {t:TypeId} {k:IntKind} {a:Int} {y v:AV} {m:Nat->Loc} (h:binI op k a y=some v) (w:World) :
 (binOp op t (.int k a) (conc m y)).run P w=.ok (conc m v) w/\idsA v=[]:=by
 cases y<;>simp only [binI,reduceCtorEq] at h
 rename_i k' b
 cases hs:isShift op with
 | true=>
   simp only [hs,cond_true,shiftA,ok_some,intLe_iff] at h
   obtain ⟨h0,h⟩:=h
   have hb:¬b<0:=by omega
   cases op<;>simp [isShift] at hs
   · simp only [mkInt_eq,Option.some.injEq] at h
     subst h
     simp [conc,binOp,Op.shift,hb,shiftN,idsA]
   · simp only [outI_eq,Option.some.injEq] at h
     subst h
     simp [conc,binOp,Op.shift,hb,shiftN,idsA]
 | false=>
   simp only [hs,cond_false,ok_some,sameK_iff] at h
   obtain ⟨rfl,h⟩:=h
   cases op<;>simp [isShift] at hs
   all_goals simp only [binSel,bAdd,bSub,bMul,bQuo,bRem,bAnd,bOr,bXor,bAndNot,bEql,bNeq,bLss,bLeq,bGtr,bGeq,bNone,mkInt_eq,outI_eq,ok_some,Option.some.injEq,Bool.not_eq_true',intEq_beq,intLe_dec,reduceCtorEq] at h
   all_goals first
    | (obtain ⟨h0,h⟩:=h;subst h;have h0':¬b=0:=by simpa using h0
       simp [conc,binOp,Op.intDiv,h0',idsA];done)
    | (subst h;simp [conc,binOp,Op.intArith,Op.intBits,Op.intCmp,idsA];done)
    | (subst h;simp [conc,binOp,Op.intArith,Op.intBits,Op.intCmp,idsA];rfl)
    | (subst h;simp [conc,binOp,Op.intCmp,idsA];exact ltd _ _)
theorem run_binS {op:BinOp} {t:TypeId} {a:List UInt8} {y v:AV} {m:Nat->Loc} (h:binS op a y=some v) (w:World) :
 (binOp op t (.string ⟨⟨a⟩⟩) (conc m y)).run P w=.ok (conc m v) w/\idsA v=[]:=by
 cases y<;>simp only [binS,reduceCtorEq] at h
 rename_i b
 cases op<;>simp only [cmpA,ok_some,Option.some.injEq,reduceCtorEq,ble_iff] at h
 case add=>
  obtain ⟨hl,rfl⟩:=h
  have hn:¬(((ByteArray.mk ⟨a⟩).size+(ByteArray.mk ⟨b⟩).size:Nat):Int) > IntKind.i64.max:=by
   simp only [ByteArray.size,List.size_toArray,IntKind.max,IntKind.bits,IntKind.signed,if_true];omega
  refine ⟨?_,by simp [idsA]⟩
  simp only [conc,binOp,Op.stringOp]
  rw [if_neg hn]
  have:(ByteArray.mk ⟨a⟩)++(ByteArray.mk ⟨b⟩)=ByteArray.mk ⟨a++b⟩:=by
   apply ByteArray.ext
   rw [ByteArray.data_append]
   simp
  simp [this]
 all_goals
  subst h
  refine ⟨?_,by simp [idsA]⟩
  simp only [conc,binOp,Op.stringOp,toList_mk',bytesEq_beq,bytesLt_eq]
  simp
theorem guard_any {T:Tab} {t:TypeId} {xo yo:Operand} {x y:AV} (h:guardA T t xo yo x y=true):notAny x=true/\notAny y=true:=by
 unfold guardA at h
 rw [Bool.and_eq_true,Bool.and_eq_true] at h
 exact ⟨h.1,h.2.1⟩
def byType:AV->Bool
 | .int _ _|.str _|.any _=>false
 | _=>true
theorem binOp_eqlA {t:TypeId} {x y:AV} {m:Nat->Loc} (h:byType x=true) (hy:notAny y=true):binOp .eql t (conc m x) (conc m y)=(do pure (.bool (←Op.equal t (conc m x) (conc m y)))):=by
 cases x<;>simp [byType] at h<;>cases y<;>first|rfl|cases hy
theorem binOp_neqA {t:TypeId} {x y:AV} {m:Nat->Loc} (h:byType x=true) (hy:notAny y=true):binOp .neq t (conc m x) (conc m y)=(do pure (.bool (!(←Op.equal t (conc m x) (conc m y))))):=by
 cases x<;>simp [byType] at h<;>cases y<;>first|rfl|cases hy
theorem guard_other {op:BinOp} {t:TypeId} {xo yo:Operand} {X Y:Value} (h1:¬(X=.nilIface/\Y=.nilIface)) (h2:¬(∃a b,X=.agg a/\Y=.agg b)) (w:World):(eqGuard op t xo yo X Y).run P w=.ok () w:=by
 unfold eqGuard
 cases X<;>cases Y<;>first|(exact absurd ⟨rfl,rfl⟩ h1)|(exact absurd ⟨_,_,rfl,rfl⟩ h2)|(cases op<;>simp)
include hT
theorem run_guard {op:BinOp} {t:TypeId} {xo yo:Operand} {x y:AV} {m:Nat->Loc} (h:guardA T t xo yo x y=true) (w:World):(eqGuard op t xo yo (conc m x) (conc m y)).run P w=.ok () w:=by
 obtain ⟨hx,hy⟩:=guard_any h
 cases x with
 | any v=>cases hx
 | agg xs=>
   cases y with
   | any v=>cases hy
   | agg ys=>
     simp only [guardA,notAny,Bool.true_and] at h
     cases he:T.ty.get t with
     | none=>simp [he,ob] at h
     | some e=>
       simp only [he,ob,Option.getD_some,Bool.and_eq_true,Bool.not_eq_true'] at h
       have:=(hT.ty t e he).2.2.1 h.1
       simp only [conc]
       exact run_eqGuard_agg w op t xo yo _ _ (this.trans h.2)
   | _=>exact guard_other (by simp [conc]) (by simp [conc]) w
 | niliface=>
   cases y with
   | any v=>cases hy
   | niliface=>
     simp only [guardA,notAny,Bool.true_and,Bool.or_eq_true] at h
     simp only [conc]
     rcases h with h|h
     · cases xo<;>simp [isConstO] at h
       cases op<;>simp [eqGuard]
     · cases yo<;>simp [isConstO] at h
       cases xo<;>cases op<;>simp [eqGuard]
   | _=>exact guard_other (by simp [conc]) (by simp [conc]) w
 | _=>exact guard_other (by simp [conc]) (by simp [conc]) w
theorem run_binA {op:BinOp} {t:TypeId} {xo yo:Operand} {x y v:AV} {m:Nat->Loc} (h:binA T op t xo yo x y=some v) (w:World) :
 (do eqGuard op t xo yo (conc m x) (conc m y);binOp op t (conc m x) (conc m y):Sem Value).run P w=.ok (conc m v) w/\idsA v=[]:=by
 have key:byType x=true->eqlA op (ok (guardA T t xo yo x y) (eqA T 100 t x y))=some v->(do eqGuard op t xo yo (conc m x) (conc m y);binOp op t (conc m x) (conc m y):Sem Value).run P w=.ok (conc m v) w/\idsA v=[]:=by
  intro hb h
  cases op<;>simp only [eqlA,ob_some,ok_some,Option.some.injEq,reduceCtorEq] at h
  · obtain ⟨b,⟨hg,he⟩,rfl⟩:=h
    refine ⟨?_,by simp [idsA]⟩
    rw [Sem.run_bind,run_guard hT hg w,Result.andThen_ok,binOp_eqlA hb (guard_any hg).2]
    simp [Op.equal,Op.maxDepth,run_eqA hT 100 t x y b he 10000 (by omega) w,conc]
  · obtain ⟨b,⟨hg,he⟩,rfl⟩:=h
    refine ⟨?_,by simp [idsA]⟩
    rw [Sem.run_bind,run_guard hT hg w,Result.andThen_ok,binOp_neqA hb (guard_any hg).2]
    simp [Op.equal,Op.maxDepth,run_eqA hT 100 t x y b he 10000 (by omega) w,conc]
 cases x with
 | int k a=>
   obtain ⟨h1,h2⟩:=run_binI (P:=P) (t:=t) (m:=m) h w
   refine ⟨?_,h2⟩
   rw [Sem.run_bind,guard_other (by simp [conc]) (by simp [conc]) w]
   simpa [conc] using h1
 | str a=>
   obtain ⟨h1,h2⟩:=run_binS (P:=P) (t:=t) (m:=m) h w
   refine ⟨?_,h2⟩
   rw [Sem.run_bind,guard_other (by simp [conc]) (by simp [conc]) w]
   simpa [conc] using h1
 | any a=>
   exfalso
   have hg:guardA T t xo yo (.any a) y=false:=by
    cases hg:guardA T t xo yo (.any a) y with
    | false=>rfl
    | true=>cases (guard_any hg).1
   simp only [binA,hg,ok,cond_false] at h
   cases op<;>simp [eqlA,ob] at h
 | _=>exact key rfl h
omit hT in
theorem run_unA {op:UnOp} {x v:AV} {m:Nat->Loc} (h:unA op x=some v) (w:World):(Op.unary op (conc m x)).run P w=.ok (conc m v) w/\idsA v=[]:=by
 cases x<;>simp only [unA,reduceCtorEq] at h
 · cases op<;>simp at h
   subst h
   simp [conc,Op.unary,idsA]
 · cases op<;>simp only [mkInt_eq,bXor,Option.some.injEq,reduceCtorEq] at h
   · subst h
     simp [conc,Op.unary,Op.intArith,idsA]
     exact congrArg _ (Int.zero_sub _).symm
   · subst h
     simp [conc,Op.unary,Op.intBits,idsA]
end
theorem overA_some:∀{cs vs r:List AV},overA cs vs=some r->r=vs++cs.drop vs.length/\vs.length≤cs.length
 | cs,[],r,h=>by cases cs<;>(simp only [overA,Option.some.injEq] at h;subst h;simp)
 | [],_::_,r,h=>by cases h
 | c::cs,v::vs,r,h=>by
   simp only [overA,ob_some,Option.some.injEq] at h
   obtain ⟨r',hr,rfl⟩:=h
   obtain ⟨rfl,hl⟩:=overA_some hr
   simp;exact hl
theorem layA_some:∀{cs:List AV} {off:Nat} {vs r:List AV},layA cs off vs=some r->r=cs.take off++vs++cs.drop (off+vs.length)/\off+vs.length≤cs.length
 | cs,0,vs,r,h=>by
   have h':overA cs vs=some r:=by cases cs<;>exact h
   obtain ⟨rfl,hl⟩:=overA_some h'
   simp;exact hl
 | [],n+1,vs,r,h=>by cases h
 | c::cs,n+1,vs,r,h=>by
   simp only [layA,ob_some,Option.some.injEq] at h
   obtain ⟨r',hr,rfl⟩:=h
   obtain ⟨rfl,hl⟩:=layA_some hr
   rw [show n+1+vs.length=(n+vs.length)+1 by omega]
   simp;omega
theorem layA_conc {m:Nat->Loc} {cs vs r:List AV} {off:Nat} (h:layA cs off vs=some r):concL m r=(concL m cs).take off++concL m vs++(concL m cs).drop (off+(concL m vs).length):=by
 obtain ⟨rfl,_⟩:=layA_some h
 simp [concL_map]
theorem layA_ok {D:Nat->Prop} {m:Nat->Loc} {cs vs r:List AV} {off:Nat} (h:layA cs off vs=some r) (hc:okL D m cs) (hv:okL D m vs):okL D m r:=by
 obtain ⟨rfl,_⟩:=layA_some h
 rw [okL_iff] at hc hv ⊢
 intro v hm
 simp only [List.mem_append] at hm
 rcases hm with (hm|hm)|hm
 · exact hc v (List.mem_of_mem_take hm)
 · exact hv v hm
 · exact hc v (List.mem_of_mem_drop hm)
theorem layA_get {cs vs r:List AV} {off:Nat} (h:layA cs off vs=some r) (i:Nat):r[i]? = if off≤i/\i<off+vs.length then vs[i-off]? else cs[i]? := by
 obtain ⟨rfl,hl⟩:=layA_some h
 rw [List.append_assoc,List.getElem?_append,List.length_take,Nat.min_eq_left (by omega)]
 by_cases h1:i<off
 · rw [if_pos h1,if_neg (by omega),List.getElem?_take_of_lt h1]
 · rw [if_neg h1,List.getElem?_append]
   by_cases h2:i-off<vs.length
   · rw [if_pos h2,if_pos (by omega)]
   · rw [if_neg h2,if_neg (by omega),List.getElem?_drop]
     congr 1;omega
theorem fold_lay:∀(vs:List Value) (j off:Nat) (A:Array Value),off+j+vs.length≤A.size->
 ((vs.zipIdx j).foldl (fun cs p=>cs.setIfInBounds (off+p.2) p.1) A).toList=A.toList.take (off+j)++vs++A.toList.drop (off+j+vs.length)
 | [],j,off,A,h=>by simp
 | v::vs,j,off,A,h=>by
   simp only [List.length_cons] at h
   rw [List.zipIdx_cons,List.foldl_cons,fold_lay vs (j+1) off _ (by simp;omega)]
   have e:=list_seg_step A.toList (off+j) v vs (by simp;omega)
   simpa [Array.toList_setIfInBounds,Nat.add_assoc] using e
theorem run_fillA {m:Nat->Loc} {place:Nat->Option (Nat×Nat)}:∀{ps:List (Nat×AV)} {cells r:List AV},fillA place cells ps=some r->
 Instr.fill place (concL m cells).toArray (ps.map fun p=>(p.1,conc m p.2))=some (concL m r).toArray
 | [],cells,r,h=>by cases h;simp [Instr.fill]
 | p::ps,cells,r,h=>by
   simp only [fillA,ob_some,ok_some,beq_iff] at h
   obtain ⟨q,hq,hl,r',hr,h⟩:=h
   have hlen:=(layA_some hr).2
   simp only [List.map_cons,Instr.fill,hq,conc_cells]
   have h1:¬((concL m (cellsA p.2)).toArray.size≠q.2):=by simp [concL_len,hl]
   have h2:¬(q.1+(concL m (cellsA p.2)).toArray.size > (concL m cells).toArray.size):=by simp [concL_len];omega
   have hf:=fold_lay (concL m (cellsA p.2)) 0 q.1 (concL m cells).toArray (by simp [concL_len];omega)
   have ih:=run_fillA (m:=m) h
   have e:(concL m (cellsA p.2)).toArray.zipIdx.foldl (fun cs (x:Value×Nat)=>cs.setIfInBounds (q.1+x.2) x.1) (concL m cells).toArray=(concL m r').toArray:=by
    apply Array.toList_inj.1
    rw [←Array.foldl_toList,Array.toList_zipIdx,hf,layA_conc hr]
    simp
   simp only [h1,h2,decide_false,Bool.or_self,Bool.false_eq_true,if_false]
   rw [←ih]
   congr 1
theorem fillA_ok {D:Nat->Prop} {m:Nat->Loc} {place:Nat->Option (Nat×Nat)}:∀{ps:List (Nat×AV)} {cells r:List AV},fillA place cells ps=some r->okL D m cells->(∀p∈ps,okV D m p.2)->okL D m r
 | [],cells,r,h,hc,_=>by cases h;exact hc
 | p::ps,cells,r,h,hc,hp=>by
   simp only [fillA,ob_some,ok_some] at h
   obtain ⟨q,hq,hl,r',hr,h⟩:=h
   exact fillA_ok h (layA_ok hr hc (okV_cells (hp p (by simp)))) (fun p hm=>hp p (by simp [hm]))
theorem setRow_size (w:World) (g:Nat) (cs:Array Value):(w.setRow g cs).heap.size=w.heap.size:=by simp [World.setRow]
theorem run_writeA {P:Program} {cfg:Cfg} {D:Nat->Prop} {m:Nat->Loc} {C:Ctx} {o o':Own} {w:World} (h:Inv cfg D m C o w) {id off:Nat} {vs:List AV} (hd:D id) (hv:okL D m vs) (h1:allOne vs=true) (hw:writeA C o id off vs=some o') :
 ∃w',(storeCells ⟨(m id).blk,(m id).base+off,none⟩ (concL m vs) 0).run P w=.ok () w'/\Ext cfg C D m o w D m o' w':=by
 simp only [writeA,ob_some,Option.some.injEq] at hw
 obtain ⟨x,hx,x',hx',rfl⟩:=hw
 cases x<;>simp only [layObj,reduceCtorEq] at hx'
 rename_i cs rw g
 cases rw<;>simp only [reduceCtorEq,ob_some,Option.some.injEq] at hx'
 obtain ⟨cs',hl,rfl⟩:=hx'
 have hob:=h.obj id hd
 rw [own_get hx] at hob
 obtain ⟨c,e,fz,hb,hr⟩:=hob
 obtain rfl:=hr.free rfl
 have hokc:okL D m cs':=layA_ok hl hr.okc hv
 by_cases hnil:vs=[]
 · subst hnil
   have:cs'=cs:=by
    obtain ⟨rfl,_⟩:=layA_some hl
    simp
   subst this
   refine ⟨w,rfl,Ext.put h hd hx rfl (Nat.le_refl _) (fun _ _=>rfl) ⟨c,e,(0,0),hb,hr⟩ rfl rfl rfl⟩
 · have hlen:=(layA_some hl).2
   have hpos:0<vs.length:=List.length_pos_iff.2 hnil
   have hfit:(m id).base+off+vs.length≤c.size:=by
    have hi:off+vs.length-1<cs.length:=by omega
    have:=hr.at' (off+vs.length-1) _ (List.getElem?_eq_getElem hi)
    have:=(Array.getElem?_eq_some_iff.1 this).1
    omega
   have hst:=run_storeCells_at P (m id).blk ((m id).base+off) e (concL m vs) 0 c w hb (by rw [concL_len];omega) (fun v hvm=>by
    rw [concL_map] at hvm
    obtain ⟨u,hu,rfl⟩:=List.mem_map.1 hvm
    exact oneA_conc (allOne_iff.1 h1 u hu))
   refine ⟨_,hst,Ext.put h hd hx rfl (Nat.le_of_eq (setRow_size _ _ _).symm) (fun k hk=>setRow_other _ _ _ _ hk) ?_ rfl rfl rfl⟩
   refine ⟨_,e,(0,0),setRow_heap w _ c _ e _ hb,⟨fun i v hi=>?_,hokc,fun _=>rfl,fun s hs=>?_⟩⟩
   · rw [layA_get hl] at hi
     simp only [Nat.add_zero,List.getElem?_toArray]
     rw [List.append_assoc,List.getElem?_append,List.length_take,Array.length_toList,Nat.min_eq_left (by omega)]
     by_cases hc1:off≤i/\i<off+vs.length
     · rw [if_pos hc1] at hi
       rw [if_neg (by omega),List.getElem?_append,if_pos (by rw [concL_len];omega),show (m id).base+i-((m id).base+off)=i-off by omega,concL_get,hi];rfl
     · rw [if_neg hc1] at hi
       have hci:=hr.at' i v hi
       by_cases hc2:i<off
       · rw [if_pos (by omega),List.getElem?_take_of_lt (by omega),Array.getElem?_toList];exact hci
       · rw [if_neg (by omega),List.getElem?_append,if_neg (by rw [concL_len];omega),List.getElem?_drop,concL_len,Array.getElem?_toList]
         rw [←hci];congr 1;omega
   · obtain ⟨a1,a2,a3⟩:=hr.grow s hs
     refine ⟨a1,a2,?_⟩
     simp only [Nat.add_zero,List.size_toArray,List.length_append,List.length_take,List.length_drop,Array.length_toList,concL_len]
     rw [←a3];omega
section
variable {P:Program} {T:Tab} (hT:TabOK P T)
include hT
theorem run_storeA {cfg:Cfg} {D:Nat->Prop} {m:Nat->Loc} {C:Ctx} {o o':Own} {w:World} (h:Inv cfg D m C o w) {t:TypeId} {p v:AV} (hp:okV D m p) (hv:okV D m v) (hs:storeA T C o t v p=some o') :
 ∃w',(Instr.storeAt t (conc m p) (conc m v)).run P w=.ok () w'/\Ext cfg C D m o w D m o' w':=by
 cases p<;>simp only [storeA,reduceCtorEq,ob_some,ok_some,Bool.and_eq_true,beq_iff] at hs
 rename_i id off
 obtain ⟨n,hn,⟨hl,h1⟩,hw⟩:=hs
 have hd:D id:=(hp (id,0) (by simp [idsA])).1
 obtain ⟨w',hr,he⟩:=run_writeA (P:=P) h hd (okV_cells hv) h1 hw
 refine ⟨w',?_,he⟩
 have hsz:(conc m v).cells.size=n:=by rw [conc_cells];simp [concL_len,hl]
 simp only [Instr.storeAt,conc,Instr.sureAddr,storeVar,Sem.run_bind,Sem.run_pure,Result.andThen_ok,run_sz hT hn w,hsz]
 simp only [ne_eq,not_true,if_false,conc_cells,Sem.run_bind]
 simpa using hr
end
theorem natA_some {hi n:Nat} {v:AV} (h:natA hi v=some n):∃k,v=.int k (.ofNat n)/\n≤hi:=by
 unfold natA at h
 split at h
 · simp only [ok_some,Option.some.injEq,ble_iff] at h
   obtain ⟨h1,rfl⟩:=h
   exact ⟨_,rfl,h1⟩
 · cases h
theorem run_bound {P:Program} {m:Nat->Loc} {most n:Nat} {v:AV} {y:Nat} {code:BoundsCode} (h:natA most v=some n) (hy:most≤y) (w:World):(Instr.sliceBound (conc m v) y code).run P w=.ok n w:=by
 obtain ⟨k,rfl,hn⟩:=natA_some h
 simp only [conc]
 rw [run_sliceBound w k _ y code (by simp) (by simp;omega)]
 simp
theorem run_bounds {P:Program} {m:Nat->Loc} {b:Bool} {len cap c0 mm h l:Nat} {lo hi mx:Option AV} (hc:mx=none->mm=cap) (hc':∀v,mx=some v->natA c0 v=some mm/\c0≤cap)
 (hm:mx=none∨hi.isSome=true) (hh:∃t,boundA t len hi=some h/\t≤mm) (hl:boundA h 0 lo=some l) (w:World) :
 (Instr.sliceBounds b len cap (lo.map (conc m)) (hi.map (conc m)) (mx.map (conc m))).run P w=.ok (l,h,mm) w:=by
 obtain ⟨t,hh,ht⟩:=hh
 unfold Instr.sliceBounds
 cases mx with
 | none=>
   obtain rfl:=hc rfl
   cases hi with
   | none=>
     simp only [boundA,Option.some.injEq] at hh
     subst hh
     cases lo with
     | none=>simp only [boundA,Option.some.injEq] at hl;subst hl;simp
     | some lv=>simp only [boundA] at hl;simp [run_bound hl (Nat.le_refl _) w]
   | some hv=>
     simp only [boundA] at hh
     cases lo with
     | none=>simp only [boundA,Option.some.injEq] at hl;subst hl;simp [run_bound hh ht w]
     | some lv=>simp only [boundA] at hl;simp [run_bound hh ht w,run_bound hl (Nat.le_refl _) w]
 | some mv=>
   obtain ⟨h1,h2⟩:=hc' mv rfl
   cases hi with
   | none=>simp at hm
   | some hv=>
     simp only [boundA] at hh
     cases lo with
     | none=>simp only [boundA,Option.some.injEq] at hl;subst hl;simp [run_bound h1 h2 w,run_bound hh ht w]
     | some lv=>simp only [boundA] at hl;simp [run_bound h1 h2 w,run_bound hh ht w,run_bound hl (Nat.le_refl _) w]
theorem boundA_le {t d h:Nat} {v:Option AV} (hb:boundA t d v=some h) (hd:d≤t):h≤t:=by
 cases v with
 | none=>cases hb;exact hd
 | some v=>obtain ⟨_,_,h⟩:=natA_some hb;exact h
theorem conc_capSlice {m:Nat->Loc} (id off size mm h l:Nat) :
 conc m (capSlice id off size mm h l)=.slice (if mm=l then some ⟨(m id).blk,(m id).base+off,none⟩ else some ((⟨(m id).blk,(m id).base+off,none⟩:Addr).add (l*size))) (h-l) (mm-l):=by
 unfold capSlice
 by_cases e:mm=l
 · rw [beqT e,cond_true,if_pos e];simp [conc,capC]
 · rw [beqF e,cond_false,if_neg e,add_none];simp [conc,capC,Nat.add_assoc]
theorem ok_capSlice {D:Nat->Prop} {m:Nat->Loc} {id off size mm h l:Nat} (hd:D id):okV D m (capSlice id off size mm h l):=by
 unfold capSlice
 cases Nat.beq mm l<;>(intro i hi;simp only [cond_true,cond_false,idsA,List.mem_singleton,needC] at hi;subst hi;exact ⟨hd,Nat.zero_le _⟩)
theorem und_arr {T:Tab} {t n e:Nat} (h:arrT T t=some (n,e)):T.und t=some (.array n e):=by
 unfold arrT at h
 cases hu:T.und t with
 | none=>simp [hu,arrD] at h
 | some d=>cases d<;>simp [hu,arrD] at h;simp [h]
theorem und_elem {T:Tab} {t e:Nat} (h:elemT T t=some e):T.und t=some (.slice e):=by
 unfold elemT at h
 cases hu:T.und t with
 | none=>simp [hu,elemD] at h
 | some d=>cases d<;>simp [hu,elemD] at h;simp [h]
theorem und_str {T:Tab} {t:Nat} (h:strT T t=true):T.und t=some .string:=by
 unfold strT at h
 cases hu:T.und t with
 | none=>simp [hu,strD] at h
 | some d=>cases d<;>simp [hu,strD] at h;rfl
theorem und_struct {T:Tab} {t:Nat} {fs:Array Field} (h:structT T t=some fs):T.und t=some (.struct fs):=by
 unfold structT at h
 cases hu:T.und t with
 | none=>simp [hu,structD] at h
 | some d=>cases d<;>simp [hu,structD] at h;simp [h]
section
variable {P:Program} {T:Tab} (hT:TabOK P T)
include hT
theorem run_sliceOf {D:Nat->Prop} {m:Nat->Loc} {t:TypeId} {x v:AV} {lo hi mx:Option AV} (hx:okV D m x) (h:sliceOf T t lo hi mx x=some v) (w:World) :
 (Instr.sliceAt t (conc m x) (lo.map (conc m)) (hi.map (conc m)) (mx.map (conc m))).run P w=.ok (conc m v) w/\okV D m v:=by
 cases x<;>simp only [sliceOf,reduceCtorEq,ob_some,ok_some] at h
 case ptr id off=>
  have hd:D id:=(hx (id,0) (by simp [idsA])).1
  obtain ⟨⟨n,e⟩,ha,size,hs,h⟩:=h
  simp only [sliceKnown,ok_some,ob_some,Option.some.injEq,Bool.or_eq_true,Option.isNone_iff_eq_none] at h
  obtain ⟨hm,mm,h1,hh,h2,l,h3,rfl⟩:=h
  refine ⟨?_,ok_capSlice hd⟩
  have hb:=run_bounds (P:=P) (m:=m) (b:=false) (len:=n) (cap:=n) (c0:=n) (mm:=mm) (lo:=lo) (hi:=hi) (mx:=mx) (fun e=>by subst e;cases h1;rfl) (fun v e=>by subst e;exact ⟨h1,Nat.le_refl _⟩) hm ⟨mm,h2,Nat.le_refl _⟩ h3 w
  simp only [Instr.sliceAt,Sem.run_bind,run_und hT (und_arr ha) w,Result.andThen_ok,conc,Instr.sureAddr,Sem.run_pure,hb,run_sz hT hs w,conc_capSlice]
  split<;>rfl
 case str s=>
  obtain ⟨hst,h⟩:=h
  simp only [Bool.and_eq_true,Option.isNone_iff_eq_none] at hst
  obtain ⟨hst,rfl⟩:=hst
  simp only [sliceStr,ob_some,Option.some.injEq] at h
  obtain ⟨hh,h2,l,h3,rfl⟩:=h
  refine ⟨?_,okV_none (by simp [idsA])⟩
  have hsz:(ByteArray.mk ⟨s⟩).size=s.length:=rfl
  have hb:=run_bounds (P:=P) (m:=m) (b:=false) (len:=s.length) (cap:=s.length) (c0:=0) (mm:=s.length) (lo:=lo) (hi:=hi) (mx:=none) (fun _=>rfl) (fun v e=>by cases e) (.inl rfl) ⟨s.length,h2,Nat.le_refl _⟩ h3 w
  simp only [Option.map_none] at hb
  simp only [Instr.sliceAt,Sem.run_bind,run_und hT (und_str hst) w,Result.andThen_ok,conc,Instr.slice,Option.map_none,hsz,hb,Option.isSome_none,Bool.false_eq_true,if_false,Sem.run_pure]
  congr 2
  apply ByteArray.ext
  apply Array.toList_inj.1
  simp [ByteArray.data_extract,List.drop_take]
 case nilslice=>
  obtain ⟨e,he,sz,hs,h⟩:=h
  simp only [sliceNil,ok_some,ob_some,Option.some.injEq,Bool.or_eq_true,Option.isNone_iff_eq_none] at h
  obtain ⟨hm,mm,h1,hh,h2,l,h3,rfl⟩:=h
  refine ⟨?_,okV_none (by simp [idsA])⟩
  have hm0:mm=0:=Nat.le_zero.1 (boundA_le h1 (Nat.le_refl _))
  have hh0:hh=0:=Nat.le_zero.1 (boundA_le h2 (Nat.le_refl _))
  subst hm0 hh0
  have hl0:l=0:=Nat.le_zero.1 (boundA_le h3 (Nat.le_refl _))
  subst hl0
  have hb:=run_bounds (P:=P) (m:=m) (b:=true) (len:=0) (cap:=0) (c0:=0) (mm:=0) (lo:=lo) (hi:=hi) (mx:=mx) (fun _=>rfl) (fun v e=>by subst e;exact ⟨h1,Nat.le_refl _⟩) hm ⟨0,h2,Nat.le_refl _⟩ h3 w
  simp only [Instr.sliceAt,Sem.run_bind,run_und hT (und_elem he) w,Result.andThen_ok,conc,Instr.slice,hb,run_sz hT hs w,Sem.run_pure,if_true,Nat.sub_zero]
 case slice id off len c=>
  have hd:D id:=(hx (id,needC len c) (by simp [idsA])).1
  have hneed:=(hx (id,needC len c) (by simp [idsA])).2
  obtain ⟨e,he,size,hs,h⟩:=h
  cases c with
  | known c=>
    simp only [sliceCap,sliceKnown,ok_some,ob_some,Option.some.injEq,Bool.or_eq_true,Option.isNone_iff_eq_none] at h
    obtain ⟨hm,mm,h1,hh,h2,l,h3,rfl⟩:=h
    refine ⟨?_,ok_capSlice hd⟩
    have hb:=run_bounds (P:=P) (m:=m) (b:=true) (len:=len) (cap:=c) (c0:=c) (mm:=mm) (lo:=lo) (hi:=hi) (mx:=mx) (fun e=>by subst e;cases h1;rfl) (fun v e=>by subst e;exact ⟨h1,Nat.le_refl _⟩) hm ⟨mm,h2,Nat.le_refl _⟩ h3 w
    simp only [Instr.sliceAt,Sem.run_bind,run_und hT (und_elem he) w,Result.andThen_ok,conc,capC,Instr.slice,hb,run_sz hT hs w,Sem.run_pure,conc_capSlice]
    split<;>rfl
  | rest k=>
    simp only [needC] at hneed
    cases mx with
    | none=>
      simp only [sliceCap,sliceRest,ob_some] at h
      obtain ⟨hh,h2,l,h3,h⟩:=h
      have hhl:hh≤len:=boundA_le h2 (Nat.le_refl _)
      have hll:l≤hh:=boundA_le h3 (Nat.zero_le _)
      have hb:=run_bounds (P:=P) (m:=m) (b:=true) (len:=len) (cap:=(m id).cap-k) (c0:=0) (mm:=(m id).cap-k) (lo:=lo) (hi:=hi) (mx:=none) (fun _=>rfl) (fun v e=>by cases e) (.inl rfl) ⟨len,h2,by omega⟩ h3 w
      simp only [Option.map_none] at hb
      simp only [restSlice] at h
      by_cases hl0:l=0
      · rw [beqT hl0,cond_true,Option.some.injEq] at h
        subst h hl0
        refine ⟨?_,fun i hi=>?_⟩
        · simp only [Instr.sliceAt,Sem.run_bind,run_und hT (und_elem he) w,Result.andThen_ok,conc,capC,Instr.slice,hb,run_sz hT hs w,Sem.run_pure,Nat.zero_mul,Option.map_none,Option.map_some,add_none,Nat.add_zero,ite_self,Nat.sub_zero]
        · simp only [idsA,List.mem_singleton,needC] at hi;subst hi;exact ⟨hd,by simp only;omega⟩
      · rw [beqF hl0,cond_false,ok_some,natLt_iff,Option.some.injEq] at h
        obtain ⟨hlt,rfl⟩:=h
        refine ⟨?_,fun i hi=>?_⟩
        · have hne:¬((m id).cap-k=l):=by omega
          simp only [Instr.sliceAt,Sem.run_bind,run_und hT (und_elem he) w,Result.andThen_ok,conc,capC,Instr.slice,hb,run_sz hT hs w,Sem.run_pure,Option.map_none,Option.map_some,add_none,if_neg hne]
          rw [Nat.sub_sub,Nat.add_assoc]
        · simp only [idsA,List.mem_singleton,needC] at hi;subst hi;exact ⟨hd,by simp only;omega⟩
    | some mv=>
      simp only [sliceCap,sliceRestMax,ok_some,ob_some,Option.some.injEq] at h
      obtain ⟨hm,mm,h1,hh,h2,l,h3,rfl⟩:=h
      refine ⟨?_,ok_capSlice hd⟩
      have hb:=run_bounds (P:=P) (m:=m) (b:=true) (len:=len) (cap:=(m id).cap-k) (c0:=len) (mm:=mm) (lo:=lo) (hi:=hi) (mx:=some mv) (fun e=>by cases e) (fun v e=>by cases e;exact ⟨h1,by omega⟩) (.inr hm) ⟨mm,h2,Nat.le_refl _⟩ h3 w
      simp only [Instr.sliceAt,Sem.run_bind,run_und hT (und_elem he) w,Result.andThen_ok,conc,capC,Instr.slice,hb,run_sz hT hs w,Sem.run_pure,conc_capSlice]
      split<;>rfl
theorem run_fieldAddr {D:Nat->Prop} {m:Nat->Loc} {s:TypeId} {f:Nat} {x v:AV} (hx:okV D m x) (h:fieldAddrA T s f x=some v) (w:World):(Instr.fieldAt s (conc m x) f).run P w=.ok (conc m v) w/\okV D m v:=by
 simp only [fieldAddrA,fieldPlaceA,ob_some,ok_some,Option.some.injEq,natLt_iff] at h
 obtain ⟨fs,hs,q,⟨fd,hf,n,hn,rfl⟩,hp,h⟩:=h
 cases x<;>simp only [ptrAdd,reduceCtorEq,Option.some.injEq] at h
 rename_i id off
 subst h
 have hd:D id:=(hx (id,0) (by simp [idsA])).1
 have hne:¬n=0:=by simp only at hp;omega
 refine ⟨?_,fun i hi=>by simp only [idsA,List.mem_singleton] at hi;subst hi;exact ⟨hd,Nat.zero_le _⟩⟩
 simp [Instr.fieldAt,run_und hT (und_struct hs) w,hf,conc,Instr.sureAddr,fieldPlace,run_sz hT hn w,hne,add_none,Nat.add_assoc]
theorem run_field {D:Nat->Prop} {m:Nat->Loc} {s:TypeId} {f:Nat} {x v:AV} (hx:okV D m x) (h:fieldA T s f x=some v) (w:World):(Instr.field s (conc m x) f).run P w=.ok (conc m v) w/\okV D m v:=by
 cases x<;>simp only [fieldA,reduceCtorEq,ob_some] at h
 obtain ⟨fs,hs,fd,hf,h⟩:=h
 refine ⟨?_,partA_ok hT h (okV_agg.1 hx)⟩
 simp [Instr.field,run_und hT (und_struct hs) w,hf,conc,asAgg,run_partA hT h w]
theorem run_indexAddr {D:Nat->Prop} {m:Nat->Loc} {t:TypeId} {i:Nat} {k:IntKind} {x v:AV} (hx:okV D m x) (h:indexAddrA T t i x=some v) (w:World):(Instr.indexAt t (conc m x) (.int k i)).run P w=.ok (conc m v) w/\okV D m v:=by
 cases x<;>simp only [indexAddrA,reduceCtorEq,ob_some,ok_some,Option.some.injEq,natLt_iff] at h
 · rename_i id off
   obtain ⟨⟨n,e⟩,ha,hi,sz,hs,rfl⟩:=h
   have hd:D id:=(hx (id,0) (by simp [idsA])).1
   refine ⟨?_,fun j hj=>by simp only [idsA,List.mem_singleton] at hj;subst hj;exact ⟨hd,Nat.zero_le _⟩⟩
   have hi':i<n:=hi
   simp [Instr.indexAt,asIntOf,run_und hT (und_arr ha) w,conc,Instr.sureAddr,run_sz hT hs w,add_none,Nat.add_assoc,hi']
 · rename_i id off len c
   obtain ⟨e,ha,hi,sz,hs,rfl⟩:=h
   have hd:D id:=(hx (id,needC len c) (by simp [idsA])).1
   refine ⟨?_,fun j hj=>by simp only [idsA,List.mem_singleton] at hj;subst hj;exact ⟨hd,Nat.zero_le _⟩⟩
   simp [Instr.indexAt,asIntOf,run_und hT (und_elem ha) w,conc,run_sz hT hs w,add_none,Nat.add_assoc,hi]
theorem run_index {D:Nat->Prop} {m:Nat->Loc} {t:TypeId} {i:Nat} {k:IntKind} {x v:AV} (hx:okV D m x) (h:indexA T t i x=some v) (w:World):(Instr.index t (conc m x) (.int k i)).run P w=.ok (conc m v) w/\okV D m v:=by
 cases x<;>simp only [indexA,reduceCtorEq,ob_some,ok_some,Option.some.injEq,natLt_iff] at h
 · rename_i s
   obtain ⟨ht,b,hb,rfl⟩:=h
   refine ⟨?_,okV_none (by simp [byteA,idsA])⟩
   have hlt:=(List.getElem?_eq_some_iff.1 hb).1
   have hs:(ByteArray.mk ⟨s⟩)[i]? = some b:=by
    rw [ByteArray.getElem?_lt' _ _ (by exact hlt)]
    exact congrArg some (List.getElem?_eq_some_iff.1 hb).2
   simp [Instr.index,asIntOf,run_und hT (und_str ht) w,conc,byteA,hs]
 · rename_i cs
   obtain ⟨⟨n,e⟩,ha,hi,sz,hs,h⟩:=h
   refine ⟨?_,partA_ok hT h (okV_agg.1 hx)⟩
   try simp only at hi h hs
   simp [Instr.index,asIntOf,run_und hT (und_arr ha) w,conc,run_sz hT hs w,hi,run_partA hT h w]
end
end Go.Ev
