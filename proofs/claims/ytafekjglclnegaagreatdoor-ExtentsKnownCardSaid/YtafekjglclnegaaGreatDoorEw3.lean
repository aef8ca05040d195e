/- What the reckoner's blocks are in a world, and how a step may turn them. -/
import Derived.Test.YtafekjglclnegaaGreatDoorEw2
set_option linter.all false
namespace Go.Ev
open Go Go.RowKit

def live : AObj → Bool
  | .dead => false
  | _ => true
def rwO : AObj → Bool
  | .cells _ rw _ => rw
  | .map _ => true
  | .siter _ _ => true
  | .loop _ => true
  | .defs => true
  | .dead => false
theorem live_of_rw {x : AObj} (h : rwO x = true) : live x = true := by cases x <;> simp_all [live, rwO]

structure CellsRel (D : Nat → Prop) (m : Nat → Loc) (l : Loc) (cs : List AV) (rw : Bool) (g : Option Nat) (c : Array Value) (fz : Nat × Nat) : Prop where
  at' : ∀ i v, cs[i]? = some v → c[l.base + i]? = some (conc m v)
  okc : okL D m cs
  free : rw = true → fz = (0, 0)
  grow : ∀ s, g = some s → 0 < s ∧ l.base = 0 ∧ c.size = l.cap * s

structure LoopRel (D : Nat → Prop) (m : Nat → Loc) (r : ALoop) (fn : FuncId) (tmps : Array Value) : Prop where
  size : tmps.size = r.tn
  at' : ∀ t, tmps.getD t undef = conc m (r.ts.get t)
  okt : ∀ t, okV D m (r.ts.get t)
  defs : D r.defs
def loopOf (m : Nat → Loc) (r : ALoop) (fn : FuncId) (tmps : Array Value) : Loop :=
  { state := r.state, pending := r.pend, fn, tmps, params := r.params, assign := r.assign, body := r.body, defers := (m r.defs).blk }
theorem LoopRel.mono {D D' : Nat → Prop} {m m' : Nat → Loc} {r : ALoop} {fn : FuncId} {tmps : Array Value} (h : LoopRel D m r fn tmps) (hd : ∀ i, D i → D' i) (hs : ∀ i, D i → m' i = m i) : LoopRel D' m' r fn tmps ∧ loopOf m' r fn tmps = loopOf m r fn tmps :=
  ⟨⟨h.size, fun t => by rw [h.at' t, conc_same (h.okt t) hs], fun t => (h.okt t).mono hd hs, hd _ h.defs⟩, by unfold loopOf; rw [hs _ h.defs]⟩

/-- What a block is in the world. -/
def ObjRel (D : Nat → Prop) (m : Nat → Loc) (l : Loc) : AObj → Option Obj → Prop
  | .dead, _ => True
  | .cells cs rw g, b => ∃ c e fz, b = some (.cells c e fz) ∧ CellsRel D m l cs rw g c fz
  | .map es, b => ∃ en clock, b = some (.map en clock) ∧ en.toList.map (fun e => (e.key, e.val)) = es.map (fun e => (conc m e.1, conc m e.2)) ∧ ∀ e ∈ es, okV D m e.1 ∧ okV D m e.2
  | .siter s pos, b => b = some (.stringIter ⟨⟨s⟩⟩ pos) ∧ l.base = 0
  | .loop r, b => ∃ fn tmps, b = some (.loop (loopOf m r fn tmps)) ∧ LoopRel D m r fn tmps
  | .defs, b => b = some (.deferred (some []))

theorem ObjRel.mono {D D' : Nat → Prop} {m m' : Nat → Loc} {l : Loc} {x : AObj} {b : Option Obj} (h : ObjRel D m l x b) (hd : ∀ i, D i → D' i) (hs : ∀ i, D i → m' i = m i) : ObjRel D' m' l x b := by
  cases x with
  | dead => trivial
  | cells cs rw g =>
    obtain ⟨c, e, fz, hb, hc⟩ := h
    refine ⟨c, e, fz, hb, ⟨fun i v hv => ?_, hc.okc.mono hd hs, hc.free, hc.grow⟩⟩
    rw [hc.at' i v hv, conc_same (okL_iff.1 hc.okc v (List.mem_of_getElem? hv)) hs]
  | map es =>
    obtain ⟨en, ck, hb, he, ho⟩ := h
    refine ⟨en, ck, hb, he.trans (List.map_congr_left fun e hm => ?_), fun e hm => ⟨(ho e hm).1.mono hd hs, (ho e hm).2.mono hd hs⟩⟩
    rw [conc_same (ho e hm).1 hs, conc_same (ho e hm).2 hs]
  | siter s pos => exact h
  | loop r =>
    obtain ⟨fn, tmps, hb, hr⟩ := h
    obtain ⟨h1, h2⟩ := hr.mono hd hs
    exact ⟨fn, tmps, by rw [h2]; exact hb, h1⟩
  | defs => exact h

/-- The blocks that have names are what the reckoner says. -/
structure Inv (cfg : Cfg) (D : Nat → Prop) (m : Nat → Loc) (C : Ctx) (o : Own) (w : World) : Prop where
  obj : ∀ id, D id → ObjRel D m (m id) (get C o id) w.heap[(m id).blk]?
  inj : ∀ i j, D i → D j → i ≠ j → live (get C o i) = true → rwO (get C o j) = true → (m i).blk ≠ (m j).blk
  lt : ∀ id, D id → id < C.lo + o.n
  glob : ∀ g, g < cfg.G → D g ∧ (m g).blk = g ∧ (m g).base = 0
  root : ∀ id, id < cfg.root.n → D id ∧ get C o id = cfg.root.at id
  le : ∀ id, id ∈ o.le.map (·.1) → cfg.root.n ≤ id ∧ id < C.lo
  lo : cfg.root.n ≤ C.lo
  len : o.os.length = o.n

theorem own_get {C : Ctx} {o : Own} {id : Nat} {x : AObj} (h : own? C o id = some x) : get C o id = x := by
  unfold own? at h
  unfold get getB
  cases hb : Nat.ble C.lo id with
  | true => simp only [hb, cond_true, Option.some.injEq] at h; simp only [hb, cond_true, h]
  | false => simp only [hb, cond_false] at h; simp only [hb, cond_false, h]
theorem get_push {C : Ctx} {o : Own} {x : AObj} {j : Nat} (hj : j ≤ C.lo + o.n) : get C (o.push x) j = if j = C.lo + o.n then x else get C o j := by
  unfold get getB
  cases hb : Nat.ble C.lo j with
  | true =>
    have := ble_iff.1 hb
    simp only [cond_true]
    rw [Own.at_push o x _ (by omega)]
    by_cases e : j = C.lo + o.n
    · rw [if_pos (by omega), if_pos e]
    · rw [if_neg (by omega), if_neg e]
  | false =>
    have : ¬ C.lo ≤ j := by intro h; rw [ble_iff.2 h] at hb; cases hb
    rw [if_neg (by omega)]; rfl
theorem get_put {C : Ctx} {o : Own} {x : AObj} {id j : Nat} (hl : o.os.length = o.n) (hi : id < C.lo + o.n) (hj : j < C.lo + o.n) (ho : (own? C o id).isSome = true) :
    get C (putO C o id x) j = if j = id then x else get C o j := by
  unfold own? at ho
  unfold get getB putO
  cases hb : Nat.ble C.lo id with
  | true =>
    have h1 := ble_iff.1 hb
    simp only [cond_true]
    cases hc : Nat.ble C.lo j with
    | true =>
      have h2 := ble_iff.1 hc
      simp only [cond_true]
      rw [Own.at_put o x _ _ hl (by omega) (by omega)]
      by_cases e : j = id
      · rw [if_pos (by omega), if_pos e]
      · rw [if_neg (by omega), if_neg e]
    | false =>
      have h2 : ¬ C.lo ≤ j := by intro h; rw [ble_iff.2 h] at hc; cases hc
      rw [if_neg (by omega)]; rfl
  | false =>
    have h1 : ¬ C.lo ≤ id := by intro h; rw [ble_iff.2 h] at hb; cases hb
    simp only [hb, cond_false] at ho
    simp only [cond_false]
    cases hc : Nat.ble C.lo j with
    | true =>
      have h2 := ble_iff.1 hc
      simp only [cond_true]
      rw [if_neg (by omega)]; rfl
    | false =>
      simp only [cond_false]
      rw [leAt_lePut]
      by_cases e : j = id
      · rw [if_pos ⟨e, ho⟩, if_pos e]
      · rw [if_neg (fun h => e h.1), if_neg e]
theorem put_le {C : Ctx} {o : Own} {x : AObj} {id : Nat} : (putO C o id x).le.map (·.1) = o.le.map (·.1) := by
  unfold putO
  cases Nat.ble C.lo id with
  | true => rfl
  | false => exact lePut_fst x o.le id
theorem put_n {C : Ctx} {o : Own} {x : AObj} {id : Nat} : (putO C o id x).n = o.n := by unfold putO; cases Nat.ble C.lo id <;> rfl
theorem put_len {C : Ctx} {o : Own} {x : AObj} {id : Nat} (h : o.os.length = o.n) : (putO C o id x).os.length = (putO C o id x).n := by
  rw [put_n]; unfold putO
  cases Nat.ble C.lo id with
  | true => exact (setO_length x _ _).trans h
  | false => exact h
/-- Whether a name may be written goes by the level and by what is lent. -/
theorem own_isSome {C : Ctx} {o o' : Own} (h : o'.le.map (·.1) = o.le.map (·.1)) (id : Nat) : (own? C o' id).isSome = (own? C o id).isSome := by
  unfold own?
  cases Nat.ble C.lo id with
  | true => rfl
  | false =>
    simp only [cond_false]
    rw [Bool.eq_iff_iff, leAt_isSome, leAt_isSome, h]

theorem Inv.world {cfg : Cfg} {D : Nat → Prop} {m : Nat → Loc} {C : Ctx} {o : Own} {w w' : World} (h : Inv cfg D m C o w)
    (hw : ∀ j, D j → live (get C o j) = true → w'.heap[(m j).blk]? = w.heap[(m j).blk]?) : Inv cfg D m C o w' :=
  ⟨fun id hd => by
      have := h.obj id hd
      cases hx : get C o id with
      | dead => trivial
      | _ => rw [hw id hd (by rw [hx]; rfl)]; rw [hx] at this; exact this, h.inj, h.lt, h.glob, h.root, h.le, h.lo, h.len⟩

/-- A block that may be written is turned. -/
theorem Inv.put {cfg : Cfg} {D : Nat → Prop} {m : Nat → Loc} {C : Ctx} {o : Own} {w w' : World} (h : Inv cfg D m C o w) {id : Nat} {x y : AObj} (hd : D id) (ho : own? C o id = some y) (hy : rwO y = true)
    (hw : ∀ k, k ≠ (m id).blk → w'.heap[k]? = w.heap[k]?) (hx : ObjRel D m (m id) x w'.heap[(m id).blk]?) : Inv cfg D m C (putO C o id x) w' := by
  have hg := own_get ho
  have hos : (own? C o id).isSome = true := by rw [ho]; rfl
  have hlt := h.lt id hd
  have gp : ∀ j, D j → get C (putO C o id x) j = if j = id then x else get C o j := fun j hj => get_put h.len hlt (h.lt j hj) hos
  have hid : cfg.root.n ≤ id := by
    rcases Nat.lt_or_ge id cfg.root.n with hlt' | hge
    · unfold own? at ho
      have hlo := h.lo
      have : Nat.ble C.lo id = false := by rw [← Bool.not_eq_true, Nat.ble_eq]; omega
      rw [this, cond_false] at ho
      have := leAt_isSome.1 (by rw [ho]; rfl : (leAt o.le id).isSome = true)
      exact (h.le id this).1
    · exact hge
  refine { obj := fun j hj => ?_, inj := fun i j hi hj hij hl hr => ?_, lt := fun j hj => by rw [put_n]; exact h.lt j hj, glob := h.glob, root := fun j hj => ?_, le := fun j hj => h.le j (by rw [put_le] at hj; exact hj), lo := h.lo, len := put_len h.len }
  · rw [gp j hj]
    by_cases e : j = id
    · subst e; rw [if_pos rfl]; exact hx
    · rw [if_neg e]
      have := h.obj j hj
      cases hxj : get C o j with
      | dead => trivial
      | _ =>
        rw [hw _ (h.inj j id hj hd e (by rw [hxj]; rfl) (by rw [hg]; exact hy))]; rw [hxj] at this; exact this
  · rw [gp i hi] at hl
    rw [gp j hj] at hr
    have hl' : live (get C o i) = true := by
      by_cases e : i = id
      · subst e; rw [hg]; exact live_of_rw hy
      · rw [if_neg e] at hl; exact hl
    have hr' : rwO (get C o j) = true := by
      by_cases e : j = id
      · subst e; rw [hg]; exact hy
      · rw [if_neg e] at hr; exact hr
    exact h.inj i j hi hj hij hl' hr'
  · refine ⟨(h.root j hj).1, ?_⟩
    rw [gp j (h.root j hj).1, if_neg (by omega)]; exact (h.root j hj).2

def upd (m : Nat → Loc) (n : Nat) (l : Loc) (i : Nat) : Loc := if i = n then l else m i
theorem upd_eq (m : Nat → Loc) (n : Nat) (l : Loc) : upd m n l n = l := if_pos rfl
theorem upd_ne {m : Nat → Loc} {n i : Nat} {l : Loc} (h : i ≠ n) : upd m n l i = m i := if_neg h
def addD (D : Nat → Prop) (n : Nat) (i : Nat) : Prop := D i ∨ i = n

/-- A block is named that had no name. -/
theorem Inv.push {cfg : Cfg} {D : Nat → Prop} {m : Nat → Loc} {C : Ctx} {o : Own} {w : World} (h : Inv cfg D m C o w) {x : AObj} {l : Loc}
    (hl : ∀ j, D j → live (get C o j) = true → (m j).blk ≠ l.blk) (hx : ObjRel D m l x w.heap[l.blk]?) :
    Inv cfg (addD D (C.lo + o.n)) (upd m (C.lo + o.n) l) C (o.push x) w := by
  have hs : ∀ i, D i → upd m (C.lo + o.n) l i = m i := fun i hi => by
    have := h.lt i hi
    exact upd_ne (by omega)
  have gp : ∀ j, D j → get C (o.push x) j = get C o j := fun j hj => by
    have := h.lt j hj
    rw [get_push (by omega), if_neg (by omega)]
  have gn : get C (o.push x) (C.lo + o.n) = x := by rw [get_push (Nat.le_refl _), if_pos rfl]
  refine { obj := ?_, inj := ?_, lt := ?_, glob := fun g hg => ?_, root := fun j hj => ?_, le := h.le, lo := h.lo, len := by simp [Own.push, h.len] }
  · rintro id (hd | rfl)
    · rw [gp id hd, hs id hd]; exact (h.obj id hd).mono (fun i hi => .inl hi) hs
    · rw [gn]; rw [upd_eq]; exact hx.mono (fun i hi => .inl hi) hs
  · rintro i j (hi | rfl) (hj | rfl) hij hli hrj
    · rw [hs i hi, hs j hj]; rw [gp i hi] at hli; rw [gp j hj] at hrj; exact h.inj i j hi hj hij hli hrj
    · rw [hs i hi]; rw [upd_eq]; rw [gp i hi] at hli; exact hl i hi hli
    · rw [hs j hj]; rw [upd_eq]; rw [gp j hj] at hrj; exact fun e => hl j hj (live_of_rw hrj) e.symm
    · exact absurd rfl hij
  · rintro id (hd | rfl)
    · have := h.lt id hd; simp only [Own.push]; omega
    · simp only [Own.push]; omega
  · obtain ⟨a, b, c⟩ := h.glob g hg
    exact ⟨.inl a, by rw [hs g a]; exact b, by rw [hs g a]; exact c⟩
  · obtain ⟨a, b⟩ := h.root j hj
    exact ⟨.inl a, by rw [gp j a]; exact b⟩

/-- What a step of the reckoner does to names, blocks and the world. -/
structure Ext (cfg : Cfg) (C : Ctx) (D : Nat → Prop) (m : Nat → Loc) (o : Own) (w : World) (D' : Nat → Prop) (m' : Nat → Loc) (o' : Own) (w' : World) : Prop where
  inv : Inv cfg D' m' C o' w'
  sub : ∀ i, D i → D' i
  same : ∀ i, D i → m' i = m i
  new : ∀ i, D' i → D i ∨ C.lo + o.n ≤ i
  grow : o.n ≤ o'.n
  os : w'.os = w.os
  tape : w'.tape = w.tape
  output : w'.output = w.output
  size : w.heap.size ≤ w'.heap.size
  frame : ∀ k, k < w.heap.size → (∀ i, D i → (own? C o i).isSome = true → (m i).blk ≠ k) → w'.heap[k]? = w.heap[k]?
  leIds : o'.le.map (·.1) = o.le.map (·.1)
  fresh : ∀ i, D' i → ¬ D i → w.heap.size ≤ (m' i).blk ∨ ∃ j, D j ∧ (own? C o j).isSome = true ∧ (m j).blk = (m' i).blk

theorem Ext.refl {cfg : Cfg} {C : Ctx} {D : Nat → Prop} {m : Nat → Loc} {o : Own} {w : World} (h : Inv cfg D m C o w) : Ext cfg C D m o w D m o w :=
  ⟨h, fun _ h => h, fun _ _ => rfl, fun _ h => .inl h, Nat.le_refl _, rfl, rfl, rfl, Nat.le_refl _, fun _ _ _ => rfl, rfl, fun i h h' => absurd h h'⟩

theorem Ext.trans {cfg : Cfg} {C : Ctx} {D D1 D2 : Nat → Prop} {m m1 m2 : Nat → Loc} {o o1 o2 : Own} {w w1 w2 : World} (h : Ext cfg C D m o w D1 m1 o1 w1) (k : Ext cfg C D1 m1 o1 w1 D2 m2 o2 w2) :
    Ext cfg C D m o w D2 m2 o2 w2 := by
  refine ⟨k.inv, fun i hi => k.sub i (h.sub i hi), fun i hi => (k.same i (h.sub i hi)).trans (h.same i hi), fun i hi => ?_, Nat.le_trans h.grow k.grow, k.os.trans h.os, k.tape.trans h.tape, k.output.trans h.output, Nat.le_trans h.size k.size, fun b hb hn => ?_, k.leIds.trans h.leIds, fun i hi hni => ?_⟩
  · rcases k.new i hi with hi | hi
    · exact h.new i hi
    · have := h.grow; exact .inr (by omega)
  · rw [k.frame b (Nat.lt_of_lt_of_le hb h.size) (fun i hi ho => ?_), h.frame b hb hn]
    rw [own_isSome h.leIds i] at ho
    by_cases hd : D i
    · rw [h.same i hd]; exact hn i hd ho
    · rcases h.fresh i hi hd with hf | ⟨j, hj, hoj, e⟩
      · omega
      · rw [← e]; exact hn j hj hoj
  · by_cases hd : D1 i
    · rw [k.same i hd]; exact h.fresh i hd hni
    · rcases k.fresh i hi hd with hf | ⟨j, hj, hoj, e⟩
      · exact .inl (Nat.le_trans h.size hf)
      · rw [own_isSome h.leIds j] at hoj
        by_cases hdj : D j
        · exact .inr ⟨j, hdj, hoj, by rw [← e, h.same j hdj]⟩
        · rcases h.fresh j hj hdj with hf | ⟨j', hj', ho', e'⟩
          · exact .inl (by omega)
          · exact .inr ⟨j', hj', ho', e'.trans e⟩

/-- A new block of the world, named. -/
theorem Ext.alloc {cfg : Cfg} {C : Ctx} {D : Nat → Prop} {m : Nat → Loc} {o : Own} {w w' : World} (h : Inv cfg D m C o w) {x : AObj} {l : Loc}
    (hsz : w.heap.size ≤ w'.heap.size) (hk : ∀ k, k < w.heap.size → w'.heap[k]? = w.heap[k]?) (hl : w.heap.size ≤ l.blk) (hx : ObjRel D m l x w'.heap[l.blk]?)
    (ho : w'.os = w.os) (ht : w'.tape = w.tape) (hu : w'.output = w.output) :
    Ext cfg C D m o w (addD D (C.lo + o.n)) (upd m (C.lo + o.n) l) (o.push x) w' := by
  have blt : ∀ j, D j → live (get C o j) = true → (m j).blk < w.heap.size := fun j hj hlv => by
    have := h.obj j hj
    cases hb : w.heap[(m j).blk]? with
    | some b => exact (Array.getElem?_eq_some_iff.1 hb).1
    | none =>
      rw [hb] at this
      cases hx : get C o j with
      | dead => rw [hx] at hlv; cases hlv
      | cells cs rw g => rw [hx] at this; obtain ⟨_, _, _, e, _⟩ := this; cases e
      | map es => rw [hx] at this; obtain ⟨_, _, e, _⟩ := this; cases e
      | siter s p => rw [hx] at this; cases this.1
      | loop r => rw [hx] at this; obtain ⟨_, _, e, _⟩ := this; cases e
      | defs => rw [hx] at this; cases this
  have h' : Inv cfg D m C o w' := h.world fun j hj hlv => hk _ (blt j hj hlv)
  refine ⟨h'.push (fun j hj hlv => by have := blt j hj hlv; omega) hx, fun i hi => .inl hi, fun i hi => ?_, ?_, by simp [Own.push], ho, ht, hu, hsz, fun k hk' _ => hk k hk', rfl, ?_⟩
  · have := h.lt i hi; exact upd_ne (by omega)
  · rintro i (hi | rfl)
    · exact .inl hi
    · exact .inr (Nat.le_refl _)
  · rintro i (hi | rfl) hn
    · exact absurd hi hn
    · rw [upd_eq]; exact .inl hl

/-- A block that may be written, turned. -/
theorem Ext.put {cfg : Cfg} {C : Ctx} {D : Nat → Prop} {m : Nat → Loc} {o : Own} {w w' : World} (h : Inv cfg D m C o w) {id : Nat} {x y : AObj} (hd : D id) (ho : own? C o id = some y) (hy : rwO y = true)
    (hsz : w.heap.size ≤ w'.heap.size) (hw : ∀ k, k ≠ (m id).blk → w'.heap[k]? = w.heap[k]?) (hx : ObjRel D m (m id) x w'.heap[(m id).blk]?)
    (hos : w'.os = w.os) (ht : w'.tape = w.tape) (hu : w'.output = w.output) : Ext cfg C D m o w D m (putO C o id x) w' :=
  ⟨h.put hd ho hy hw hx, fun _ hi => hi, fun _ _ => rfl, fun _ hi => .inl hi, Nat.le_of_eq put_n.symm, hos, ht, hu, hsz, fun k _ hn => hw k (fun e => hn id hd (by rw [ho]; rfl) e.symm), put_le, fun i hi hn => absurd hi hn⟩

def marksOf (m : Nat → Loc) (ds : List Nat) : List Deferred := ds.map fun d => { target := .collected (m d).blk, args := #[] }
theorem marksOf_same {D : Nat → Prop} {m m' : Nat → Loc} {ds : List Nat} (h : ∀ d ∈ ds, D d) (hs : ∀ i, D i → m' i = m i) : marksOf m' ds = marksOf m ds :=
  List.map_congr_left fun d hd => by rw [hs d (h d hd)]
/-- The round's record. -/
def roB (m : Nat → Loc) (ro : Option Nat) : Option Nat := ro.map fun i => (m i).blk
theorem roB_same {D : Nat → Prop} {m m' : Nat → Loc} {ro : Option Nat} (h : ∀ i, ro = some i → D i) (hs : ∀ i, D i → m' i = m i) : roB m' ro = roB m ro := by
  cases ro with
  | none => rfl
  | some i => simp [roB, hs i (h i rfl)]
/-- Temporaries. -/
structure TR (D : Nat → Prop) (m : Nat → Loc) (st : St) (a : Act) : Prop where
  size : a.tmps.size = st.tn
  at' : ∀ t, a.tmps.getD t undef = conc m (st.ts.get t)
  okt : ∀ t, okV D m (st.ts.get t)
  defers : a.defers = marksOf m st.ds
  dsD : ∀ d ∈ st.ds, D d
  roD : ∀ i, st.ro = some i → D i
theorem TR.mono {D D' : Nat → Prop} {m m' : Nat → Loc} {st : St} {a : Act} (h : TR D m st a) (hd : ∀ i, D i → D' i) (hs : ∀ i, D i → m' i = m i) : TR D' m' st a :=
  ⟨h.size, fun t => by rw [h.at' t, conc_same (h.okt t) hs], fun t => (h.okt t).mono hd hs, by rw [marksOf_same h.dsD hs]; exact h.defers, fun d hm => hd d (h.dsD d hm), fun i hi => hd i (h.roD i hi)⟩
theorem TR.put {D : Nat → Prop} {m : Nat → Loc} {st st' : St} {a : Act} (h : TR D m st a) {v : AV} {o : Own} {dst : Option Tmp} (hp : putA st v o dst = some st') (hv : okV D m v) :
    TR D m st' (a.put dst (conc m v)) ∧ st'.o = o ∧ st'.ds = st.ds ∧ st'.ro = st.ro := by
  cases dst with
  | none =>
    simp only [putA, Option.some.injEq] at hp
    subst hp
    exact ⟨⟨h.size, h.at', h.okt, h.defers, h.dsD, h.roD⟩, rfl, rfl, rfl⟩
  | some d =>
    simp only [putA, ok_some, Option.some.injEq, Bool.and_eq_true] at hp
    obtain ⟨⟨h1, h2⟩, hp⟩ := hp
    rw [natLt_iff] at h1 h2
    subst hp
    have hd : d < 2 ^ 20 - 1 := Nat.lt_of_lt_of_le h2 (by decide)
    refine ⟨⟨by simp [Act.put, h.size], fun t => ?_, fun t => ?_, h.defers, h.dsD, h.roD⟩, rfl, rfl, rfl⟩
    · simp only [Act.put]
      rw [Ts.get_set 20 _ _ _ _ hd]
      have := h.at' t
      have hs := h.size
      by_cases e : t = d
      · subst e
        rw [if_pos rfl]
        simp [Array.getD, hs, h1]
      · rw [if_neg e, ← this]
        simp only [Array.getD, Array.size_setIfInBounds]
        split
        · rw [Array.getInternal_eq_getElem, Array.getInternal_eq_getElem, Array.getElem_setIfInBounds_ne (h := fun e' => e e'.symm)]
        · rfl
    · simp only
      rw [Ts.get_set 20 _ _ _ _ hd]
      split
      · exact hv
      · exact h.okt t

/- constants -/
theorem absS_conc {m : Nat → Loc} {x : Value} {v : AV} (h : absS x = some v) : conc m v = x ∧ idsA v = [] := by
  unfold absS at h
  split at h <;> first | (cases h; simp [conc, idsA]; done) | (cases h; done) | skip
  all_goals (cases h; simp [conc, idsA])
theorem absL_conc {m : Nat → Loc} : ∀ {xs : List Value} {vs : List AV}, absL xs = some vs → concL m vs = xs ∧ idsL vs = []
  | [], vs, h => by cases h; simp [concL, idsL]
  | x :: xs, vs, h => by
    simp only [absL, ob_some, Option.some.injEq] at h
    obtain ⟨a, ha, as, has, rfl⟩ := h
    obtain ⟨h1, h2⟩ := absS_conc (m := m) ha
    obtain ⟨h3, h4⟩ := absL_conc (m := m) has
    simp [concL, idsL, h1, h2, h3, h4]
theorem absV_conc {m : Nat → Loc} {x : Value} {v : AV} (h : absV x = some v) : conc m v = x ∧ idsA v = [] := by
  unfold absV at h
  split at h
  · simp only [ob_some, Option.some.injEq] at h
    obtain ⟨as, has, rfl⟩ := h
    obtain ⟨h1, h2⟩ := absL_conc (m := m) has
    simp [conc, idsA, h1, h2]
  · exact absS_conc h
theorem evalA_conc {cfg : Cfg} {D : Nat → Prop} {m : Nat → Loc} {C : Ctx} {o : Own} {w : World} {st : St} {a : Act} (hi : Inv cfg D m C o w) (ht : TR D m st a) {x : Operand} {v : AV} (h : evalA cfg.G st.ts x = some v) :
    a.eval x = conc m v ∧ okV D m v := by
  cases x with
  | tmp t => cases h; exact ⟨ht.at' t, ht.okt t⟩
  | const c => obtain ⟨h1, h2⟩ := absV_conc (m := m) h; exact ⟨h1.symm, okV_none h2⟩
  | global g =>
    simp only [evalA, ok_some, Option.some.injEq, natLt_iff] at h
    obtain ⟨hg, rfl⟩ := h
    obtain ⟨a1, a2, a3⟩ := hi.glob g hg
    refine ⟨by simp [Act.eval, conc, a2, a3], fun i hi => ?_⟩
    simp only [idsA, List.mem_singleton] at hi
    subst hi; exact ⟨a1, Nat.zero_le _⟩
  | func f => cases h; exact ⟨by simp [Act.eval, conc, concL], fun i hi => by simp [idsA, idsL] at hi⟩
end Go.Ev
