/- A drawn region: what holds when some of its operations have run. -/
import Derived.Test.YtafekjglclnegaaGreatDoorEw20
set_option linter.all false
namespace Go.Ev
open Go Go.RowKit

theorem ObjRel.join {D1 D2 : Nat → Prop} {m : Nat → Loc} {l : Loc} {x : AObj} {b b' : Option Obj} (h1 : ObjRel D1 m l x b) (h2 : ObjRel D2 m l x b') : ObjRel D1 m l x b' := by
  cases x with
  | dead => trivial
  | cells cs rw g =>
    obtain ⟨c, e, fz, _, hc⟩ := h1
    obtain ⟨c', e', fz', hb, hc'⟩ := h2
    exact ⟨c', e', fz', hb, hc'.at', hc.okc, hc'.free, hc'.grow⟩
  | map es =>
    obtain ⟨_, _, _, _, h3⟩ := h1
    obtain ⟨en, ck, hb, h4, _⟩ := h2
    exact ⟨en, ck, hb, h4, h3⟩
  | siter s pos => exact h2
  | loop r =>
    obtain ⟨_, _, _, h3⟩ := h1
    obtain ⟨fn, tmps, hb, h4⟩ := h2
    exact ⟨fn, tmps, hb, h4.size, h4.at', h3.okt, h3.defs⟩
  | defs => exact h2
theorem ObjRel.in_heap {D : Nat → Prop} {m : Nat → Loc} {l : Loc} {x : AObj} {w : World} (h : ObjRel D m l x w.heap[l.blk]?) (hl : live x = true) : l.blk < w.heap.size := by
  cases hb : w.heap[l.blk]? with
  | some b => exact (Array.getElem?_eq_some_iff.1 hb).1
  | none =>
    rw [hb] at h
    cases x with
    | dead => cases hl
    | cells cs rw g => obtain ⟨_, _, _, e, _⟩ := h; cases e
    | map es => obtain ⟨_, _, e, _⟩ := h; cases e
    | siter s p => cases h.1
    | loop r => obtain ⟨_, _, e, _⟩ := h; cases e
    | defs => cases h

/-- What has happened to names, blocks and the world since. -/
structure Mv (C : Ctx) (D : Nat → Prop) (m : Nat → Loc) (o : Own) (w : World) (D' : Nat → Prop) (m' : Nat → Loc) (w' : World) : Prop where
  sub : ∀ i, D i → D' i
  same : ∀ i, D i → m' i = m i
  new : ∀ i, D' i → D i ∨ C.lo + o.n ≤ i
  os : w'.os = w.os
  tape : w'.tape = w.tape
  output : w'.output = w.output
  size : w.heap.size ≤ w'.heap.size
  frame : ∀ k, k < w.heap.size → (∀ i, D i → (own? C o i).isSome = true → (m i).blk ≠ k) → w'.heap[k]? = w.heap[k]?
  fresh : ∀ i, D' i → ¬ D i → w.heap.size ≤ (m' i).blk ∨ ∃ j, D j ∧ (own? C o j).isSome = true ∧ (m j).blk = (m' i).blk
section
variable {C : Ctx} {D0 D D' : Nat → Prop} {m0 m m' : Nat → Loc} {o0 : Own} {w0 w w' : World}
theorem Mv.mute (h : Mv C D0 m0 o0 w0 D m w) (hs : ∀ i, D i → D' i) (hm : ∀ i, D i → m' i = m i) (hn : ∀ i, D' i → D i ∨ C.lo + o0.n ≤ i) (hos : w'.os = w.os) (ht : w'.tape = w.tape) (hu : w'.output = w.output) (hz : w.heap.size ≤ w'.heap.size)
    (hf : ∀ k, k < w.heap.size → w'.heap[k]? = w.heap[k]?) (hfr : ∀ i, D' i → ¬ D i → w.heap.size ≤ (m' i).blk) : Mv C D0 m0 o0 w0 D' m' w' := by
  refine ⟨fun i hi => hs i (h.sub i hi), fun i hi => (hm i (h.sub i hi)).trans (h.same i hi), fun i hi => ?_, hos.trans h.os, ht.trans h.tape, hu.trans h.output, Nat.le_trans h.size hz, fun k hk hn => ?_, fun i hi hni => ?_⟩
  · rcases hn i hi with hi | hi
    · exact h.new i hi
    · exact .inr hi
  · rw [hf k (Nat.lt_of_lt_of_le hk h.size), h.frame k hk hn]
  · by_cases hd : D i
    · rw [hm i hd]; exact h.fresh i hd hni
    · exact .inl (Nat.le_trans h.size (hfr i hi hd))
theorem Mv.ext {cfg : Cfg} {o o' : Own} (h : Mv C D0 m0 o0 w0 D m w) (k : Ext cfg C D m o w D' m' o' w') (hle : o.le.map (·.1) = o0.le.map (·.1)) (hn : o0.n ≤ o.n) : Mv C D0 m0 o0 w0 D' m' w' := by
  refine ⟨fun i hi => k.sub i (h.sub i hi), fun i hi => (k.same i (h.sub i hi)).trans (h.same i hi), fun i hi => ?_, k.os.trans h.os, k.tape.trans h.tape, k.output.trans h.output, Nat.le_trans h.size k.size, fun b hb hn => ?_, fun i hi hni => ?_⟩
  · rcases k.new i hi with hi | hi
    · exact h.new i hi
    · exact .inr (by omega)
  · rw [k.frame b (Nat.lt_of_lt_of_le hb h.size) (fun i hi ho => ?_), h.frame b hb hn]
    rw [own_isSome hle i] at ho
    by_cases hd : D0 i
    · rw [h.same i hd]; exact hn i hd ho
    · rcases h.fresh i hi hd with hf | ⟨j, hj, hoj, e⟩
      · omega
      · rw [← e]; exact hn j hj hoj
  · by_cases hd : D i
    · rw [k.same i hd]; exact h.fresh i hd hni
    · rcases k.fresh i hi hd with hf | ⟨j, hj, hoj, e⟩
      · exact .inl (Nat.le_trans h.size hf)
      · rw [own_isSome hle j] at hoj
        by_cases hdj : D0 j
        · exact .inr ⟨j, hdj, hoj, by rw [← e, h.same j hdj]⟩
        · rcases h.fresh j hj hdj with hf | ⟨j', hj', ho', e'⟩
          · exact .inl (by omega)
          · exact .inr ⟨j', hj', ho', e'.trans e⟩
end

/-- The names that are there, as far as operation k may know them. -/
def Bel (C : Ctx) (S : Nat → St) (D : Nat → Prop) (k i : Nat) : Prop := D i ∧ i < C.lo + (S k).o.n
def CompT (ops : Array Oper) (E : Nat → Prop) (t k : Nat) : Prop := ∀ j, j < ops.size → dstAt ops j = some t → (E j ↔ j < k)
def CompB (cfg : Cfg) (ops : Array Oper) (S : Nat → St) (E : Nat → Prop) (i k : Nat) : Prop := ∀ j, j < ops.size → Wr cfg ops S j i → (E j ↔ j < k)
def TmpI (C : Ctx) (ops : Array Oper) (S : Nat → St) (E D : Nat → Prop) (m : Nat → Loc) (a : Act) : Prop :=
  ∀ t k, k ≤ ops.size → CompT ops E t k → a.tmps.getD t undef = conc m ((S k).ts.get t) ∧ okV (Bel C S D k) m ((S k).ts.get t)

structure DI (cfg : Cfg) (C : Ctx) (ops : Array Oper) (S : Nat → St) (D0 : Nat → Prop) (m0 : Nat → Loc) (w0 : World) (E D : Nat → Prop) (m : Nat → Loc) (a : Act) (w : World) : Prop where
  sz : a.tmps.size = (S 0).tn
  defers : a.defers = marksOf m0 (S 0).ds
  tmp : TmpI C ops S E D m a
  obj : ∀ i k, k ≤ ops.size → D i → i < C.lo + (S k).o.n → CompB cfg ops S E i k → ObjRel (Bel C S D k) m (m i) (get C (S k).o i) w.heap[(m i).blk]?
  inj : ∀ i j k, k ≤ ops.size → D i → D j → i < C.lo + (S k).o.n → j < C.lo + (S k).o.n → CompB cfg ops S E i k → CompB cfg ops S E j k → i ≠ j →
    live (get C (S k).o i) = true → rwO (get C (S k).o j) = true → (m i).blk ≠ (m j).blk
  orig : ∀ i, D i → i < C.lo + (S 0).o.n ∨ ∃ e, E e ∧ e < ops.size ∧ C.lo + (S e).o.n ≤ i ∧ i < C.lo + (S (e + 1)).o.n
  wr : ∀ j i, E j → j < ops.size → Wr cfg ops S j i → D i
  glob : ∀ g, g < cfg.G → D g ∧ (m g).blk = g ∧ (m g).base = 0
  root : ∀ id, id < cfg.root.n → D id ∧ get C (S 0).o id = cfg.root.at id
  mv : Mv C D0 m0 (S 0).o w0 D m w

theorem put_getD (a : Act) (dst : Option Tmp) (v : Value) (h : ∀ d, dst = some d → d < a.tmps.size) (t : Nat) : (a.put dst v).tmps.getD t undef = if dst = some t then v else a.tmps.getD t undef := by
  cases dst with
  | none => simp [Act.put]
  | some d =>
    have hd := h d rfl
    simp only [Act.put]
    by_cases e : t = d
    · subst e; simp [Array.getD, hd]
    · rw [if_neg (by simpa using Ne.symm e)]
      simp only [Array.getD, Array.size_setIfInBounds]
      split
      · rw [Array.getInternal_eq_getElem, Array.getInternal_eq_getElem, Array.getElem_setIfInBounds_ne (h := fun e' => e e'.symm)]
      · rfl

section
variable {T : Tab} {cfg : Cfg} {call : Ctx → FuncId → List AV → Own → Option (AV × Own)} {C : Ctx} {ops : Array Oper} {S : Nat → St} {D0 : Nat → Prop} {m0 : Nat → Loc} {w0 : World} {E D D' : Nat → Prop} {m m' : Nat → Loc} {a : Act} {w w' : World} {e : Nat}
theorem tmp_step (hR : Row T cfg call C ops S) (hc : CallFoot cfg call) (he : e < ops.size) (hE : ¬ E e) (h : TmpI C ops S E D m a) (ho : ∀ d, dstAt ops e = some d → ∀ j, j < ops.size → dstAt ops j = some d → j ≠ e → (E j ↔ j < e))
    (hs : ∀ i, D i → D' i) (hm : ∀ i, D i → m' i = m i) {v : AV} (hv : okV (Bel C S D' (e + 1)) m' v) (hg : ∀ d, dstAt ops e = some d → (S (e + 1)).ts.get d = v) (hd : ∀ d, dstAt ops e = some d → d < a.tmps.size) :
    TmpI C ops S (fun j => E j ∨ j = e) D' m' (a.put (dstAt ops e) (conc m' v)) := by
  intro t k hk hct
  rw [put_getD a _ _ hd]
  by_cases ht : dstAt ops e = some t
  · rw [if_pos ht]
    have hek : e < k := (hct e he ht).1 (.inr rfl)
    have hts : (S k).ts.get t = v := by
      rw [← hg t ht]
      refine hR.ts' (by omega) hk fun j h1 h2 hj => ?_
      have h3 := (hct j (by omega) hj).2 h2
      have h4 := ho t ht j (by omega) hj (by omega)
      rcases h3 with h3 | h3
      · have := h4.1 h3; omega
      · omega
    rw [hts]
    refine ⟨rfl, hv.mono (fun i hi => ⟨hi.1, ?_⟩) fun _ _ => rfl⟩
    have := hR.mono' hc (k := e + 1) (k' := k) (by omega) hk
    have := hi.2
    omega
  · rw [if_neg ht]
    have hct' : CompT ops E t k := fun j hj hjt => by
      have := hct j hj hjt
      have hne : j ≠ e := fun e' => ht (e' ▸ hjt)
      simpa [hne] using this
    obtain ⟨h1, h2⟩ := h t k hk hct'
    refine ⟨by rw [h1, conc_same h2 fun i hi => hm i hi.1], h2.mono (fun i hi => ⟨hs i hi.1, hi.2⟩) fun i hi => hm i hi.1⟩
end
end Go.Ev
