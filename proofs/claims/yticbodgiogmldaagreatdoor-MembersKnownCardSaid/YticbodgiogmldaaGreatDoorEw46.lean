/- The world that a law begins in: the level of the names that are there from the start. All that is known of the seat's program. -/
import Derived.Test.YticbodgiogmldaaGreatDoorEw32
section
set_option linter.all false
namespace Go.Ev
open Go Go.Proofs

def st0 : List Int := [4, 1, 100, -1, 400, 1]
def ln0 : List Int := [31,28,31,30,31,30,31,31,30,31,30,31]
def sp0 : List Int := [3,3, 6,3, 9,3, 12,3, 3,3, 6,3, 9,3, 12,3, 9,3, 12,3, 3,3, 6,3, 1,3, 4,3, 7,3, 10,3, 1,4, 5,4, 9,4, 1,6, 7,6]
/-- What the tables of a world hold. -/
structure RootW (w : World) : Prop where
  steps : ∃ b o, w.cell? ⟨5, 0, none⟩ = some (.slice (some ⟨b, o, none⟩) 3 3) ∧ ∀ i v, st0[i]? = some v → w.cell? ⟨b, o + i, none⟩ = some (.int .i64 v)
  lens : ∀ i v, ln0[i]? = some v → w.cell? ⟨1, i, none⟩ = some (.int .i64 v)
  spans : ∀ i v, sp0[i]? = some v → w.cell? ⟨2, i, none⟩ = some (.int .i64 v)
  errS : ∃ b o, w.cell? ⟨3, 0, none⟩ = some (.iface 319 (.pointer (some ⟨b, o, none⟩)))
  errR : ∃ b o, w.cell? ⟨4, 0, none⟩ = some (.iface 319 (.pointer (some ⟨b, o, none⟩)))
  sizS : ∀ c e fz, w.heap[3]? = some (.cells c e fz) → c.size = 1
  sizR : ∀ c e fz, w.heap[4]? = some (.cells c e fz) → c.size = 1
theorem cell_row {w : World} {b : Nat} {v : Value} {i : Nat} (h : w.cell? ⟨b, i, none⟩ = some v) : ∃ c e fz, w.heap[b]? = some (.cells c e fz) ∧ c[i]? = some v := by
  unfold World.cell? at h
  cases hb : w.heap[b]? with
  | none => simp [hb] at h
  | some x =>
    cases x <;> simp [hb] at h
    exact ⟨_, _, _, rfl, h⟩
theorem rel_of_cells {D : Nat → Prop} {m : Nat → Loc} {l : Loc} {w : World} {cs : List AV} (h0 : 0 < cs.length) (hok : okL D m cs) (h : ∀ i v, cs[i]? = some v → w.cell? ⟨l.blk, l.base + i, none⟩ = some (conc m v)) : ObjRel D m l (.cells cs false none) w.heap[l.blk]? := by
  obtain ⟨c, e, fz, hb, _⟩ := cell_row (h 0 (cs[0]'h0) (by simp [h0]))
  refine ⟨c, e, fz, hb, ⟨fun i v hv => ?_, hok, fun hf => (by cases hf), fun s hs => (by cases hs)⟩⟩
  obtain ⟨c', e', fz', hb', hc⟩ := cell_row (h i v hv)
  rw [hb] at hb'
  cases hb'
  exact hc
theorem okL_ints {D : Nat → Prop} {m : Nat → Loc} {l : List Int} : okL D m (l.map i64) := okL_iff.2 fun v hv => by
  obtain ⟨n, _, rfl⟩ := List.mem_map.1 hv
  exact okV_none (by simp [i64, idsA])
theorem root_inv {w : World} (h : RootW w) : ∃ m, Inv cfg (fun id => id < 14) m C0 ⟨0, [], []⟩ w := by
  obtain ⟨b, o, hs1, hs2⟩ := h.steps
  obtain ⟨bs, os, hS⟩ := h.errS
  obtain ⟨br, orr, hR⟩ := h.errR
  let m : Nat → Loc := fun id => if id < 11 then ⟨id, 0, 1⟩ else if id = 11 then ⟨b, o, 0⟩ else if id = 12 then ⟨bs, os, 0⟩ else ⟨br, orr, 0⟩
  have hg : ∀ id, id < 14 → get C0 ⟨0, [], []⟩ id = g0.at id := fun id hid => by
    rw [get, getB]
    simp only [C0]
    rw [bleF (by omega : ¬ 14 ≤ id)]
    simp only [cond_false, leAt, getB]
    rw [ble_iff.2 (Nat.zero_le _), cond_true, Nat.sub_zero]
  have ints : ∀ (l : List Int) (q : Loc), 0 < l.length → (∀ i v, l[i]? = some v → w.cell? ⟨q.blk, q.base + i, none⟩ = some (.int .i64 v)) → ObjRel (fun id => id < 14) m q (.cells (l.map i64) false none) w.heap[q.blk]? := by
    intro l q h0 hl
    refine rel_of_cells (by simpa using h0) okL_ints fun i v hv => ?_
    rw [List.getElem?_map] at hv
    obtain ⟨n, hn, rfl⟩ := Option.map_eq_some_iff.1 hv
    rw [hl i n hn]
    simp [i64, conc]
  have one1 : ∀ (x : AV) (q : Loc), okV (fun id => id < 14) m x → w.cell? ⟨q.blk, q.base, none⟩ = some (conc m x) → ObjRel (fun id => id < 14) m q (.cells [x] false none) w.heap[q.blk]? := by
    intro x q hx hc
    refine rel_of_cells (by simp) (okL_cons.2 ⟨hx, okL_nil⟩) fun i v hv => ?_
    cases i with
    | zero => simp only [List.getElem?_cons_zero, Option.some.injEq] at hv; subst hv; exact hc
    | succ i => simp at hv
  have one2 : ∀ (x : AV) (q : Loc), okV (fun id => id < 14) m x → w.cell? ⟨q.blk, q.base, none⟩ = some (conc m x) → q.base = 0 → q.cap = 1 → (∀ c e fz, w.heap[q.blk]? = some (.cells c e fz) → c.size = 1) → ObjRel (fun id => id < 14) m q (.cells [x] false (some 1)) w.heap[q.blk]? := by
    intro x q hx hc hb hcap hs
    obtain ⟨c, e, fz, hh, hr⟩ := one1 x q hx hc
    exact ⟨c, e, fz, hh, hr.at', hr.okc, hr.free, fun s h => by cases h; exact ⟨Nat.zero_lt_one, hb, by rw [hs c e fz hh, hcap]⟩⟩
  have nrw : ∀ id, id < 14 → rwO (g0.at id) = false := by decide
  refine ⟨m, fun id hid => ?_, fun i j hi hj _ _ hr => ?_, fun id hid => ?_, fun g hgl => ?_, fun id hid => ⟨hid, hg id hid⟩, fun id hid => (by cases hid), Nat.le_refl _, rfl⟩
  · rw [hg id hid]
    have : id = 0 ∨ id = 1 ∨ id = 2 ∨ id = 3 ∨ id = 4 ∨ id = 5 ∨ id = 6 ∨ id = 7 ∨ id = 8 ∨ id = 9 ∨ id = 10 ∨ id = 11 ∨ id = 12 ∨ id = 13 := by omega
    rcases this with rfl | rfl | rfl | rfl | rfl | rfl | rfl | rfl | rfl | rfl | rfl | rfl | rfl | rfl
    · trivial
    · exact ints ln0 (m 1) (by decide) fun i v hv => by simpa [m] using h.lens i v hv
    · exact ints sp0 (m 2) (by decide) fun i v hv => by simpa [m] using h.spans i v hv
    · exact one2 (.iface 319 (.ptr 12 0)) (m 3) (fun i hi => by simp [idsA] at hi; subst hi; exact ⟨by decide, Nat.zero_le _⟩) (by simpa [m, conc] using hS) rfl rfl h.sizS
    · exact one2 (.iface 319 (.ptr 13 0)) (m 4) (fun i hi => by simp [idsA] at hi; subst hi; exact ⟨by decide, Nat.zero_le _⟩) (by simpa [m, conc] using hR) rfl rfl h.sizR
    · exact one1 (.slice 11 0 3 (.known 3)) (m 5) (fun i hi => by simp [idsA, needC] at hi; subst hi; exact ⟨by decide, Nat.zero_le _⟩) (by simpa [m, conc, capC] using hs1)
    · trivial
    · trivial
    · trivial
    · trivial
    · trivial
    · exact ints st0 (m 11) (by decide) fun i v hv => by simpa [m] using hs2 i v hv
    · trivial
    · trivial
  · rw [hg j hj, nrw j hj] at hr; cases hr
  · have : C0.lo + (⟨0, [], []⟩ : Own).n = 14 := rfl
    omega
  · have hgl' : g < 11 := hgl
    exact ⟨by omega, by simp [m, hgl'], by simp [m, hgl'], by simp [m, hgl']⟩
theorem cfg_ok : CfgOK cfg := ⟨by decide, by decide, by decide⟩
end Go.Ev
end
section
set_option linter.all false
namespace Go.Ev
open Go Go.Proofs

theorem orc_ok : CallOK Tryz.prog cfg True fun C f args o => cfg.orc f C args o := by
  intro C f args o r h D m w hi hok
  have h : orc f C args o = some r := h
  have wk : ∀ {f : FuncId}, (CallS Tryz.prog f (concL m args).toArray w fun V w' => ∃ D' m', V = conc m' r.1 ∧ okV D' m' r.1 ∧ Ext cfg C D m o w D' m' r.2 w' ∧ (namesAt args (cfg.lend f) = [] → Mute D w D' m' w')) →
      CallS Tryz.prog f (concL m args).toArray w fun V w' => ∃ D' m', V = conc m' r.1 ∧ okV D' m' r.1 ∧ Ext cfg C D m o w D' m' r.2 w' ∧ (True → namesAt args (cfg.lend f) = [] → Mute D w D' m' w') :=
    fun h => h.mono fun V w' ⟨D', m', h1, h2, h3, h4⟩ => ⟨D', m', h1, h2, h3, fun _ => h4⟩
  unfold orc at h
  by_cases h1 : f = 190
  · subst h1
    simp only [beqT (rfl : (190 : Nat) = 190), cond_true] at h
    exact wk (add_ok h hi)
  rw [beqF h1, cond_false] at h
  by_cases h2 : f = 251
  · subst h2
    simp only [beqT (rfl : (251 : Nat) = 251), cond_true] at h
    exact wk (ixb_ok h hi)
  rw [beqF h2, cond_false] at h
  by_cases h3 : f = 256
  · subst h3
    simp only [beqT (rfl : (256 : Nat) = 256), cond_true] at h
    exact wk (cln_ok h hi)
  rw [beqF h3, cond_false] at h
  cases h
theorem orc_foot : CallFoot cfg fun C f args o => cfg.orc f C args o := by
  intro C f args o r h hl
  have h : orc f C args o = some r := h
  unfold orc at h
  cases h1 : Nat.beq f 190 <;> rw [h1] at h
  · cases h2 : Nat.beq f 251 <;> rw [h2] at h
    · cases h3 : Nat.beq f 256 <;> rw [h3] at h
      · cases h
      · simp only [cond_false, cond_true] at h
        unfold cln at h
        split at h
        · simp only [ok_some, Option.some.injEq] at h
          obtain ⟨_, rfl⟩ := h; exact .refl hl
        · cases h
    · simp only [cond_false, cond_true] at h
      unfold ixb at h
      split at h
      · simp only [ok_some, Option.some.injEq] at h
        obtain ⟨_, rfl⟩ := h; exact .refl hl
      · cases h
  · simp only [cond_true] at h
    unfold add at h
    split at h
    · simp only [ok_some, addO, Option.some.injEq] at h
      obtain ⟨_, _, rfl⟩ := h; exact .refl hl
    · cases h
theorem good0 : Good Tryz.prog tab cfg := ⟨tab_ok, by kernel_rfl, cfg_ok, orc_ok, orc_foot⟩
end Go.Ev
end
