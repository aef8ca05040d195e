/- All that is known of the seat's program. -/
import Derived.Test.YtafekjglclnegaaGreatDoorEw43
set_option linter.all false
namespace Go.Ev
open Go Go.Proofs

theorem orc_ok : CallOK Tryz.prog cfg True fun C f args o => cfg.orc f C args o := by
  intro C f args o r h D m w hi hok
  have h : orc f C args o = some r := h
  have wk : ∀ {f : FuncId}, (CallS Tryz.prog f (concL m args).toArray w fun V w' => ∃ D' m', V = conc m' r.1 ∧ okV D' m' r.1 ∧ Ext cfg C D m o w D' m' r.2 w' ∧ (namesAt args (cfg.lend f) = [] → Mute D w D' m' w')) →
      CallS Tryz.prog f (concL m args).toArray w fun V w' => ∃ D' m', V = conc m' r.1 ∧ okV D' m' r.1 ∧ Ext cfg C D m o w D' m' r.2 w' ∧ (True → namesAt args (cfg.lend f) = [] → Mute D w D' m' w') :=
    fun h => h.mono fun V w' ⟨D', m', h1, h2, h3, h4⟩ => ⟨D', m', h1, h2, h3, fun _ => h4⟩
  unfold orc at h
  by_cases h1 : f = 295
  · subst h1
    simp only [beqT (rfl : (295 : Nat) = 295), cond_true] at h
    exact wk (add_ok h hi)
  rw [beqF h1, cond_false] at h
  by_cases h2 : f = 323
  · subst h2
    simp only [beqT (rfl : (323 : Nat) = 323), cond_true] at h
    exact wk (ixb_ok h hi)
  rw [beqF h2, cond_false] at h
  by_cases h3 : f = 338
  · subst h3
    simp only [beqT (rfl : (338 : Nat) = 338), cond_true] at h
    exact wk (cln_ok h hi)
  rw [beqF h3, cond_false] at h
  cases h
theorem orc_foot : CallFoot cfg fun C f args o => cfg.orc f C args o := by
  intro C f args o r h hl
  have h : orc f C args o = some r := h
  unfold orc at h
  cases h1 : Nat.beq f 295 <;> rw [h1] at h
  · cases h2 : Nat.beq f 323 <;> rw [h2] at h
    · cases h3 : Nat.beq f 338 <;> rw [h3] at h
      · cases h
      · simp only [cond_false, cond_true] at h
        unfold cln at h
        split at h
        · simp only [ok_some, Option.some.injEq] at h
          obtain ⟨_, rfl⟩ := h; exact .refl hl
        · cases h
    · simp only [cond_false, cond_true] at h
      unfold ixb at h
      split at h
      · simp only [ok_some, Option.some.injEq] at h
        obtain ⟨_, rfl⟩ := h; exact .refl hl
      · cases h
  · simp only [cond_true] at h
    unfold add at h
    split at h
    · simp only [ok_some, addO, Option.some.injEq] at h
      obtain ⟨_, _, rfl⟩ := h; exact .refl hl
    · cases h
theorem good0 : Good Tryz.prog tab cfg := ⟨tab_ok, by kernel_rfl, cfg_ok, orc_ok, orc_foot⟩
end Go.Ev
