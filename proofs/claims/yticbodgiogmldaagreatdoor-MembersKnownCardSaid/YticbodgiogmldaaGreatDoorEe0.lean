/- Which years from 0 on have a day; known functions beside others. -/
import Derived.Test.YticbodgiogmldaaGreatDoorEb0
set_option linter.all false
namespace Go.Ev
open Go Go.Proofs
def lpY (y : Int) : Int := bif intEq (y % 4) 0 && (!(intEq (y % 100) 0) || intEq (y % 400) 0) then 1 else 0
def stY (y : Int) : Int := y / 400 * 146097 + 365 * (y - y / 400 * 400) + (y - y / 400 * 400 + 3) / 4 - (y - y / 400 * 400 + 99) / 100 + (y - y / 400 * 400 + 399) / 400
def enY (y : Int) : Int := stY y + 364 + lpY y
def dayIn (d y : Int) : Bool := intLe (stY y) d && intLe d (enY y)
theorem lpY_01 (y : Int) : 0 ≤ lpY y ∧ lpY y ≤ 1 := by
  unfold lpY
  cases intEq (y % 4) 0 && (!(intEq (y % 100) 0) || intEq (y % 400) 0) <;> decide
theorem stY_bd {y : Int} (h0 : 0 ≤ y) (h1 : y ≤ 9999) : 0 ≤ stY y ∧ enY y ≤ 3652424 := by
  have := lpY_01 y
  unfold enY stY
  constructor
  · omega
  · by_cases h : y = 9999
    · subst h; decide
    · omega
def cntD (d : Int) : Nat → Nat
  | 0 => 0
  | n + 1 => cntD d n + (bif dayIn d (n : Int) then 1 else 0)
theorem cntD_le (d : Int) : ∀ n, cntD d n ≤ n
  | 0 => Nat.le_refl _
  | n + 1 => by
    have := cntD_le d n
    unfold cntD
    cases dayIn d (n : Int) <;> simp <;> omega
theorem cntD_mono (d : Int) {n : Nat} : ∀ {k : Nat}, cntD d n ≤ cntD d (n + k)
  | 0 => Nat.le_refl _
  | k + 1 => Nat.le_trans (cntD_mono d (k := k)) (by show _ ≤ cntD d (n + k) + _; omega)
theorem cntD_pos {d : Int} {y n : Nat} (h : y < n) (hy : dayIn d (y : Int) = true) : 0 < cntD d n := by
  have h1 : cntD d (y + 1) = cntD d y + 1 := by show cntD d y + _ = _; rw [hy]; rfl
  have h2 := cntD_mono d (n := y + 1) (k := n - (y + 1))
  rw [show y + 1 + (n - (y + 1)) = n by omega] at h2
  omega
theorem cntD_gap (d : Int) {n : Nat} : ∀ {k : Nat}, cntD d (n + k) ≤ cntD d n + k
  | 0 => Nat.le_refl _
  | k + 1 => by
    have := cntD_gap d (n := n) (k := k)
    show cntD d (n + k) + _ ≤ _
    cases dayIn d ((n + k : Nat) : Int) <;> simp <;> omega
theorem cntD_lt {d : Int} {y n : Nat} (h : y < n) (hy : dayIn d (y : Int) = false) : cntD d n < n := by
  have h1 : cntD d (y + 1) = cntD d y := by show cntD d y + _ = _; rw [hy]; rfl
  have h2 := cntD_gap d (n := y + 1) (k := n - (y + 1))
  rw [show y + 1 + (n - (y + 1)) = n by omega] at h2
  have := cntD_le d y
  omega
theorem cntD_zero {d : Int} : ∀ {n : Nat}, (∀ y : Nat, y < n → dayIn d (y : Int) = false) → cntD d n = 0
  | 0, _ => rfl
  | n + 1, h => by
    show cntD d n + _ = 0
    rw [cntD_zero fun y hy => h y (by omega), h n (by omega)]
    rfl
def ansD (d : Int) : Int := bif intLe 0 d && intLe d 3652424 then 2 else 1
def days11 : List Int := [-9223372036854775808, 9223372036854775807, 0, 5, 6, 7, -1, 305, 1000000, 3652424, 3652425]
theorem dayIn_f {d y : Int} (h : d < stY y ∨ enY y < d) : dayIn d y = false := by
  unfold dayIn
  rw [Bool.and_eq_false_iff, q_le_f, q_le_f]; exact h
theorem cntD_out {d : Int} (h : d < 0 ∨ 3652424 < d) : cntD d 10000 = 0 := cntD_zero fun y hy => dayIn_f (by
  have := stY_bd (y := (y : Int)) (by omega) (by omega)
  omega)
theorem cntD_in {d : Int} {y z : Nat} (hy : y < 10000) (hz : z < 10000) (h1 : dayIn d (y : Int) = true) (h2 : dayIn d (z : Int) = false) : 0 < cntD d 10000 ∧ cntD d 10000 < 10000 := ⟨cntD_pos hy h1, cntD_lt hz h2⟩
/-- What the count of the days of the chapter's examples says. -/
theorem ans_days {d : Int} (h : d ∈ days11) : (cntD d 10000 = 0 ∧ ansD d = 1) ∨ (0 < cntD d 10000 ∧ cntD d 10000 < 10000 ∧ ansD d = 2) := by
  have hin : ∀ (y z : Nat), y < 10000 → z < 10000 → dayIn d (y : Int) = true → dayIn d (z : Int) = false → ansD d = 2 → (cntD d 10000 = 0 ∧ ansD d = 1) ∨ (0 < cntD d 10000 ∧ cntD d 10000 < 10000 ∧ ansD d = 2) := fun y z hy hz h1 h2 h3 => by
    obtain ⟨a, b⟩ := cntD_in hy hz h1 h2
    exact .inr ⟨a, b, h3⟩
  simp only [days11, List.mem_cons, List.not_mem_nil, or_false] at h
  rcases h with rfl | rfl | rfl | rfl | rfl | rfl | rfl | rfl | rfl | rfl | rfl
  · exact .inl ⟨cntD_out (.inl (by decide)), by decide⟩
  · exact .inl ⟨cntD_out (.inr (by decide)), by decide⟩
  · exact hin 0 1 (by decide) (by decide) (by decide) (by decide) (by decide)
  · exact hin 0 1 (by decide) (by decide) (by decide) (by decide) (by decide)
  · exact hin 0 1 (by decide) (by decide) (by decide) (by decide) (by decide)
  · exact hin 0 1 (by decide) (by decide) (by decide) (by decide) (by decide)
  · exact .inl ⟨cntD_out (.inl (by decide)), by decide⟩
  · exact hin 0 1 (by decide) (by decide) (by decide) (by decide) (by decide)
  · exact hin 2737 1 (by decide) (by decide) (by decide) (by decide) (by decide)
  · exact hin 9999 1 (by decide) (by decide) (by decide) (by decide) (by decide)
  · exact .inl ⟨cntD_out (.inr (by decide)), by decide⟩
/-- Known functions, ahead of those that are known already. -/
def orElseO (a b : Option (AV × Own)) : Option (AV × Own) := match a with
  | some x => some x
  | none => b
def cfgX (cfg : Cfg) (S : Sums) : Cfg := ⟨cfg.G, cfg.lend, cfg.canon, fun f C args o => orElseO (runO (orcS S f C args o)) (cfg.orc f C args o), cfg.root⟩
theorem Good.sums {P : Program} {T : Tab} {cfg : Cfg} (g : Good P T cfg) {S : Sums} (hS : SumsOK P cfg S) : Good P T (cfgX cfg S) := by
  have gS := (Base.good ⟨g.tab, g.mixed, g.lv⟩ hS)
  refine ⟨g.tab, g.mixed, ⟨g.lv.loops, g.lv.G, g.lv.root⟩, fun C f args o r h D m w hi hok => ?_, fun C f args o r h hl => ?_⟩
  · have h : orElseO (runO (orcS S f C args o)) (cfg.orc f C args o) = some r := h
    cases hx : runO (orcS S f C args o) with
    | some x =>
      rw [hx] at h
      cases h
      exact (gS.orc C f args o r hx D m w (Inv.to (cfg := cfgX cfg S) (cfg' := cfgS cfg S) rfl rfl hi) hok).mono fun V w' ⟨D', m', h1, h2, h3, h4⟩ => ⟨D', m', h1, h2, Ext.to (cfg := cfgS cfg S) (cfg' := cfgX cfg S) rfl rfl h3, h4⟩
    | none =>
      rw [hx] at h
      exact (g.orc C f args o r h D m w (Inv.to (cfg := cfgX cfg S) (cfg' := cfg) rfl rfl hi) hok).mono fun V w' ⟨D', m', h1, h2, h3, h4⟩ => ⟨D', m', h1, h2, Ext.to (cfg := cfg) (cfg' := cfgX cfg S) rfl rfl h3, h4⟩
  · have h : orElseO (runO (orcS S f C args o)) (cfg.orc f C args o) = some r := h
    cases hx : runO (orcS S f C args o) with
    | some x =>
      rw [hx] at h
      cases h
      exact gS.foot C f args o r hx hl
    | none =>
      rw [hx] at h
      exact g.foot C f args o r h hl
end Go.Ev
