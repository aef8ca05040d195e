/- A drawn region: one more operation has run. -/
import Derived.Test.YtafekjglclnegaaGreatDoorEw21
set_option linter.all false
namespace Go.Ev
open Go Go.RowKit

section
variable {T : Tab} {cfg : Cfg} {call : Ctx → FuncId → List AV → Own → Option (AV × Own)} {C : Ctx} {ops : Array Oper} {S : Nat → St} {D0 : Nat → Prop} {m0 : Nat → Loc} {w0 : World} {E D D' : Nat → Prop} {m m' : Nat → Loc} {a : Act} {w w' : World} {e : Nat}

theorem wr_lt (hR : Row T cfg call C ops S) {j i : Nat} (hj : j < ops.size) (h : Wr cfg ops S j i) : i < C.lo + (S j).o.n := by
  obtain ⟨op, hop, h1 | h1⟩ := hR.step j hj
  · obtain ⟨hw, r, hr, hp, hb⟩ := h1
    have := h.1
    simp only [footAt, hop, hw, cond_true] at this
    exact hb i this
  · have := h.1
    simp only [footAt, hop, h1.1, cond_false] at this
    cases this

/-- An operation that turned no block that was there. -/
theorem DI.mute (hR : Row T cfg call C ops S) (hc : CallFoot cfg call) (h : DI cfg C ops S D0 m0 w0 E D m a w) (he : e < ops.size) (hE : ¬ E e) (hnw : ∀ i, ¬ Wr cfg ops S e i)
    (ho : ∀ d, dstAt ops e = some d → ∀ j, j < ops.size → dstAt ops j = some d → j ≠ e → (E j ↔ j < e))
    (hd : ∀ d, dstAt ops e = some d → d < (S 0).tn)
    (h1 : ∀ i, Bel C S D e i → D' i) (h2 : ∀ i, Bel C S D e i → m' i = m i) (h3 : ∀ i, D' i → Bel C S D e i ∨ C.lo + (S e).o.n ≤ i) (h4 : ∀ i, D' i → i < C.lo + (S (e + 1)).o.n)
    {v : AV} (hv : okV D' m' v) (hg : ∀ d, dstAt ops e = some d → (S (e + 1)).ts.get d = v)
    (hos : w'.os = w.os) (ht : w'.tape = w.tape) (hu : w'.output = w.output) (hz : w.heap.size ≤ w'.heap.size)
    (hmu : Mute (Bel C S D e) w D' m' w')
    (hobj : ∀ i, D' i → ¬ Bel C S D e i → ObjRel D' m' (m' i) (get C (S (e + 1)).o i) w'.heap[(m' i).blk]?)
    (hinj : ∀ i j, D' i → D' j → ¬ Bel C S D e i → ¬ Bel C S D e j → i ≠ j → live (get C (S (e + 1)).o i) = true → rwO (get C (S (e + 1)).o j) = true → (m' i).blk ≠ (m' j).blk) :
    ∃ D2 m2, conc m2 v = conc m' v ∧ DI cfg C ops S D0 m0 w0 (fun j => E j ∨ j = e) D2 m2 (a.put (dstAt ops e) (conc m2 v)) w' := by
  have hnr : ∀ i, D i → C.lo + (S e).o.n ≤ i → i < C.lo + (S (e + 1)).o.n → False := by
    intro i hi hlo hhi
    rcases h.orig i hi with h5 | ⟨e', he', hl, h6, h7⟩
    · have := hR.mono' hc (k := 0) (k' := e) (by omega) (by omega); omega
    · rcases Nat.lt_trichotomy e' e with hlt | heq | hgt
      · have := hR.mono' hc (k := e' + 1) (k' := e) (by omega) (by omega); omega
      · exact hE (heq ▸ he')
      · have := hR.mono' hc (k := e + 1) (k' := e') (by omega) (by omega); omega
  let m2 : Nat → Loc := fun i => if C.lo + (S e).o.n ≤ i ∧ i < C.lo + (S (e + 1)).o.n then m' i else m i
  let D2 : Nat → Prop := fun i => D i ∨ D' i
  have m2D : ∀ i, D i → m2 i = m i := fun i hi => if_neg fun hh => hnr i hi hh.1 hh.2
  have m2D' : ∀ i, D' i → m2 i = m' i := fun i hi => by
    rcases h3 i hi with hb | hlo
    · rw [m2D i hb.1, h2 i hb]
    · exact if_pos ⟨hlo, h4 i hi⟩
  have newR : ∀ i, D' i → ¬ D i → C.lo + (S e).o.n ≤ i := fun i hi hn => (h3 i hi).resolve_left fun hb => hn hb.1
  have hmono := (hR.foot hc e he).grow
  have nob : ∀ i, D' i → ¬ D i → ¬ Bel C S D e i := fun i _ hn hb => hn hb.1
  have cB : ∀ i k, CompB cfg ops S (fun j => E j ∨ j = e) i k → CompB cfg ops S E i k := fun i k hcb j hj hw => by
    have := hcb j hj hw
    have hne : j ≠ e := fun ee => hnw i (ee ▸ hw)
    simpa [hne] using this
  have newk : ∀ i k, k ≤ ops.size → D' i → ¬ D i → i < C.lo + (S k).o.n → e + 1 ≤ k := fun i k hk hi hn hlt => by
    have := newR i hi hn
    rcases Nat.lt_or_ge e k with h' | h'
    · exact h'
    · have := hR.mono' hc h' (by omega); omega
  have newget : ∀ i k, k ≤ ops.size → D' i → ¬ D i → i < C.lo + (S k).o.n → CompB cfg ops S (fun j => E j ∨ j = e) i k → get C (S k).o i = get C (S (e + 1)).o i := fun i k hk hi hn hlt hcb =>
    hR.same' hc (newk i k hk hi hn hlt) hk (h4 i hi) fun j hj1 hj2 hw => by
      rcases (hcb j (by omega) hw).2 hj2 with hj | hj
      · exact hn (h.wr j i hj (by omega) hw)
      · omega
  have oobj : ∀ i k, k ≤ ops.size → D i → i < C.lo + (S k).o.n → CompB cfg ops S E i k → live (get C (S k).o i) = true → (m i).blk < w.heap.size := fun i k hk hi hlt hcb hl => (h.obj i k hk hi hlt hcb).in_heap hl
  have nblk : ∀ i, D' i → ¬ D i → w.heap.size ≤ (m' i).blk := fun i hi hn => hmu.2 i hi (nob i hi hn)
  refine ⟨D2, m2, conc_same hv fun i hi => m2D' i hi, ?_⟩
  refine { sz := ?_, defers := ?_, tmp := ?_, obj := ?_, inj := ?_, orig := ?_, wr := ?_, glob := ?_, root := ?_, mv := ?_ }
  · have := h.sz
    cases hdst : dstAt ops e <;> simp [Act.put, this]
  · have := h.defers
    cases hdst : dstAt ops e <;> simp [Act.put, this]
  · refine tmp_step hR hc he hE h.tmp ho (fun i hi => .inl hi) m2D ?_ hg fun d hdd => by rw [h.sz]; exact hd d hdd
    exact hv.mono (fun i hi => ⟨.inr hi, h4 i hi⟩) m2D'
  · intro i k hk hi hlt hcb
    by_cases hD : D i
    · have hold := h.obj i k hk hD hlt (cB i k hcb)
      have : ObjRel (Bel C S D k) m (m i) (get C (S k).o i) w'.heap[(m i).blk]? := by
        cases hl : live (get C (S k).o i) with
        | true => rw [hmu.1 _ (hold.in_heap hl)]; exact hold
        | false =>
          cases hx : get C (S k).o i with
          | dead => trivial
          | _ => rw [hx] at hl; cases hl
      rw [m2D i hD]
      exact this.mono (fun j hj => ⟨.inl hj.1, hj.2⟩) fun j hj => m2D j hj.1
    · have hD' := hi.resolve_left hD
      rw [newget i k hk hD' hD hlt hcb, m2D' i hD']
      refine (hobj i hD' (nob i hD' hD)).mono (fun j hj => ⟨.inr hj, ?_⟩) m2D'
      have := h4 j hj
      have := hR.mono' hc (newk i k hk hD' hD hlt) hk
      omega
  · intro i j k hk hi hj hli hlj hci hcj hij hl hr
    by_cases hDi : D i <;> by_cases hDj : D j
    · rw [m2D i hDi, m2D j hDj]
      exact h.inj i j k hk hDi hDj hli hlj (cB i k hci) (cB j k hcj) hij hl hr
    · have hDj' := hj.resolve_left hDj
      rw [m2D i hDi, m2D' j hDj']
      have h5 := oobj i k hk hDi hli (cB i k hci) hl
      have h6 := nblk j hDj' hDj
      omega
    · have hDi' := hi.resolve_left hDi
      rw [m2D' i hDi', m2D j hDj]
      have h5 := oobj j k hk hDj hlj (cB j k hcj) (live_of_rw hr)
      have h6 := nblk i hDi' hDi
      omega
    · have hDi' := hi.resolve_left hDi
      have hDj' := hj.resolve_left hDj
      rw [m2D' i hDi', m2D' j hDj']
      rw [newget i k hk hDi' hDi hli hci] at hl
      rw [newget j k hk hDj' hDj hlj hcj] at hr
      exact hinj i j hDi' hDj' (nob i hDi' hDi) (nob j hDj' hDj) hij hl hr
  · rintro i (hi | hi)
    · rcases h.orig i hi with h5 | ⟨e', h6, h7⟩
      · exact .inl h5
      · exact .inr ⟨e', .inl h6, h7⟩
    · by_cases hD : D i
      · rcases h.orig i hD with h5 | ⟨e', h6, h7⟩
        · exact .inl h5
        · exact .inr ⟨e', .inl h6, h7⟩
      · exact .inr ⟨e, .inr rfl, he, newR i hi hD, h4 i hi⟩
  · rintro j i (hj | rfl) hjl hw
    · exact .inl (h.wr j i hj hjl hw)
    · exact absurd hw (hnw i)
  · intro g hgl
    obtain ⟨g1, g2, g3⟩ := h.glob g hgl
    exact ⟨.inl g1, by rw [m2D g g1]; exact g2, by rw [m2D g g1]; exact g3⟩
  · intro id hid
    exact ⟨.inl (h.root id hid).1, (h.root id hid).2⟩
  · have hm0 := hR.mono' hc (k := 0) (k' := e) (by omega) (by omega)
    refine h.mv.mute (fun i hi => .inl hi) m2D (fun i hi => ?_) hos ht hu hz hmu.1 fun i hi hn => ?_
    · rcases hi with hi | hi
      · exact .inl hi
      · by_cases hD : D i
        · exact .inl hD
        · have := newR i hi hD; exact .inr (by omega)
    · have hD' := hi.resolve_left hn
      rw [m2D' i hD']; exact nblk i hD' hn

/-- An operation that stands apart from all others. -/
theorem DI.bar (hR : Row T cfg call C ops S) (hc : CallFoot cfg call) (h : DI cfg C ops S D0 m0 w0 E D m a w) (he : e < ops.size) (hE : ¬ E e)
    (ho : ∀ d, dstAt ops e = some d → ∀ j, j < ops.size → dstAt ops j = some d → j ≠ e → (E j ↔ j < e))
    (hd : ∀ d, dstAt ops e = some d → d < (S 0).tn)
    (hbd : ∀ i, D i → i < C.lo + (S e).o.n) (hwo : ∀ j i, j < ops.size → Wr cfg ops S j i → j ≠ e → (E j ↔ j < e)) (hwe : ∀ i, Wr cfg ops S e i → D i)
    {v : AV} (hv : okV D' m' v) (hg : ∀ d, dstAt ops e = some d → (S (e + 1)).ts.get d = v)
    (hx : Ext cfg C D m (S e).o w D' m' (S (e + 1)).o w') :
    DI cfg C ops S D0 m0 w0 (fun j => E j ∨ j = e) D' m' (a.put (dstAt ops e) (conc m' v)) w' := by
  have hmono := (hR.foot hc e he).grow
  have hlt' : ∀ i, D' i → i < C.lo + (S (e + 1)).o.n := hx.inv.lt
  have key : ∀ i k, k ≤ ops.size → D' i → i < C.lo + (S k).o.n → CompB cfg ops S (fun j => E j ∨ j = e) i k → get C (S k).o i = get C (S (e + 1)).o i ∧ (k ≤ e → D i ∧ CompB cfg ops S E i k) := by
    intro i k hk hi hlt hcb
    rcases Nat.lt_or_ge e k with hek | hke
    · refine ⟨hR.same' hc (by omega) hk (hlt' i hi) fun j hj1 hj2 hw => ?_, fun hh => by omega⟩
      have h5 := (hcb j (by omega) hw).2 hj2
      have h6 := hwo j i (by omega) hw (by omega)
      rcases h5 with h5 | h5
      · have := h6.1 h5; omega
      · omega
    · have hno : ∀ j, k ≤ j → j < e + 1 → ¬ Wr cfg ops S j i := fun j hj1 hj2 hw => by
        have h5 := hcb j (by omega) hw
        have h7 : ¬ (E j ∨ j = e) := fun hh => by have := h5.1 hh; omega
        by_cases hje : j = e
        · exact h7 (.inr hje)
        · exact h7 (.inl ((hwo j i (by omega) hw hje).2 (by omega)))
      refine ⟨(hR.same' hc (by omega) (by omega) hlt hno).symm, fun _ => ⟨?_, fun j hj hw => ?_⟩⟩
      · rcases hx.new i hi with hi | hi
        · exact hi
        · have := hR.mono' hc hke (by omega); omega
      · have := hcb j hj hw
        have hne : j ≠ e := fun ee => hno e hke (by omega) (ee ▸ hw)
        simpa [hne] using this
  refine { sz := ?_, defers := ?_, tmp := ?_, obj := ?_, inj := ?_, orig := ?_, wr := ?_, glob := ?_, root := ?_, mv := ?_ }
  · have := h.sz
    cases hdst : dstAt ops e <;> simp [Act.put, this]
  · have := h.defers
    cases hdst : dstAt ops e <;> simp [Act.put, this]
  · refine tmp_step hR hc he hE h.tmp ho hx.sub hx.same ?_ hg fun d hdd => by rw [h.sz]; exact hd d hdd
    exact hv.mono (fun i hi => ⟨hi, hlt' i hi⟩) fun _ _ => rfl
  · intro i k hk hi hlt hcb
    obtain ⟨h5, h6⟩ := key i k hk hi hlt hcb
    have hnew : ObjRel D' m' (m' i) (get C (S k).o i) w'.heap[(m' i).blk]? := by rw [h5]; exact hx.inv.obj i hi
    rcases Nat.lt_or_ge e k with hek | hke
    · refine hnew.mono (fun j hj => ⟨hj, ?_⟩) fun _ _ => rfl
      have := hlt' j hj
      have := hR.mono' hc (k := e + 1) hek hk
      omega
    · obtain ⟨hD, hcb'⟩ := h6 hke
      have hold := (h.obj i k hk hD hlt hcb').mono (D' := Bel C S D' k) (m' := m') (fun j hj => ⟨hx.sub j hj.1, hj.2⟩) fun j hj => hx.same j hj.1
      rw [← hx.same i hD] at hold
      exact hold.join hnew
  · intro i j k hk hi hj hli hlj hci hcj hij hl hr
    rw [(key i k hk hi hli hci).1] at hl
    rw [(key j k hk hj hlj hcj).1] at hr
    exact hx.inv.inj i j hi hj hij hl hr
  · intro i hi
    rcases hx.new i hi with hD | hn
    · rcases h.orig i hD with h5 | ⟨e', h6, h7⟩
      · exact .inl h5
      · exact .inr ⟨e', .inl h6, h7⟩
    · exact .inr ⟨e, .inr rfl, he, hn, hlt' i hi⟩
  · rintro j i (hj | rfl) hjl hw
    · exact hx.sub i (h.wr j i hj hjl hw)
    · exact hx.sub i (hwe i hw)
  · intro g hgl
    obtain ⟨g1, g2, g3⟩ := h.glob g hgl
    exact ⟨hx.sub g g1, by rw [hx.same g g1]; exact g2, by rw [hx.same g g1]; exact g3⟩
  · intro id hid
    exact ⟨hx.sub id (h.root id hid).1, (h.root id hid).2⟩
  · exact h.mv.ext hx (hR.le hc e (by omega)) (hR.mono' hc (by omega) (by omega))
end
end Go.Ev
