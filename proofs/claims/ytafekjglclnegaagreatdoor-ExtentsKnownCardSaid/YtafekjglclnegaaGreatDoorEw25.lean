/- A region: in text order, and in any order. -/
import Derived.Test.YtafekjglclnegaaGreatDoorEw24
set_option linter.all false
namespace Go.Ev
open Go Go.RowKit

theorem countP_le {p q : Nat → Bool} (h : ∀ i, q i = true → p i = true) : ∀ l : List Nat, l.countP q ≤ l.countP p
  | [] => by simp
  | x :: l => by
    have := countP_le h l
    rw [List.countP_cons, List.countP_cons]
    cases hq : q x with
    | true => rw [h x hq]; simp; exact this
    | false => simp only [Bool.false_eq_true, if_false]; omega
theorem countP_lt {p q : Nat → Bool} (h : ∀ i, q i = true → p i = true) {e : Nat} (hp : p e = true) (hq : q e = false) : ∀ {l : List Nat}, e ∈ l → l.countP q < l.countP p
  | [], he => by cases he
  | x :: l, he => by
    rw [List.countP_cons, List.countP_cons]
    rcases List.mem_cons.1 he with rfl | he
    · have := countP_le h l
      rw [hp, hq]; simp; omega
    · have := countP_lt h hp hq he
      cases hx : q x with
      | true => rw [h x hx]; simp; exact this
      | false => simp only [Bool.false_eq_true, if_false]; omega

def Lst (listed : Array Bool) (j : Nat) : Prop := listed.getD j false = true
theorem getD_tf (listed : Array Bool) {i : Nat} (h : i < listed.size) : listed.getD i true = listed.getD i false := by simp [Array.getD, h]
theorem lst_set {listed : Array Bool} {i : Nat} (h : i < listed.size) (j : Nat) : Lst (listed.setIfInBounds i true) j ↔ Lst listed j ∨ j = i := by
  unfold Lst
  by_cases e : j = i
  · subst e; simp [Array.getD, h]
  · simp only [e, or_false, Array.getD, Array.size_setIfInBounds]
    split
    · rw [Array.getInternal_eq_getElem, Array.getInternal_eq_getElem, Array.getElem_setIfInBounds_ne (h := fun e' => e e'.symm)]
    · rfl
theorem ready_iff {ops : Array Oper} {listed : Array Bool} (hs : listed.size = ops.size) {i : Nat} : i ∈ Region.ready .any ops listed ↔ i < ops.size ∧ ¬ Lst listed i ∧ WaitsOK ops (Lst listed) i := by
  unfold Region.ready
  rw [List.mem_filter, List.mem_range]
  constructor
  · rintro ⟨hi, h⟩
    rw [getD_tf listed (by omega)] at h
    have hop : ops[i]? = some ops[i] := by simp [hi]
    simp only [hop, Option.map_some, Option.getD_some, Bool.and_eq_true, Bool.not_eq_true'] at h
    refine ⟨hi, by unfold Lst; simp [h.1], fun o ho e he hb => ?_⟩
    rw [hop] at ho
    cases ho
    have := h.2
    rw [← Array.all_toList, List.all_eq_true] at this
    have := this e he
    simpa [hb, Lst] using this
  · rintro ⟨hi, h1, h2⟩
    refine ⟨hi, ?_⟩
    have hop : ops[i]? = some ops[i] := by simp [hi]
    rw [getD_tf listed (by omega)]
    simp only [hop, Option.map_some, Option.getD_some, Bool.and_eq_true, Bool.not_eq_true']
    refine ⟨by unfold Lst at h1; simpa using h1, ?_⟩
    rw [← Array.all_toList, List.all_eq_true]
    intro e he
    cases hb : Region.binds .any e with
    | false => simp
    | true => have := h2 _ hop e he hb; simpa [Lst] using this

section
variable {P : Program} {T : Tab} (hT : TabOK P T) {cfg : Cfg} {call : Ctx → FuncId → List AV → Own → Option (AV × Own)} (hcall : CallOK P cfg True call) (hc : CallFoot cfg call) {C : Ctx} {ops : Array Oper} {S : Nat → St} (hR : Row T cfg call C ops S) (hA : Checks cfg ops S)
  {D0 : Nat → Prop} {m0 : Nat → Loc} {w0 : World}
include hT hcall hc hR hA
theorem any_ok {x : Option Nat} {Q : Exit → Act → World → Prop} (hq : ∀ D m a w, DI cfg C ops S D0 m0 w0 (fun j => j < ops.size) D m a w → Q .normal a w) : ∀ (fuel : Nat) (listed : Array Bool), listed.size = ops.size → ((List.range ops.size).countP fun i => !listed.getD i true) ≤ fuel →
    (∀ j, Lst listed j → WaitsOK ops (Lst listed) j) → ∀ {D : Nat → Prop} {m : Nat → Loc} {a : Act} {w : World}, DI cfg C ops S D0 m0 w0 (Lst listed) D m a w → wpAnyIn (FR x) 0 P .any ops Q fuel listed a w := by
  have fin : ∀ (listed : Array Bool), listed.size = ops.size → Region.ready .any ops listed = [] → ∀ {D : Nat → Prop} {m : Nat → Loc} {a : Act} {w : World}, DI cfg C ops S D0 m0 w0 (Lst listed) D m a w → Q .normal a w := by
    intro listed hs hr D m a w h
    have hall : ∀ j, j < ops.size → Lst listed j := by
      intro j
      induction j using Nat.strongRecOn with
      | ind j ih =>
        intro hj
        refine Classical.byContradiction fun hn => ?_
        have : j ∈ Region.ready .any ops listed := (ready_iff hs).2 ⟨hj, hn, fun o ho e he hb => by
          have := hA.edge j o ho e he hb
          exact ih e.on this (by omega)⟩
        rw [hr] at this; cases this
    have heq : Lst listed = fun j => j < ops.size := funext fun j => propext ⟨fun hh => (by
      refine Classical.byContradiction fun hn => ?_
      unfold Lst at hh
      simp only [Array.getD] at hh
      rw [dif_neg (by omega)] at hh
      cases hh), hall j⟩
    rw [heq] at h
    exact hq D m a w h
  intro fuel
  induction fuel with
  | zero =>
    intro listed hs hcnt hd D m a w h
    have hr : Region.ready .any ops listed = [] := by
      rw [List.eq_nil_iff_forall_not_mem]
      intro i hi
      obtain ⟨h1, h2, _⟩ := (ready_iff hs).1 hi
      have : 0 < (List.range ops.size).countP fun i => !listed.getD i true := List.countP_pos_iff.2 ⟨i, List.mem_range.2 h1, by rw [getD_tf listed (by omega)]; unfold Lst at h2; simpa using h2⟩
      omega
    exact ⟨hr, fin listed hs hr h⟩
  | succ fuel ih =>
    intro listed hs hcnt hd D m a w h
    refine ⟨fun hr => fin listed hs hr h, fun i hi => ?_⟩
    obtain ⟨h1, h2, h3⟩ := (ready_iff hs).1 hi
    have hset : Lst (listed.setIfInBounds i true) = fun j => Lst listed j ∨ j = i := funext fun j => propext (lst_set (by omega) j)
    refine draw_step hT hcall hc hR hA h hd h1 h2 h3 fun D2 m2 a2 w2 h' => ?_
    refine ih (listed.setIfInBounds i true) (by simp [hs]) ?_ ?_ (by rw [hset]; exact h')
    · have hlt : (List.range ops.size).countP (fun j => !(listed.setIfInBounds i true).getD j true) < (List.range ops.size).countP (fun j => !listed.getD j true) := by
        refine countP_lt (e := i) (fun j hj => ?_) ?_ ?_ (List.mem_range.2 h1)
        · by_cases hjs : j < listed.size
          · rw [getD_tf _ (by simpa using hjs)] at hj
            rw [getD_tf _ hjs]
            have : ¬ Lst (listed.setIfInBounds i true) j := by unfold Lst; simpa using hj
            rw [lst_set (by omega)] at this
            have : ¬ Lst listed j := fun hh => this (.inl hh)
            unfold Lst at this; simpa using this
          · simp [Array.getD, hjs] at hj
        · rw [getD_tf _ (by omega)]; unfold Lst at h2; simpa using h2
        · rw [getD_tf _ (by simp; omega)]
          have : Lst (listed.setIfInBounds i true) i := (lst_set (by omega) i).2 (.inr rfl)
          unfold Lst at this; simp [this]
      omega
    · intro j hj o ho e he hb
      rw [hset] at hj ⊢
      rcases hj with hj | rfl
      · exact .inl (hd j hj o ho e he hb)
      · exact .inl (h3 o ho e he hb)
end

section
variable {P : Program} {T : Tab} (hT : TabOK P T) (hm : P.follows .mixedOrders = true) {cfg : Cfg} {C : Ctx} {call : Ctx → FuncId → List AV → Own → Option (AV × Own)} (hcall : CallOK P cfg True call) (hc : CallFoot cfg call)
include hT hm hcall hc
theorem draw_ok {x : Option Nat} {rnd : Ctx → Nat → List AV → Own → Option (AV × Own)} {callI : Ctx → FuncId → List AV → Own → Option (AV × Own)} {ops : Array Oper} {id : Nat} {Q : Exit → Act → World → Prop} {D : Nat → Prop} {m : Nat → Loc} {st st' : St} {a : Act} {w : World} (hi : Inv cfg D m C st.o w) (ht : TR D m st a) (h : regionA T cfg call rnd C callI ops true st = some st')
    (hq : ∀ D' m' a' w', TR D' m' st' a' → Ext cfg C D m st.o w D' m' st'.o w' → Q .normal a' w') : (Code.region id ops true).wpIn (FR x) 0 P Q a w := by
  simp only [regionA, cond_true, ob_some, ok_some, Option.some.injEq] at h
  obtain ⟨acc, hs, r, hd, hap, rfl⟩ := h
  obtain ⟨S, h0, hn, hst, _⟩ := drawA_row (by simp) hd
  rw [Nat.zero_add] at hn
  have hlen : ops.toList.length = ops.size := by simp
  rw [hlen] at hn
  have hst' : ∀ k, k < ops.size → StepR T cfg call C ops S k ∧ (k, footAt cfg ops S k) ∈ r.2 := fun k hk => hst k (Nat.zero_le _) (by rw [hlen]; omega)
  have hR : Row T cfg call C ops S := ⟨fun k hk => (hst' k hk).1, by rw [h0]; exact hi.len, by rw [h0]; exact hi.le, hi.lo, fun g hg => by rw [h0]; exact hi.lt g (hi.glob g hg).1⟩
  have hA : Checks cfg ops S := checks_of hs (fun k hk => (hst' k hk).2) hap
  refine wpIn_region_any hm (any_ok hT hcall hc hR hA (D0 := D) (m0 := m) (w0 := w) (fun D' m' a' w' hdi => ?_) ops.size _ (by simp) ?_ ?_ (D := D) (m := m) ?_)
  · have hbd : ∀ i, D' i → i < C.lo + (S ops.size).o.n := fun i hi' => by
      rcases hdi.orig i hi' with h5 | ⟨e, _, he, _, h7⟩
      · have := hR.mono' hc (k := 0) (k' := ops.size) (by omega) (by omega); omega
      · have := hR.mono' hc (k := e + 1) (k' := ops.size) (by omega) (by omega); omega
    have hall : ∀ i, CompB cfg ops S (fun j => j < ops.size) i ops.size := fun i j hj _ => ⟨fun _ => hj, fun _ => hj⟩
    have hallt : ∀ t, CompT ops (fun j => j < ops.size) t ops.size := fun i j hj _ => ⟨fun _ => hj, fun _ => hj⟩
    have htr : TR D' m' (S ops.size) a' := ⟨by rw [hdi.sz, hR.tn _ (Nat.le_refl _)], fun t => (hdi.tmp t _ (Nat.le_refl _) (hallt t)).1, fun t => (hdi.tmp t _ (Nat.le_refl _) (hallt t)).2.mono (fun i hi' => hi'.1) fun _ _ => rfl, by rw [hdi.defers, (hR.ds _ (Nat.le_refl _)).1, marksOf_same (D := D) (by rw [h0]; exact ht.dsD) hdi.mv.same], fun d hd => hdi.mv.sub d (by rw [(hR.ds _ (Nat.le_refl _)).1, h0] at hd; exact ht.dsD d hd), fun i hi' => hdi.mv.sub i (by rw [(hR.ds _ (Nat.le_refl _)).2, h0] at hi'; exact ht.roD i hi')⟩
    have hinv : Inv cfg D' m' C (S ops.size).o w' := by
      refine ⟨fun i hi' => (hdi.obj i _ (Nat.le_refl _) hi' (hbd i hi') (hall i)).mono (fun j hj => hj.1) fun _ _ => rfl, fun i j hi' hj' hij hl hr => hdi.inj i j _ (Nat.le_refl _) hi' hj' (hbd i hi') (hbd j hj') (hall i) (hall j) hij hl hr, hbd, hdi.glob, fun i hi' => ?_, fun i hi' => ?_, hR.lo, hR.len hc _ (Nat.le_refl _)⟩
      · exact ⟨(hdi.root i hi').1, by rw [hR.root hc _ (Nat.le_refl _) hi']; exact (hdi.root i hi').2⟩
      · rw [hR.le hc _ (Nat.le_refl _)] at hi'; exact hR.le0 i hi'
    rw [hn] at htr hinv
    have hmv := hdi.mv
    rw [h0] at hmv
    have hgrow := hR.mono' hc (k := 0) (k' := ops.size) (by omega) (by omega)
    have hle := hR.le hc ops.size (Nat.le_refl _)
    rw [h0, hn] at hgrow hle
    exact hq D' m' a' w' htr ⟨hinv, hmv.sub, hmv.same, hmv.new, hgrow, hmv.os, hmv.tape, hmv.output, hmv.size, hmv.frame, hle, hmv.fresh⟩
  · refine Nat.le_trans List.countP_le_length (by simp)
  · intro j hj
    unfold Lst at hj
    simp only [Array.getD] at hj
    split at hj
    · simp at hj
    · cases hj
  · have hno : ∀ j, ¬ Lst (Array.replicate ops.size false) j := fun j hj => by
      unfold Lst at hj
      simp only [Array.getD] at hj
      split at hj
      · simp at hj
      · cases hj
    have cT : ∀ t k, k ≤ ops.size → CompT ops (Lst (Array.replicate ops.size false)) t k → (S k).ts.get t = st.ts.get t := fun t k hk hct => by
      rw [← h0]
      exact hR.ts' (by omega) hk fun j _ hj hjt => hno j ((hct j (by omega) hjt).2 hj)
    have cB : ∀ i k, k ≤ ops.size → D i → CompB cfg ops S (Lst (Array.replicate ops.size false)) i k → get C (S k).o i = get C st.o i := fun i k hk hdi hcb => by
      have := hi.lt i hdi
      have := hR.same' hc (k := 0) (k' := k) (i := i) (by omega) hk (by rw [h0]; exact this) fun j _ hj hw => hno j ((hcb j (by omega) hw).2 hj)
      rw [this, h0]
    have bel : ∀ k, k ≤ ops.size → ∀ i, D i → Bel C S D k i := fun k hk i hdi => ⟨hdi, by
      have := hi.lt i hdi
      have h1 := hR.mono' hc (k := 0) (k' := k) (by omega) hk
      rw [h0] at h1
      omega⟩
    refine { sz := by rw [h0]; exact ht.size, defers := by rw [h0]; exact ht.defers, tmp := fun t k hk hct => ?_, obj := fun i k hk hdi _ hcb => ?_, inj := fun i j k hk hdi hdj _ _ hci hcj hij hl hr => ?_, orig := fun i hdi => .inl (by rw [h0]; exact hi.lt i hdi), wr := fun j i hj => absurd hj (hno j), glob := hi.glob, root := fun i hid => by rw [h0]; exact hi.root i hid, mv := ?_ }
    · rw [cT t k hk hct]
      exact ⟨ht.at' t, (ht.okt t).mono (bel k hk) fun _ _ => rfl⟩
    · rw [cB i k hk hdi hcb]
      exact (hi.obj i hdi).mono (bel k hk) fun _ _ => rfl
    · rw [cB i k hk hdi hci] at hl
      rw [cB j k hk hdj hcj] at hr
      exact hi.inj i j hdi hdj hij hl hr
    · exact ⟨fun _ hh => hh, fun _ _ => rfl, fun _ hh => .inl hh, rfl, rfl, rfl, Nat.le_refl _, fun _ _ _ => rfl, fun i hh hn => absurd hh hn⟩

theorem region_ok {x : Option Nat} {rnd : Ctx → Nat → List AV → Own → Option (AV × Own)} {callI : Ctx → FuncId → List AV → Own → Option (AV × Own)} (hcI : CallOK P cfg False callI) (hrI : RndOK P cfg False rnd) {ops : Array Oper} {id : Nat} {draw : Bool} {Q : Exit → Act → World → Prop} {D : Nat → Prop} {m : Nat → Loc} {st st' : St} {a : Act} {w : World} (hi : Inv cfg D m C st.o w) (ht : TR D m st a) (h : regionA T cfg call rnd C callI ops draw st = some st')
    (hq : ∀ D' m' a' w', TR D' m' st' a' → Ext cfg C D m st.o w D' m' st'.o w' → Q .normal a' w') : (Code.region id ops draw).wpIn (FR x) 0 P Q a w := by
  cases draw with
  | true => exact draw_ok hT hm hcall hc hi ht h hq
  | false =>
    simp only [regionA, cond_false] at h
    refine wpIn_region ?_
    have := ops_ok hT hcI hrI (Q := Q) (x := x) ops.toList 0 (by simp) hi ht h hq
    simpa [List.range_eq_range'] using this
end
end Go.Ev
