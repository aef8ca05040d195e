/- Functions that take slices, or make new blocks: run where their arguments' blocks have names of their own, and nothing else has. Functions that take slices, or make new blocks: what holds where they are run alone, holds where they are called. -/
import Derived.Test.YticbodgiogmldaaGreatDoorEt6
import Derived.Test.YticbodgiogmldaaGreatDoorEs2
section
set_option linter.all false
namespace Go.Ev
open Go Go.RowKit

/-- Where a function is run: the blocks there from the start, and windows into those of its arguments. -/
def Cw (cfg : Cfg) (ws : List AObj) : Ctx := ⟨[(cfg.root.n, ⟨ws.length, ws.reverse, []⟩), (0, cfg.root)], cfg.root.n + ws.length⟩
structure Can where
  szs : List Nat
  ws : List AObj
  ok : Bool
def capCan : Cap → Cap
  | .known c => .known c
  | .rest _ => .rest 0
def canL (f : AV → Can → Option (AV × Can)) : List AV → Can → Option (List AV × Can)
  | [], q => some ([], q)
  | v :: vs, q => ob (f v q) fun p => ob (canL f vs p.2) fun p' => some (p.1 :: p'.1, p'.2)
def winOf (cs : List AV) (off n : Nat) : List AV := (cs.drop off).take n
/-- An argument, its slices told anew: each a window of its own. -/
def canA (r : Nat) (C : Ctx) (o : Own) : Nat → AV → Can → Option (AV × Can)
  | 0, _, _ => none
  | d + 1, v, q => match v with
    | .slice id off len c => (match q.szs with
      | [] => none
      | sz :: szs => ob (cellsOf (get C o id)) fun cs => some (.slice (r + q.ws.length) 0 len (capCan c), ⟨szs, q.ws ++ [.cells (winOf cs off (len * sz)) false none], q.ok && (Nat.ble (off + len * sz) cs.length && belowL r (winOf cs off (len * sz)))⟩))
    | .agg cs => ob (canL (canA r C o d) cs q) fun p => some (.agg p.1, p.2)
    | .func f a b => ob (canL (canA r C o d) a q) fun p => ob (canL (canA r C o d) b p.2) fun p' => some (.func f p.1 p'.1, p'.2)
    | .iface t v => ob (canA r C o d v q) fun p => some (.iface t p.1, p.2)
    | .ptr id off => ok (natLt id r) (some (.ptr id off, q))
    | .tuple _ => none
    | .map _ => none
    | .yield _ => none
    | v => some (v, q)
def ups (b b' : Nat) : Nat → List (Nat × Nat)
  | 0 => []
  | n + 1 => (b + n, b' + n) :: ups b b' n
/-- A known function of slices and plain values, that makes new blocks. -/
abbrev WSum : Type := List AV → List AObj → Option (Tr (AV × List AObj))
def winR (r b : Nat) (C : Ctx) (o : Own) (x : AV × List AObj) : Tr (AV × Own) :=
  liftK (mvA r (ups b (C.lo + o.n) x.2.length) 20 x.1) fun v => .ret (v, ⟨x.2.length + o.n, x.2 ++ o.os, o.le⟩)
def winS (r : Nat) (szs : List Nat) (e : WSum) : GSum := fun C args o =>
  ob (canL (canA r C o 20) args ⟨szs, [], true⟩) fun q => ob (e q.1 q.2.ws) fun t => some (asrt q.2.ok (t.bind (winR r (r + q.2.ws.length) C o)))
def FactW (P : Program) (cfg : Cfg) (f : FuncId) (args : List AV) (ws : List AObj) (v : AV) (news : List AObj) : Prop :=
  ∀ D m w, Inv cfg D m (Cw cfg ws) ⟨0, [], []⟩ w → okL D m args → CallS P f (concL m args).toArray w fun V w' => ∃ D' m', V = conc m' v ∧ okV D' m' v ∧ Ext cfg (Cw cfg ws) D m ⟨0, [], []⟩ w D' m' ⟨news.length, news, []⟩ w'
def WinOK (P : Program) (cfg : Cfg) (f : FuncId) (e : WSum) : Prop := ∀ args ws t r, e args ws = some t → t.run = some r → FactW P cfg f args ws r.1 r.2 ∧ ∀ x ∈ r.2, LowO cfg.root.n x

theorem ups_look {b b' : Nat} : ∀ {n i k : Nat}, lookR (ups b b' n) i = some k → ∃ j, j < n ∧ i = b + j ∧ k = b' + j
  | 0, i, k, h => by cases h
  | n + 1, i, k, h => by
    rw [ups, lookR] at h
    by_cases e : b + n = i
    · rw [beqT e, cond_true, Option.some.injEq] at h
      exact ⟨n, by omega, e.symm, h.symm⟩
    · rw [beqF e, cond_false] at h
      obtain ⟨j, h1, h2, h3⟩ := ups_look h
      exact ⟨j, by omega, h2, h3⟩

section
variable {cfg : Cfg} {C : Ctx} {o : Own} {D : Nat → Prop} {m : Nat → Loc} {w : World}
def mL (r : Nat) (m : Nat → Loc) (L : List Loc) (id : Nat) : Loc := if id < r then m id else L.getD (id - r) ⟨0, 0, 0⟩
def DL (r : Nat) (D : Nat → Prop) (L : List Loc) (id : Nat) : Prop := (id < r ∧ D id) ∨ (r ≤ id ∧ id < r + L.length)
theorem mL_low {r : Nat} {L : List Loc} {id : Nat} (h : id < r) : mL r m L id = m id := if_pos h
theorem mL_at {r : Nat} {L : List Loc} {j : Nat} {l : Loc} (h : L[j]? = some l) : mL r m L (r + j) = l := by
  unfold mL
  rw [if_neg (by omega), show r + j - r = j by omega, List.getD_eq_getElem?_getD, h]; rfl
/-- A window, in the world. -/
def WRel (r : Nat) (D : Nat → Prop) (m : Nat → Loc) (w : World) (x : AObj) (l : Loc) : Prop :=
  ∃ win, x = .cells win false none ∧ belowL r win = true ∧ okL D m win ∧ ∃ c e fz, w.heap[l.blk]? = some (.cells c e fz) ∧ ∀ i v, win[i]? = some v → c[l.base + i]? = some (conc m v)
def WOK (r : Nat) (D : Nat → Prop) (m : Nat → Loc) (w : World) (L : List Loc) (ws : List AObj) : Prop := L.length = ws.length ∧ ∀ (j : Nat) (x : AObj) (l : Loc), ws[j]? = some x → L[j]? = some l → WRel r D m w x l
theorem WOK.push {r : Nat} {L : List Loc} {ws : List AObj} {x : AObj} {l : Loc} (h : WOK r D m w L ws) (hx : WRel r D m w x l) : WOK r D m w (L ++ [l]) (ws ++ [x]) := by
  refine ⟨by simp [h.1], fun j y k hy hk => ?_⟩
  by_cases e : j < ws.length
  · rw [List.getElem?_append_left e] at hy
    rw [List.getElem?_append_left (by rw [h.1]; exact e)] at hk
    exact h.2 j y k hy hk
  · rw [List.getElem?_append_right (by omega)] at hy
    rw [List.getElem?_append_right (by rw [h.1]; omega)] at hk
    have hj : j - ws.length = 0 := by
      have := (List.getElem?_eq_some_iff.1 hy).1
      simp at this; omega
    rw [hj] at hy
    rw [show j - L.length = 0 by rw [h.1]; exact hj] at hk
    simp only [List.getElem?_cons_zero, Option.some.injEq] at hy hk
    rw [← hy, ← hk]; exact hx
/-- What an argument becomes stands for the same. -/
def CanOK (r : Nat) (D : Nat → Prop) (m : Nat → Loc) (w : World) (L : List Loc) (q q' : Can) (S : List Loc → Prop) : Prop :=
  ∃ L', q.ok = true ∧ WOK r D m w (L ++ L') q'.ws ∧ ∀ L'', S ((L ++ L') ++ L'')
section
variable (hi : Inv cfg D m C o w)
include hi
theorem canL_ok {d : Nat} (ih : ∀ {v q v' q'}, canA cfg.root.n C o d v q = some (v', q') → okV D m v → q'.ok = true → ∀ L, WOK cfg.root.n D m w L q.ws → CanOK cfg.root.n D m w L q q' fun K => conc (mL cfg.root.n m K) v' = conc m v ∧ okV (DL cfg.root.n D K) (mL cfg.root.n m K) v') :
    ∀ {vs : List AV} {q : Can} {vs' : List AV} {q' : Can}, canL (canA cfg.root.n C o d) vs q = some (vs', q') → okL D m vs → q'.ok = true → ∀ L, WOK cfg.root.n D m w L q.ws → CanOK cfg.root.n D m w L q q' fun K => concL (mL cfg.root.n m K) vs' = concL m vs ∧ okL (DL cfg.root.n D K) (mL cfg.root.n m K) vs'
  | [], q, vs', q', h, _, hq, L, hL => by
    cases h
    exact ⟨[], hq, by simpa using hL, fun L'' => ⟨by simp [concL], okL_nil⟩⟩
  | v :: vs, q, vs', q', h, hok, hq, L, hL => by
    simp only [canL, ob_some, Option.some.injEq, Prod.mk.injEq] at h
    obtain ⟨⟨v1, q1⟩, h1, ⟨vs1, q2⟩, h2, rfl, rfl⟩ := h
    obtain ⟨a1, a2⟩ := okL_cons.1 hok
    -- from behind: the rest's conditions first
    have hq1 : q1.ok = true := by
      have mono : ∀ {d : Nat} {v : AV} {q : Can} {r : AV × Can}, canA cfg.root.n C o d v q = some r → r.2.ok = true → q.ok = true := by
        intro d
        induction d with
        | zero => intro v q r h; cases h
        | succ d ihd =>
          have hl : ∀ {vs : List AV} {q : Can} {r : List AV × Can}, canL (canA cfg.root.n C o d) vs q = some r → r.2.ok = true → q.ok = true := by
            intro vs
            induction vs with
            | nil => intro q r h hr; cases h; exact hr
            | cons v vs ihv =>
              intro q r h hr
              simp only [canL, ob_some, Option.some.injEq] at h
              obtain ⟨p, hp, p', hp', rfl⟩ := h
              exact ihd hp (ihv hp' hr)
          intro v q r h hr
          unfold canA at h
          cases v <;> simp only [ob_some, ok_some, Option.some.injEq, reduceCtorEq] at h
          case slice id off len c =>
            split at h
            · cases h
            · simp only [ob_some, Option.some.injEq] at h
              obtain ⟨cs, _, rfl⟩ := h
              simp only [Bool.and_eq_true] at hr
              exact hr.1
          case agg cs => obtain ⟨p, hp, rfl⟩ := h; exact hl hp hr
          case func f a b => obtain ⟨p, hp, p', hp', rfl⟩ := h; exact hl hp (hl hp' hr)
          case iface t v => obtain ⟨p, hp, rfl⟩ := h; exact ihd hp hr
          case ptr => obtain ⟨_, rfl⟩ := h; exact hr
          all_goals (subst h; exact hr)
      have monoL : ∀ {vs : List AV} {q : Can} {r : List AV × Can}, canL (canA cfg.root.n C o d) vs q = some r → r.2.ok = true → q.ok = true := by
        intro vs
        induction vs with
        | nil => intro q r h hr; cases h; exact hr
        | cons v vs ihv =>
          intro q r h hr
          simp only [canL, ob_some, Option.some.injEq] at h
          obtain ⟨p, hp, p', hp', rfl⟩ := h
          exact mono hp (ihv hp' hr)
      exact monoL h2 hq
    obtain ⟨L1, b1, b2, b3⟩ := ih h1 a1 hq1 L hL
    obtain ⟨L2, c1, c2, c3⟩ := canL_ok ih h2 a2 hq _ b2
    refine ⟨L1 ++ L2, b1, by rw [← List.append_assoc]; exact c2, fun L'' => ?_⟩
    have x := b3 (L2 ++ L'')
    have y := c3 L''
    rw [show L ++ L1 ++ (L2 ++ L'') = L ++ (L1 ++ L2) ++ L'' by simp] at x
    rw [show L ++ L1 ++ L2 ++ L'' = L ++ (L1 ++ L2) ++ L'' by simp] at y
    exact ⟨by simp only [concL]; rw [x.1, y.1], okL_cons.2 ⟨x.2, y.2⟩⟩
theorem canA_ok : ∀ {d : Nat} {v : AV} {q : Can} {v' : AV} {q' : Can}, canA cfg.root.n C o d v q = some (v', q') → okV D m v → q'.ok = true → ∀ L, WOK cfg.root.n D m w L q.ws → CanOK cfg.root.n D m w L q q' fun K => conc (mL cfg.root.n m K) v' = conc m v ∧ okV (DL cfg.root.n D K) (mL cfg.root.n m K) v'
  | 0, v, q, v', q', h, _, _, L, hL => by cases h
  | d + 1, v, q, v', q', h, hok, hq, L, hL => by
    have ihL := @canL_ok cfg C o D m w hi d (fun {v q v' q'} => canA_ok (d := d) (v := v) (q := q) (v' := v') (q' := q'))
    unfold canA at h
    cases v <;> simp only [ob_some, ok_some, Option.some.injEq, reduceCtorEq, Prod.mk.injEq] at h
    case slice id off len c =>
      split at h
      · cases h
      · rename_i sz szs hsz
        simp only [ob_some, Option.some.injEq, Prod.mk.injEq] at h
        obtain ⟨cs, hcs, rfl, rfl⟩ := h
        simp only [Bool.and_eq_true, ble_iff] at hq
        obtain ⟨hq1, hle, hbl⟩ := hq
        obtain ⟨hD, hcap⟩ := hok (id, needC len c) (by simp [idsA])
        have hobj := hi.obj id hD
        obtain ⟨rw', g, hg⟩ : ∃ rw' g, get C o id = .cells cs rw' g := by
          unfold cellsOf at hcs
          split at hcs
          · rename_i cs' rw' g hgg; cases hcs; exact ⟨_, _, hgg⟩
          · cases hcs
        rw [hg] at hobj
        obtain ⟨cc, e, fz, hb, hc⟩ := hobj
        have win_at : ∀ i v, (winOf cs off (len * sz))[i]? = some v → cs[off + i]? = some v := fun i v hv => by
          unfold winOf at hv
          rw [List.getElem?_take] at hv
          split at hv
          · rw [List.getElem?_drop] at hv; exact hv
          · cases hv
        let l : Loc := ⟨(m id).blk, (m id).base + off, match c with | .known _ => 0 | .rest k => (m id).cap - k⟩
        have hW : WRel cfg.root.n D m w (.cells (winOf cs off (len * sz)) false none) l :=
          ⟨_, rfl, hbl, okL_iff.2 fun v hv => by
            obtain ⟨i, hi'⟩ := List.getElem?_of_mem hv
            exact okL_iff.1 hc.okc v (List.mem_of_getElem? (win_at i v hi')), cc, e, fz, hb, fun i v hv => by
            have := hc.at' _ v (win_at i v hv)
            rw [show l.base + i = (m id).base + (off + i) by simp only [l]; omega]; exact this⟩
        refine ⟨[l], hq1, hL.push hW, fun L'' => ?_⟩
        have hj : ((L ++ [l]) ++ L'')[q.ws.length]? = some l := by
          rw [List.append_assoc, List.getElem?_append_right (Nat.le_of_eq hL.1), hL.1]; simp
        refine ⟨?_, fun i hi' => ?_⟩
        · simp only [conc, mL_at hj]
          cases c with
          | known n => simp [capCan, capC, l]
          | rest k => simp [capCan, capC, l]
        · simp only [idsA, List.mem_singleton] at hi'
          subst hi'
          refine ⟨.inr ⟨by simp only; omega, by simp only [List.length_append, hL.1, List.length_cons, List.length_nil]; omega⟩, ?_⟩
          simp only [mL_at hj]
          cases c with
          | known n => simp [capCan, needC]
          | rest k => simp only [capCan, needC, l]; simp only [needC] at hcap; omega
    case agg cs =>
      obtain ⟨⟨vs', q1⟩, h1, rfl, rfl⟩ := h
      obtain ⟨L', x1, x2, x3⟩ := ihL h1 (okV_agg.1 hok) hq L hL
      exact ⟨L', x1, x2, fun L'' => ⟨by simp only [conc]; rw [(x3 L'').1], okV_agg.2 (x3 L'').2⟩⟩
    case func f a b =>
      obtain ⟨⟨a', q1⟩, h1, ⟨b', q2⟩, h2, rfl, rfl⟩ := h
      have hcat : canL (canA cfg.root.n C o d) (a ++ b) q = some (a' ++ b', q2) := by
        have : ∀ {xs : List AV} {q q1 q2 : Can} {xs' : List AV}, canL (canA cfg.root.n C o d) xs q = some (xs', q1) → canL (canA cfg.root.n C o d) b q1 = some (b', q2) → canL (canA cfg.root.n C o d) (xs ++ b) q = some (xs' ++ b', q2) := by
          intro xs
          induction xs with
          | nil => intro q q1 q2 xs' h1 h2; cases h1; exact h2
          | cons x xs ih =>
            intro q q1 q2 xs' h1 h2
            simp only [canL, ob_some, Option.some.injEq, Prod.mk.injEq] at h1
            obtain ⟨p, hp, ⟨ys, q3⟩, hp', rfl, rfl⟩ := h1
            simp only [List.cons_append, canL, hp, ob, ih hp' h2]
        exact this h1 h2
      obtain ⟨L', x1, x2, x3⟩ := ihL hcat (okL_append.2 ⟨fun i hi' => hok i (by simp [idsA, hi']), fun i hi' => hok i (by simp [idsA, hi'])⟩) hq L hL
      refine ⟨L', x1, x2, fun L'' => ?_⟩
      obtain ⟨y1, y2⟩ := x3 L''
      have hlen : a'.length = a.length := by
        have : ∀ {xs : List AV} {q : Can} {r : List AV × Can}, canL (canA cfg.root.n C o d) xs q = some r → r.1.length = xs.length := by
          intro xs
          induction xs with
          | nil => intro q r h; cases h; rfl
          | cons x xs ih =>
            intro q r h
            simp only [canL, ob_some, Option.some.injEq] at h
            obtain ⟨p, _, p', hp', rfl⟩ := h
            simp [ih hp']
        exact this h1
      rw [concL_app, concL_app] at y1
      obtain ⟨z1, z2⟩ := List.append_inj y1 (by rw [concL_len, concL_len, hlen])
      obtain ⟨u1, u2⟩ := okL_append.1 y2
      refine ⟨by simp only [conc]; rw [z1, z2], fun i hi' => ?_⟩
      simp only [idsA, List.mem_append] at hi'
      exact hi'.elim (u1 i) (u2 i)
    case iface t u =>
      obtain ⟨⟨u', q1⟩, h1, rfl, rfl⟩ := h
      obtain ⟨L', x1, x2, x3⟩ := canA_ok h1 (fun i hi' => hok i (by simpa [idsA] using hi')) hq L hL
      exact ⟨L', x1, x2, fun L'' => ⟨by simp only [conc]; rw [(x3 L'').1], fun i hi' => (x3 L'').2 i (by simpa [idsA] using hi')⟩⟩
    case ptr id off =>
      obtain ⟨h1, rfl, rfl⟩ := h
      rw [natLt_iff] at h1
      refine ⟨[], hq, by simpa using hL, fun L'' => ⟨by simp only [conc, mL_low h1], fun i hi' => ?_⟩⟩
      simp only [idsA, List.mem_singleton] at hi'
      subst hi'
      exact ⟨.inl ⟨h1, (hok (id, 0) (by simp [idsA])).1⟩, by simp⟩
    all_goals
      obtain ⟨rfl, rfl⟩ := h
      exact ⟨[], hq, by simpa using hL, fun L'' => ⟨by simp [conc], okV_none (by simp [idsA])⟩⟩
end
end
end Go.Ev
end
section
set_option linter.all false
namespace Go.Ev
open Go Go.RowKit

section
variable {cfg : Cfg} (hK : CfgOK cfg) (hRO : ∀ id, id < cfg.root.n → rwO (cfg.root.at id) = false)
theorem get_cw {ws : List AObj} {o1 : Own} (hle : o1.le = []) {id : Nat} : (id < cfg.root.n → get (Cw cfg ws) o1 id = cfg.root.at id) ∧ (∀ j x, ws[j]? = some x → get (Cw cfg ws) o1 (cfg.root.n + j) = x) ∧ (∀ j, get (Cw cfg ws) o1 (cfg.root.n + ws.length + j) = o1.at j) := by
  refine ⟨fun h => ?_, fun j x hj => ?_, fun j => ?_⟩
  · rw [get, getB]
    simp only [Cw]
    rw [bleF (by omega), cond_false, hle]
    simp only [leAt, getB]
    rw [bleF (by omega), cond_false, ble_iff.2 (Nat.zero_le _), cond_true, Nat.sub_zero]
  · have hlt := (List.getElem?_eq_some_iff.1 hj).1
    rw [get, getB]
    simp only [Cw]
    rw [bleF (by omega), cond_false, hle]
    simp only [leAt, getB]
    rw [ble_iff.2 (by omega), cond_true]
    unfold Own.at
    simp only
    rw [List.getD_eq_getElem?_getD, List.getElem?_reverse (by omega), show ws.length - 1 - (ws.length - 1 - (cfg.root.n + j - cfg.root.n)) = j by omega, hj]
    rfl
  · rw [get, getB]
    simp only [Cw]
    rw [ble_iff.2 (by omega), cond_true, show cfg.root.n + ws.length + j - (cfg.root.n + ws.length) = j by omega]
include hK hRO in
theorem cw_inv {C : Ctx} {o : Own} {D : Nat → Prop} {m : Nat → Loc} {w : World} (hi : Inv cfg D m C o w) {L : List Loc} {ws : List AObj} (hL : WOK cfg.root.n D m w L ws) :
    Inv cfg (DL cfg.root.n D L) (mL cfg.root.n m L) (Cw cfg ws) ⟨0, [], []⟩ w := by
  have low : ∀ v, okV D m v → (∀ i ∈ idsA v, i.1 < cfg.root.n) → conc (mL cfg.root.n m L) v = conc m v ∧ okV (DL cfg.root.n D L) (mL cfg.root.n m L) v := fun v hv hb =>
    ⟨conc_congr v fun i hm => mL_low (hb i hm), fun i hm => ⟨.inl ⟨hb i hm, (hv i hm).1⟩, by rw [mL_low (hb i hm)]; exact (hv i hm).2⟩⟩
  have win : ∀ j, j < L.length → ∃ x l, ws[j]? = some x ∧ L[j]? = some l ∧ WRel cfg.root.n D m w x l := fun j h => by
    have h2 : j < ws.length := by rw [← hL.1]; exact h
    exact ⟨_, _, List.getElem?_eq_getElem h2, List.getElem?_eq_getElem h, hL.2 j _ _ (List.getElem?_eq_getElem h2) (List.getElem?_eq_getElem h)⟩
  have mvok : MvOK cfg.root.n [] D (DL cfg.root.n D L) m (mL cfg.root.n m L) := ⟨fun i hd h => ⟨.inl ⟨h, hd⟩, mL_low h⟩, fun i j h => by cases h⟩
  refine ⟨fun id hd => ?_, fun i j hdi hdj hij hl hr => ?_, fun id hd => ?_, fun g hg => ?_, fun id hid => ?_, fun id hid => (by cases hid), by simp only [Cw]; omega, rfl⟩
  · rcases hd with ⟨h1, h2⟩ | ⟨h1, h2⟩
    · rw [(get_cw rfl).1 h1, mL_low h1, ← (hi.root id h1).2]
      exact low_rel mvok (hi.obj id h2) ⟨by rw [(hi.root id h1).2]; exact hK.loops id h1, fun i hm => by rw [(hi.root id h1).2] at hm; exact hK.root id h1 i hm⟩
    · obtain ⟨j, rfl⟩ : ∃ j, id = cfg.root.n + j := ⟨id - cfg.root.n, by omega⟩
      obtain ⟨x, l, hx, hl, cs, rfl, hbl, hok, c, e, fz, hb, hat⟩ := win j (by omega)
      rw [(get_cw (cfg := cfg) (id := 0) rfl).2.1 j _ hx, mL_at hl]
      have hlow : ∀ v ∈ cs, conc (mL cfg.root.n m L) v = conc m v ∧ okV (DL cfg.root.n D L) (mL cfg.root.n m L) v := fun v hv => low v (okL_iff.1 hok v hv) fun i hm => belowL_ok hbl i (mem_idsL.2 ⟨v, hv, hm⟩)
      exact ⟨c, e, fz, hb, ⟨fun i v hv => by rw [hat i v hv, (hlow v (List.mem_of_getElem? hv)).1], okL_iff.2 fun v hv => (hlow v hv).2, fun h => (by cases h), fun s h => (by cases h)⟩⟩
  · exfalso
    rcases hdj with ⟨h1, h2⟩ | ⟨h1, h2⟩
    · rw [(get_cw rfl).1 h1, hRO j h1] at hr; cases hr
    · obtain ⟨k, rfl⟩ : ∃ k, j = cfg.root.n + k := ⟨j - cfg.root.n, by omega⟩
      obtain ⟨x, l, hx, hl', cs, rfl, _⟩ := win k (by omega)
      rw [(get_cw (cfg := cfg) (id := 0) rfl).2.1 k _ hx] at hr
      cases hr
  · rcases hd with ⟨h1, h2⟩ | ⟨h1, h2⟩
    · simp only [Cw]; omega
    · have := hL.1; simp only [Cw]; omega
  · obtain ⟨a1, a2, a3⟩ := hi.glob g hg
    have := hK.G
    exact ⟨.inl ⟨by omega, a1⟩, by rw [mL_low (by omega)]; exact a2, by rw [mL_low (by omega)]; exact a3⟩
  · exact ⟨.inl ⟨hid, (hi.root id hid).1⟩, (get_cw rfl).1 hid⟩

/-- What a known function of slices answers, where it is called. -/
theorem win_ok {P : Program} {f : FuncId} {szs : List Nat} {e : WSum} (hK : CfgOK cfg) (hRO : ∀ id, id < cfg.root.n → rwO (cfg.root.at id) = false) (h : WinOK P cfg f e) : GSumOK P cfg f (winS cfg.root.n szs e) := by
  intro C args o t r ht hr
  unfold winS at ht
  rw [ob_some] at ht
  obtain ⟨⟨args', q⟩, hcan, ht⟩ := ht
  simp only [ob_some, Option.some.injEq] at ht
  obtain ⟨t0, he, rfl⟩ := ht
  obtain ⟨hq, hr⟩ := asrt_run hr
  obtain ⟨⟨v, news⟩, hv, hr⟩ := Tr.run_bind hr
  obtain ⟨hfact, hlow⟩ := h args' q.ws t0 (v, news) he hv
  unfold winR at hr
  obtain ⟨v', hmv, hr⟩ := liftK_run hr
  cases hr
  simp only at hmv hfact hlow ⊢
  refine ⟨fun D m w hi hok => ?_, fun hl => ?_⟩
  · have hW0 : WOK cfg.root.n D m w [] [] := ⟨rfl, fun j x l hj => by simp at hj⟩
    obtain ⟨L', _, hL, hS⟩ := canL_ok hi (d := 20) (fun {v q v' q'} => canA_ok hi) hcan hok hq [] hW0
    have hS := hS []
    simp only [List.nil_append, List.append_nil] at hL hS
    obtain ⟨hc, hok'⟩ := hS
    rw [← hc]
    refine (hfact _ _ w (cw_inv hK hRO hi hL) hok').mono ?_
    rintro V w' ⟨D', m', rfl, hv', hx⟩
    have hlo := hi.lo
    have hframe : ∀ k, k < w.heap.size → w'.heap[k]? = w.heap[k]? := fun k hk => hx.frame k hk fun i hd ho => by
      exfalso
      have hlt : i < cfg.root.n + q.ws.length := by
        rcases hd with ⟨h1, _⟩ | ⟨_, h2⟩
        · omega
        · rw [← hL.1]; exact h2
      unfold own? at ho
      rw [bleF (by simp only [Cw]; omega), cond_false] at ho
      simp [leAt] at ho
    have hfresh : ∀ i, D' i → ¬ DL cfg.root.n D L' i → w.heap.size ≤ (m' i).blk := fun i hd hn => (hx.fresh i hd hn).resolve_right fun ⟨j, hj, ho, _⟩ => by
      have hlt : j < cfg.root.n + q.ws.length := by
        rcases hj with ⟨h1, _⟩ | ⟨_, h2⟩
        · omega
        · rw [← hL.1]; exact h2
      unfold own? at ho
      rw [bleF (by simp only [Cw]; omega), cond_false] at ho
      simp [leAt] at ho
    obtain ⟨D2, hD2⟩ : ∃ D2 : Nat → Prop, D2 = fun id => D id ∨ ∃ j, j < news.length ∧ id = C.lo + o.n + j ∧ D' (cfg.root.n + q.ws.length + j) := ⟨_, rfl⟩
    obtain ⟨m2, hm2⟩ : ∃ m2 : Nat → Loc, m2 = fun id => if id < C.lo + o.n then m id else m' (cfg.root.n + q.ws.length + (id - (C.lo + o.n))) := ⟨_, rfl⟩
    have m2low : ∀ i, i < C.lo + o.n → m2 i = m i := fun i h => by rw [hm2]; simp [h]
    have m2new : ∀ j, m2 (C.lo + o.n + j) = m' (cfg.root.n + q.ws.length + j) := fun j => by
      rw [hm2]
      simp only [if_neg (by omega : ¬ C.lo + o.n + j < C.lo + o.n)]
      rw [show C.lo + o.n + j - (C.lo + o.n) = j by omega]
    have hd'low : ∀ i, D' i → i < cfg.root.n → D i ∧ m' i = m i := fun i hd h => by
      rcases hx.new i hd with h1 | h1
      · have := hx.same i h1
        rcases h1 with ⟨_, h2⟩ | ⟨h2, _⟩
        · exact ⟨h2, by rw [this, mL_low h]⟩
        · omega
      · simp only [Cw] at h1; omega
    have mvok : MvOK cfg.root.n (ups (cfg.root.n + q.ws.length) (C.lo + o.n) news.length) D' D2 m' m2 := by
      refine ⟨fun i hd h => ?_, fun i j hl hd => ?_⟩
      · obtain ⟨a, b⟩ := hd'low i hd h
        exact ⟨by rw [hD2]; exact .inl a, by rw [m2low i (by omega), b]⟩
      · obtain ⟨t, h1, rfl, rfl⟩ := ups_look hl
        exact ⟨by rw [hD2]; exact .inr ⟨t, h1, rfl, hd⟩, m2new t⟩
    obtain ⟨hcv, hokv⟩ := mvA_ok mvok hmv hv'
    have hnl : news.length = (⟨news.length, news, []⟩ : Own).n := rfl
    have gold : ∀ i, i < C.lo + o.n → get C ⟨news.length + o.n, news ++ o.os, o.le⟩ i = get C o i := fun i h => grown_old (o1 := ⟨news.length, news, []⟩) (o := o) rfl h
    have gnew : ∀ j, j < news.length → get C ⟨news.length + o.n, news ++ o.os, o.le⟩ (C.lo + o.n + j) = (⟨news.length, news, []⟩ : Own).at j := fun j h => by
      have := grown_new (C := C) (o1 := ⟨news.length, news, []⟩) (o := o) (i := C.lo + o.n + j) rfl (by omega) (by simp only; omega)
      rw [show C.lo + o.n + j - (C.lo + o.n) = j by omega] at this
      exact this
    have hold : ∀ i, D i → i < C.lo + o.n := hi.lt
    have hnew_low : ∀ j, j < news.length → LowO cfg.root.n ((⟨news.length, news, []⟩ : Own).at j) := fun j h => by
      unfold Own.at
      simp only
      rw [List.getD_eq_getElem?_getD, List.getElem?_eq_getElem (by omega)]
      exact hlow _ (List.getElem_mem _)
    have hinv : Inv cfg D2 m2 C ⟨news.length + o.n, news ++ o.os, o.le⟩ w' := by
      have hi' : Inv cfg D m C o w' := hi.world fun j hj hlv => hframe _ ((hi.obj j hj).in_heap hlv)
      refine ⟨fun id hd => ?_, fun i j hdi hdj hij hl hr => ?_, fun id hd => ?_, fun g hg => ?_, fun id hid => ?_, fun id hid => hi.le id hid, hi.lo, by simp [hi.len]⟩
      · rw [hD2] at hd
        rcases hd with hd | ⟨j, hj, rfl, hd⟩
        · rw [gold id (hold id hd), m2low id (hold id hd)]
          exact (hi'.obj id hd).mono (fun i h => by rw [hD2]; exact .inl h) fun i h => m2low i (hold i h)
        · rw [gnew j hj, m2new]
          have := hx.inv.obj _ hd
          rw [(get_cw (cfg := cfg) (id := 0) rfl).2.2 j] at this
          exact low_rel mvok this (hnew_low j hj)
      · rw [hD2] at hdi hdj
        have isnew : ∀ j, j < news.length → D' (cfg.root.n + q.ws.length + j) → w.heap.size ≤ (m' (cfg.root.n + q.ws.length + j)).blk := fun j hj hd => hfresh _ hd fun h => by
          rcases h with ⟨h1, _⟩ | ⟨_, h2⟩
          · omega
          · rw [hL.1] at h2; omega
        rcases hdi with hdi | ⟨a, ha, rfl, hdi⟩ <;> rcases hdj with hdj | ⟨b, hb, rfl, hdj⟩
        · rw [gold i (hold i hdi)] at hl
          rw [gold j (hold j hdj)] at hr
          rw [m2low i (hold i hdi), m2low j (hold j hdj)]
          exact hi.inj i j hdi hdj hij hl hr
        · rw [gold i (hold i hdi)] at hl
          rw [m2low i (hold i hdi), m2new]
          have h1 := (hi.obj i hdi).in_heap hl
          have h2 := isnew b hb hdj
          omega
        · rw [gold j (hold j hdj)] at hr
          rw [m2low j (hold j hdj), m2new]
          have h1 := (hi.obj j hdj).in_heap (live_of_rw hr)
          have h2 := isnew a ha hdi
          omega
        · rw [gnew a ha] at hl
          rw [gnew b hb] at hr
          rw [m2new, m2new]
          refine hx.inv.inj _ _ hdi hdj (by omega) ?_ ?_
          · rw [(get_cw (cfg := cfg) (id := 0) rfl).2.2 a]; exact hl
          · rw [(get_cw (cfg := cfg) (id := 0) rfl).2.2 b]; exact hr
      · rw [hD2] at hd
        rcases hd with hd | ⟨j, hj, rfl, _⟩
        · have := hold id hd; simp only; omega
        · simp only; omega
      · obtain ⟨a1, a2, a3⟩ := hi.glob g hg
        exact ⟨by rw [hD2]; exact .inl a1, by rw [m2low g (hold g a1)]; exact a2, by rw [m2low g (hold g a1)]; exact a3⟩
      · obtain ⟨a1, a2⟩ := hi.root id hid
        exact ⟨by rw [hD2]; exact .inl a1, by rw [gold id (hold id a1)]; exact a2⟩
    have hfr2 : ∀ i, D2 i → ¬ D i → w.heap.size ≤ (m2 i).blk := fun i h hn => by
      rw [hD2] at h
      rcases h with h | ⟨j, hj, rfl, hd⟩
      · exact absurd h hn
      · rw [m2new]
        refine hfresh _ hd fun h => ?_
        rcases h with ⟨h1, _⟩ | ⟨_, h2⟩
        · omega
        · rw [hL.1] at h2; omega
    refine ⟨D2, m2, hcv.symm, hokv, ⟨hinv, fun i h => by rw [hD2]; exact .inl h, fun i h => m2low i (hold i h), fun i h => ?_, by simp only; omega, hx.os, hx.tape, hx.output, hx.size, fun k hk _ => hframe k hk, rfl, fun i h hn => .inl (hfr2 i h hn)⟩, hframe, hfr2⟩
    rw [hD2] at h
    rcases h with h | ⟨j, hj, rfl, _⟩
    · exact .inl h
    · exact .inr (by omega)
  · exact StepF.grown (o1 := ⟨news.length, news, []⟩) hl rfl
end

section
variable {P : Program} {T : Tab} {cfg : Cfg} (g : Base P T cfg) {S : Sums} (hS : SumsOK P cfg S)
include g hS
/-- A function's run, in pieces; at its end blocks that no one wants are left. -/
theorem Base.wsem {f : FuncId} {fn : Func} {c : Code} (hb : bodyOf T f = some (fn, c)) {args : List AV} {ws : List AObj} (hlen : args.length ≤ 1000) {v : AV} {news : List AObj}
    (h : Sem P (cfgS cfg S) (Cw cfg ws) c (startA fn args ⟨0, [], []⟩) fun x => ∃ r, endA T (Cw cfg ws) fn x = some r ∧ Wk cfg (Cw cfg ws) 0 ⟨.node r.1 .nil .nil, 1, r.2, [], none⟩ fun s => s.o = ⟨news.length, news, []⟩ ∧ s.ts.get 0 = v) : FactW P cfg f args ws v news := by
  intro D m w hi hok
  have hi' : Inv (cfgS cfg S) D m (Cw cfg ws) ⟨0, [], []⟩ w := Inv.to (cfg := cfg) (cfg' := cfgS cfg S) rfl rfl hi
  refine .inl (sem_enter g.tab hb hlen h hi' hok fun r D' m' w' hr hv he => ?_)
  have he' : Ext cfg (Cw cfg ws) D m ⟨0, [], []⟩ w D' m' r.2 w' := Ext.to (cfg := cfgS cfg S) (cfg' := cfg) rfl rfl he
  have ht : TR D' m' ⟨.node r.1 .nil .nil, 1, r.2, [], none⟩ ⟨#[conc m' r.1], []⟩ := by
    refine ⟨rfl, fun t => ?_, fun t => ?_, rfl, fun d hd => (by cases hd), fun i hi => (by cases hi)⟩
    · by_cases e : t = 0
      · subst e; rfl
      · have h1 : (Ts.node r.1 .nil .nil).get t = undefA := by
          rcases Nat.mod_two_eq_zero_or_one t with h2 | h2
          · rw [Ts.get_even _ t e h2]; exact Ts.get_nil _
          · rw [Ts.get_odd _ t e h2]; exact Ts.get_nil _
        rw [h1, conc_undef]
        simp [Array.getD, e]
    · by_cases e : t = 0
      · subst e; exact hv
      · have h1 : (Ts.node r.1 .nil .nil).get t = undefA := by
          rcases Nat.mod_two_eq_zero_or_one t with h2 | h2
          · rw [Ts.get_even _ t e h2]; exact Ts.get_nil _
          · rw [Ts.get_odd _ t e h2]; exact Ts.get_nil _
        rw [h1]; exact okV_undef
  obtain ⟨s, D2, m2, ⟨ho, hvs⟩, h1, _, _, h4, h5⟩ := hr D' m' _ w' he'.inv ht
  have hat := h1.at' 0
  have hok0 := h1.okt 0
  rw [hvs] at hat hok0
  refine ⟨D2, m2, by rw [← hat]; rfl, hok0, ?_⟩
  have := h5 D m ⟨0, [], []⟩ w (Nat.le_refl _) hi.lt he'
  rw [ho] at this
  exact this
/-- A function's run, at once. -/
theorem Base.wask {f : FuncId} {fn : Func} {c : Code} (hb : bodyOf T f = some (fn, c)) {n : Nat} {args : List AV} {ws : List AObj} (hlen : args.length ≤ 1000) {v : AV} {news : List AObj} {D : DT}
    (h : Ev.ask (fun r : AV × Own => Wk cfg (Cw cfg ws) 0 ⟨.node r.1 .nil .nil, 1, r.2, [], none⟩ fun s => s.o = ⟨news.length, news, []⟩ ∧ s.ts.get 0 = v) (codeT T (cfgS cfg S) (orcS S) n (Cw cfg ws) c (startA fn args ⟨0, [], []⟩) fun x => liftK (endA T (Cw cfg ws) fn x) .ret) D) : FactW P cfg f args ws v news := by
  refine g.wsem hS hb hlen ?_
  obtain ⟨a, h1, h2⟩ := ask_run h
  obtain ⟨x, hx, h3⟩ := codeT_run (orcS_ok cfg S) n _ _ _ _ _ h1
  obtain ⟨r, hr, h4⟩ := liftK_run h3
  cases h4
  exact sem_code (g.good hS) hx ⟨_, hr, h2⟩
end
end Go.Ev
end
