/- An operation that writes nothing comes out the same wherever the blocks that it reads are the same. -/
import Derived.Test.YtafekjglclnegaaGreatDoorEw18
set_option linter.all false
namespace Go.Ev
open Go Go.RowKit

def pushes (l : List AObj) (o : Own) : Own := ⟨o.n + l.length, l ++ o.os, o.le⟩
theorem pushes_nil (o : Own) : pushes [] o = o := rfl
theorem pushes_one (o : Own) (x : AObj) : pushes [x] o = o.push x := rfl
/-- The same outcome elsewhere. -/
def Same (o o' : Own) (r : AV × Own) (y : Option (AV × Own)) : Prop := ∃ l, r.2 = pushes l o ∧ y = some (r.1, pushes l o')
theorem keep_same {o o' : Own} {x y : Option AV} {r : AV × Own} (h : keep o x = some r) (e : y = x) : Same o o' r (keep o' y) := by
  obtain ⟨h1, h2⟩ := keep_some.1 h
  subst e
  exact ⟨[], h2, by rw [h1]; rfl⟩
theorem push_same {o o' : Own} {v : AV} {x : AObj} : Same o o' (v, o.push x) (some (v, o'.push x)) := ⟨[x], rfl, rfl⟩
theorem ok_true {α : Type} {b : Bool} {x : Option α} (h : b = true) : ok b x = x := by subst h; rfl
def quietK : Kind → Bool
  | .free | .alloc | .load | .look => true
  | _ => false
def readsK : Kind → Bool
  | .load | .look => true
  | _ => false
section
variable {T : Tab} {cfg : Cfg} {C C' : Ctx} {o o' : Own} {ρ : Operand → Option AV}
theorem allocV_same {v : AV} {r : AV × Own} (hn : C'.lo + o'.n = C.lo + o.n) (h : allocV C o v = some r) : Same o o' r (allocV C' o' v) := by
  simp only [allocV, ok_some, Option.some.injEq] at h
  obtain ⟨h1, rfl⟩ := h
  rw [allocV, ok_some.2 ⟨h1, rfl⟩, Own.next, Own.next, hn]
  exact push_same
theorem readA_same {id off n : Nat} (hg : get C' o' id = get C o id) : readA C' o' id off n = readA C o id off n := by
  simp only [readA, hg]
theorem opA_same {op : Op} {r : AV × Own} (hk : quietK (kindOp op) = true) (h : opA T C ρ o op = some r) (hn : C'.lo + o'.n = C.lo + o.n)
    (hg : readsK (kindOp op) = true → ∀ x ∈ op.operands.toList, ∀ v id, ρ x = some v → nameOf v = some id → get C' o' id = get C o id) : Same o o' r (opA T C' ρ o' op) := by
  unfold opA at h ⊢
  cases op <;> simp only [opSel] at h ⊢
  case move => exact keep_same h rfl
  case assign => exact keep_same h rfl
  case pick => exact keep_same h rfl
  case build => exact keep_same h rfl
  case nilCheck => exact keep_same h rfl
  case binOp => exact keep_same h rfl
  case unOp => exact keep_same h rfl
  case makeInterface => exact keep_same h rfl
  case makeFunc => exact keep_same h rfl
  case slice => exact keep_same h rfl
  case fieldAddr => exact keep_same h rfl
  case field => exact keep_same h rfl
  case indexAddr => exact keep_same h rfl
  case index => exact keep_same h rfl
  case extract => exact keep_same h rfl
  case load t a =>
    refine keep_same h ?_
    obtain ⟨h1, _⟩ := keep_some.1 h
    simp only [ob_some] at h1
    obtain ⟨v, hv, h1⟩ := h1
    rw [hv]
    cases v <;> simp only [loadA, reduceCtorEq] at h1
    simp only [ob, loadA]
    rw [hg rfl a (by simp [Op.operands]) _ _ hv rfl]
  case lookup t a k ok' =>
    refine keep_same h ?_
    obtain ⟨h1, _⟩ := keep_some.1 h
    simp only [ob_some] at h1
    obtain ⟨v, hv, kv, hkv, h1⟩ := h1
    rw [hv, hkv]
    simp only [lookA, ob_some, ok_some] at h1
    obtain ⟨_, _, _, h1⟩ := h1
    cases v <;> simp only [lookupA, reduceCtorEq] at h1
    simp only [ob, lookA, lookupA]
    rw [hg rfl a (by simp [Op.operands]) _ _ hv rfl]
  case alloc t =>
    simp only [doAlloc, ob_some] at h
    obtain ⟨z, hz, h⟩ := h
    simp only [doAlloc, hz, ob]
    exact allocV_same hn h
  case box t x =>
    simp only [doBox, ob_some] at h
    obtain ⟨z, hz, h⟩ := h
    simp only [doBox, hz, ob]
    exact allocV_same hn h
  case buildSlice t len ps =>
    simp only [doBuildSlice, buildSliceA, ob_some, ok_some, Option.some.injEq] at h
    obtain ⟨e, he, n, hsz, z, hz, ps', hps, h1, cs, hcs, h2, rfl⟩ := h
    simp only [doBuildSlice, buildSliceA, he, hsz, hz, hps, ob, ok_true h1, hcs, ok_true h2, Own.next, hn]
    exact push_same
  case convert s d x =>
    simp only [doConvert, ob_some] at h
    obtain ⟨v, hv, h⟩ := h
    simp only [doConvert, hv, ob]
    cases v <;> simp only [convertA, reduceCtorEq, ok_some] at h ⊢
    · rw [ok_true h.1]; exact keep_same h.2 rfl
    · obtain ⟨h1, h⟩ := h
      rw [ok_true h1]
      unfold convStr at h ⊢
      split at h
      · cases h; exact ⟨[], rfl, rfl⟩
      · simp only [ok_some, Option.some.injEq] at h
        obtain ⟨h2, rfl⟩ := h
        rw [ok_true h2, Own.next, Own.next, hn]
        exact push_same
      · cases h
    · rename_i id off len c
      refine keep_same h ?_
      have hgi := hg rfl x (by simp [Op.operands]) _ _ hv rfl
      simp only [convSlice, readA_same hgi]
  all_goals first | cases h | cases hk
theorem stepA_same {call call' : Ctx → FuncId → List AV → Own → Option (AV × Own)} {op : Op} {r : AV × Own} (hk : quietK (kindOp op) = true) (h : stepA T call rnd0 C ρ o op = some r) (hn : C'.lo + o'.n = C.lo + o.n)
    (hg : readsK (kindOp op) = true → ∀ x ∈ op.operands.toList, ∀ v id, ρ x = some v → nameOf v = some id → get C' o' id = get C o id) : Same o o' r (stepA T call' rnd0 C' ρ o' op) := by
  unfold stepA at h ⊢
  split at h
  · rename_i c
    unfold callC at h ⊢
    simp only [kindOp] at hk
    cases hcal : c.callee with
    | value f => rw [hcal] at hk; cases hk
    | invoke x n => rw [hcal] at hk; cases hk
    | builtin b =>
      simp only [hcal, ob_some] at h ⊢
      obtain ⟨vs, hvs, h⟩ := h
      rw [hvs]
      simp only [ob]
      rw [hcal] at hk
      unfold builtinA at h ⊢
      cases b <;> first | exact keep_same h rfl | cases hk
  · exact opA_same hk h hn hg
end
end Go.Ev
