/- What an operation leaves as it is; what it looks at. -/
import Derived.Test.YtafekjglclnegaaGreatDoorEw16
set_option linter.all false
namespace Go.Ev
open Go Go.RowKit

def CallFoot (cfg : Cfg) (call : Ctx → FuncId → List AV → Own → Option (AV × Own)) : Prop :=
  ∀ C f args o r, call C f args o = some r → o.os.length = o.n → StepF C o r.2 (namesAt args (cfg.lend f))

theorem keep_foot {C : Ctx} {o : Own} {x : Option AV} {r : AV × Own} {ids : List Nat} (hl : o.os.length = o.n) (h : keep o x = some r) : StepF C o r.2 ids := by
  rw [(keep_some.1 h).2]; exact .refl hl
theorem bar1_ids {x : Option Nat} {id : Nat} (h : x = some id) : footIds (bar1 x) = [id] := by subst h; rfl
section
variable {T : Tab} {cfg : Cfg} {C : Ctx} {o : Own} {ρ : Operand → Option AV}
theorem opA_foot {op : Op} {r : AV × Own} (h : opA T C ρ o op = some r) (hl : o.os.length = o.n) : StepF C o r.2 (footIds (footA cfg ρ op)) := by
  unfold opA at h
  cases op <;> simp only [opSel] at h
  case move => exact keep_foot hl h
  case assign => exact keep_foot hl h
  case pick => exact keep_foot hl h
  case build => exact keep_foot hl h
  case load => exact keep_foot hl h
  case nilCheck => exact keep_foot hl h
  case binOp => exact keep_foot hl h
  case unOp => exact keep_foot hl h
  case makeInterface => exact keep_foot hl h
  case makeFunc => exact keep_foot hl h
  case slice => exact keep_foot hl h
  case fieldAddr => exact keep_foot hl h
  case field => exact keep_foot hl h
  case indexAddr => exact keep_foot hl h
  case index => exact keep_foot hl h
  case lookup => exact keep_foot hl h
  case extract => exact keep_foot hl h
  case alloc =>
    simp only [doAlloc, ob_some, allocV, ok_some, Option.some.injEq] at h
    obtain ⟨z, _, _, rfl⟩ := h; exact .push hl
  case box =>
    simp only [doBox, ob_some, allocV, ok_some, Option.some.injEq] at h
    obtain ⟨z, _, _, rfl⟩ := h; exact .push hl
  case buildSlice =>
    simp only [doBuildSlice, buildSliceA, ob_some, ok_some, Option.some.injEq] at h
    obtain ⟨_, _, _, _, _, _, _, _, _, _, _, _, rfl⟩ := h; exact .push hl
  case makeMap =>
    simp only [doMakeMap, ok_some, Option.some.injEq] at h
    obtain ⟨_, rfl⟩ := h; exact .push hl
  case makeSlice =>
    simp only [doMakeSlice, makeSliceA, ob_some, ok_some, Option.some.injEq] at h
    obtain ⟨_, _, _, _, _, _, _, _, _, _, _, _, _, _, _, rfl⟩ := h; exact .push hl
  case range =>
    simp only [doRange, ob_some] at h
    obtain ⟨v, _, h⟩ := h
    cases v <;> simp only [rangeA, reduceCtorEq, ok_some, Option.some.injEq] at h
    obtain ⟨_, rfl⟩ := h; exact .push hl
  case convert =>
    simp only [doConvert, ob_some] at h
    obtain ⟨v, _, h⟩ := h
    cases v <;> simp only [convertA, reduceCtorEq, ok_some] at h
    · exact keep_foot hl h.2
    · obtain ⟨_, h⟩ := h
      unfold convStr at h
      split at h
      · cases h; exact .refl hl
      · simp only [ok_some, Option.some.injEq] at h
        obtain ⟨_, rfl⟩ := h; exact .push hl
      · cases h
    · exact keep_foot hl h
  case store t a x =>
    simp only [doStore, ob_some, Option.some.injEq] at h
    obtain ⟨p, hp, v, hv, o', hs, rfl⟩ := h
    cases p <;> simp only [storeA, reduceCtorEq, ob_some, ok_some] at hs
    rename_i id off
    obtain ⟨_, _, _, hs⟩ := hs
    have e : footIds (footA cfg ρ (.store t a x)) = [id] := bar1_ids (by rw [hp]; rfl)
    rw [e]
    exact writeA_foot hs hl (by simp)
  case insert t m k x =>
    simp only [doMapUp, ob_some] at h
    obtain ⟨p, hp, kv, hk, v, hv, h⟩ := h
    simp only [mapUpA, ob_some, ok_some] at h
    obtain ⟨_, _, _, h⟩ := h
    cases p <;> simp only [insertA, reduceCtorEq, ob_some] at h
    rename_i id
    obtain ⟨_, _, es, _, fr, _, h⟩ := h
    have e : footIds (footA cfg ρ (.insert t m k x)) = [id] := bar1_ids (by rw [hp]; rfl)
    rw [e]
    cases fr <;> simp only [reduceCtorEq, Option.some.injEq] at h
    subst h
    exact .put hl (by simp)
  case mapUpdate t m k x =>
    simp only [doMapUp, ob_some] at h
    obtain ⟨p, hp, kv, hk, v, hv, h⟩ := h
    simp only [mapUpA, ob_some, ok_some] at h
    obtain ⟨_, _, _, h⟩ := h
    cases p <;> simp only [insertA, reduceCtorEq, ob_some] at h
    rename_i id
    obtain ⟨_, _, es, _, fr, _, h⟩ := h
    have e : footIds (footA cfg ρ (.mapUpdate t m k x)) = [id] := bar1_ids (by rw [hp]; rfl)
    rw [e]
    cases fr <;> simp only [reduceCtorEq, Option.some.injEq] at h
    subst h
    exact .put hl (by simp)
  case next it s =>
    simp only [doNext, ob_some, ok_some] at h
    obtain ⟨_, p, hp, h⟩ := h
    unfold nextA at h
    split at h
    · rename_i id
      simp only [ob_some] at h
      obtain ⟨x, _, h⟩ := h
      have e : footIds (footA cfg ρ (.next it s)) = [id] := bar1_ids (by rw [hp]; rfl)
      rw [e]
      cases x <;> simp only [nextObj, reduceCtorEq, Option.some.injEq] at h
      subst h
      unfold nextS
      cases natLt _ _ with
      | true => exact .put hl (by simp)
      | false => exact .refl hl
    · cases h
  all_goals cases h

theorem stepA_foot {call : Ctx → FuncId → List AV → Own → Option (AV × Own)} (hc : CallFoot cfg call) {op : Op} {r : AV × Own} (h : stepA T call rnd0 C ρ o op = some r) (hl : o.os.length = o.n) :
    StepF C o r.2 (footIds (footA cfg ρ op)) := by
  unfold stepA at h
  split at h
  · rename_i c
    unfold callC at h
    cases hcal : c.callee with
    | value f =>
      simp only [hcal, ob_some] at h
      obtain ⟨fv, hf, vs, hvs, h⟩ := h
      cases fv <;> simp only [callV, rnd0, reduceCtorEq] at h
      rename_i fid first captured
      have e : footIds (footA cfg ρ (.call c)) = namesAt (first ++ vs ++ captured) (cfg.lend fid) := by
        simp only [footA, hcal, footC, hf, hvs, footF]
        cases namesAt (first ++ vs ++ captured) (cfg.lend fid) <;> rfl
      rw [e]
      exact hc C fid _ o r h hl
    | builtin b =>
      simp only [hcal, ob_some] at h
      obtain ⟨vs, hvs, h⟩ := h
      have h0 := mapAll_get hvs 0
      have hn : ∀ x y, vs = [x, y] → ∀ id, nameOf x = some id → footIds (bar1 (ob c.args.toList[0]? fun x => ob (ρ x) nameOf)) = [id] := by
        rintro x y rfl id hid
        refine bar1_ids ?_
        simp only [List.getElem?_cons_zero] at h0
        cases hx : c.args.toList[0]? with
        | none => rw [hx] at h0; cases h0
        | some a => rw [hx] at h0; simp only [Option.bind_some] at h0; simp only [ob, h0, hid]
      unfold builtinA at h
      cases b <;> simp only [reduceCtorEq] at h
      case len => exact keep_foot hl h
      case cap => exact keep_foot hl h
      case min => exact keep_foot hl h
      case max => exact keep_foot hl h
      case append =>
        have e : footA cfg ρ (.call c) = bar1 (ob c.args.toList[0]? fun x => ob (ρ x) nameOf) := by simp only [footA, hcal, footC, footB]
        rw [e]
        simp only [ob_some] at h
        obtain ⟨t, _, u, _, h⟩ := h
        unfold two at h
        split at h
        · rename_i s x
          simp only [appendA, ob_some, ok_some] at h
          obtain ⟨_, _, _, _, _, _, _, n, _, _, _, h⟩ := h
          cases hz : Nat.beq n 0 with
          | true =>
            simp only [hz, cond_true, ok_some, Option.some.injEq] at h
            obtain ⟨_, rfl⟩ := h; exact .refl hl
          | false =>
            simp only [hz, cond_false, ob_some, ok_some] at h
            obtain ⟨_, _, _, _, h⟩ := h
            refine appendTo_foot h hl fun id hid => ?_
            rw [hn s x rfl id hid]
            simp
        · cases h
      case copy =>
        have e : footA cfg ρ (.call c) = bar1 (ob c.args.toList[0]? fun x => ob (ρ x) nameOf) := by simp only [footA, hcal, footC, footB]
        rw [e]
        simp only [ob_some] at h
        obtain ⟨t, _, h⟩ := h
        unfold two at h
        split at h
        · rename_i d s
          simp only [copyA, ob_some, ok_some] at h
          obtain ⟨_, _, _, _, _, _, _, _, _, _, _, h⟩ := h
          cases d with
          | slice id off len c' =>
            simp only [copyTo, ob_some, ok_some, Option.some.injEq] at h
            obtain ⟨_, o', hw, rfl⟩ := h
            rw [hn _ s rfl id rfl]
            exact writeA_foot hw hl (by simp)
          | nilslice =>
            simp only [copyTo, Option.some.injEq] at h
            subst h; exact .refl hl
          | _ => cases h
        · cases h
    | invoke x n => simp [hcal] at h
  · rename_i hne
    exact opA_foot h hl
end
end Go.Ev
