/- An operation looks at its operands, and at blocks by their names. -/
import Derived.Test.YtafekjglclnegaaGreatDoorEw17
set_option linter.all false
namespace Go.Ev
open Go Go.RowKit

theorem mapAll_congr {ρ ρ' : Operand → Option AV} : ∀ {xs : List Operand}, (∀ x ∈ xs, ρ x = ρ' x) → mapAll ρ xs = mapAll ρ' xs
  | [], _ => rfl
  | x :: xs, h => by
    simp only [mapAll]
    rw [h x List.mem_cons_self, mapAll_congr fun y hy => h y (List.mem_cons_of_mem _ hy)]
theorem partsA_congr {ρ ρ' : Operand → Option AV} : ∀ {xs : List (Nat × Operand)}, (∀ x ∈ xs.map (·.2), ρ x = ρ' x) → partsA ρ xs = partsA ρ' xs
  | [], _ => rfl
  | x :: xs, h => by
    simp only [partsA]
    rw [h x.2 (by simp), partsA_congr fun y hy => h y (by simp at hy ⊢; exact .inr hy)]
theorem optA_congr {ρ ρ' : Operand → Option AV} {x : Option Operand} (h : ∀ y ∈ x.toArray.toList, ρ y = ρ' y) : optA ρ x = optA ρ' x := by
  cases x with
  | none => rfl
  | some y => simp only [optA]; rw [h y (by simp)]
section
variable {T : Tab} {cfg : Cfg} {C : Ctx} {o : Own} {ρ ρ' : Operand → Option AV}
theorem opA_congr {op : Op} (h : ∀ x ∈ op.operands.toList, ρ x = ρ' x) : opA T C ρ o op = opA T C ρ' o op := by
  unfold opA
  cases op <;> simp only [opSel]
  case move => simp only [doMove]; rw [h _ (by simp [Op.operands])]
  case assign => simp only [doMove]; rw [h _ (by simp [Op.operands])]
  case pick c a b => simp only [doPick]; rw [h c (by simp [Op.operands]), h a (by simp [Op.operands]), h b (by simp [Op.operands])]
  case alloc => rfl
  case box => simp only [doBox]; rw [h _ (by simp [Op.operands])]
  case build t ps => simp only [doBuild, buildA]; rw [partsA_congr fun x hx => h x (by simpa [Op.operands] using hx)]
  case buildSlice t l ps => simp only [doBuildSlice, buildSliceA]; rw [partsA_congr fun x hx => h x (by simpa [Op.operands] using hx)]
  case load => simp only [doLoad]; rw [h _ (by simp [Op.operands])]
  case store t a x => simp only [doStore]; rw [h a (by simp [Op.operands]), h x (by simp [Op.operands])]
  case nilCheck => simp only [doNilCheck]; rw [h _ (by simp [Op.operands])]
  case binOp op t x y u => simp only [doBin]; rw [h x (by simp [Op.operands]), h y (by simp [Op.operands])]
  case unOp => simp only [doUn]; rw [h _ (by simp [Op.operands])]
  case convert => simp only [doConvert]; rw [h _ (by simp [Op.operands])]
  case makeInterface => simp only [doIface]; rw [h _ (by simp [Op.operands])]
  case makeFunc f a b =>
    simp only [doFunc]
    cases f with
    | func f => simp only [makeFuncA]; rw [mapAll_congr fun x hx => h x (by simp [Op.operands, hx]), mapAll_congr fun x hx => h x (by simp [Op.operands, hx])]
    | _ => rfl
  case makeMap => rfl
  case insert t m k x => simp only [doMapUp]; rw [h m (by simp [Op.operands]), h k (by simp [Op.operands]), h x (by simp [Op.operands])]
  case mapUpdate t m k x => simp only [doMapUp]; rw [h m (by simp [Op.operands]), h k (by simp [Op.operands]), h x (by simp [Op.operands])]
  case makeSlice t l c => simp only [doMakeSlice]; rw [h l (by simp [Op.operands]), h c (by simp [Op.operands])]
  case slice t x lo hi mx =>
    simp only [doSlice]
    rw [h x (by simp [Op.operands]), optA_congr (x := lo) fun y hy => h y (by simp at hy; simp [Op.operands, hy]), optA_congr (x := hi) fun y hy => h y (by simp at hy; simp [Op.operands, hy]), optA_congr (x := mx) fun y hy => h y (by simp at hy; simp [Op.operands, hy])]
  case fieldAddr => simp only [doFieldAddr]; rw [h _ (by simp [Op.operands])]
  case field => simp only [doField]; rw [h _ (by simp [Op.operands])]
  case indexAddr t x i => simp only [doIndexAddr]; rw [h x (by simp [Op.operands]), h i (by simp [Op.operands])]
  case index t x i => simp only [doIndex]; rw [h x (by simp [Op.operands]), h i (by simp [Op.operands])]
  case lookup t x i k => simp only [doLookup]; rw [h x (by simp [Op.operands]), h i (by simp [Op.operands])]
  case range => simp only [doRange]; rw [h _ (by simp [Op.operands])]
  case next => simp only [doNext]; rw [h _ (by simp [Op.operands])]
  case extract => simp only [doExtract]; rw [h _ (by simp [Op.operands])]
  all_goals rfl
theorem stepA_congr {call : Ctx → FuncId → List AV → Own → Option (AV × Own)} {op : Op} (h : ∀ x ∈ op.operands.toList, ρ x = ρ' x) : stepA T call rnd0 C ρ o op = stepA T call rnd0 C ρ' o op := by
  unfold stepA
  split
  · rename_i c
    unfold callC
    cases hcal : c.callee with
    | value f =>
      simp only
      rw [h f (by simp [Op.operands, Call.operands, hcal]), mapAll_congr fun x hx => h x (by simp [Op.operands, Call.operands, hcal, hx])]
    | builtin b =>
      simp only
      rw [mapAll_congr fun x hx => h x (by simp [Op.operands, Call.operands, hcal, hx])]
    | invoke x n => rfl
  · exact opA_congr h
theorem footA_congr {op : Op} (h : ∀ x ∈ op.operands.toList, ρ x = ρ' x) : footA cfg ρ op = footA cfg ρ' op := by
  cases op <;> simp only [footA, kindOp, footK]
  case load => rw [h _ (by simp [Op.operands])]
  case store t a x => rw [h a (by simp [Op.operands])]
  case insert t m k x => rw [h m (by simp [Op.operands])]
  case mapUpdate t m k x => rw [h m (by simp [Op.operands])]
  case next => rw [h _ (by simp [Op.operands])]
  case call c =>
    cases hcal : c.callee with
    | value f =>
      simp only [footC]
      rw [h f (by simp [Op.operands, Call.operands, hcal]), mapAll_congr fun x hx => h x (by simp [Op.operands, Call.operands, hcal, hx])]
    | builtin b =>
      have : (c.args.toList[0]?.elim none fun x => (ρ x).bind nameOf) = (c.args.toList[0]?.elim none fun x => (ρ' x).bind nameOf) := by
        cases hx : c.args.toList[0]? with
        | none => rfl
        | some a => simp only [Option.elim]; rw [h a (by have := List.mem_of_getElem? hx; simp at this; simp [Op.operands, Call.operands, hcal, this])]
      have : (ob c.args.toList[0]? fun x => ob (ρ x) nameOf) = (ob c.args.toList[0]? fun x => ob (ρ' x) nameOf) := by
        cases hx : c.args.toList[0]? with
        | none => rfl
        | some a => simp only [ob]; rw [h a (by have := List.mem_of_getElem? hx; simp at this; simp [Op.operands, Call.operands, hcal, this])]
      cases b <;> simp only [footC, footB, this]
    | invoke x n => rfl
end
end Go.Ev
