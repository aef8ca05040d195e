/- The reckoner's symbolic run: a tree of tests. What it answers along any road is what the reckoner answers where the road's tests hold. -/
import Derived.Test.YticbodgiogmldaaGreatDoorEw31
set_option linter.all false
namespace Go.Ev
open Go

inductive Tr (R : Type) where
  | ret (a : R)
  | fail
  | test (b : Bool) (k : Bool → Tr R)
  | pickN (i : Nat) (k : Nat → Tr R)
  | all (k : (Nat → Value) → Tr R)
def Tr.run {R : Type} : Tr R → Option R
  | .ret a => some a
  | .fail => none
  | .test b k => (k b).run
  | .pickN i k => (k i).run
  | .all _ => none
def Tr.bind {R S : Type} : Tr R → (R → Tr S) → Tr S
  | .ret a, K => K a
  | .fail, _ => .fail
  | .test b k, K => .test b fun d => (k d).bind K
  | .pickN i k, K => .pickN i fun d => (k d).bind K
  | .all _, _ => .fail
theorem Tr.run_bind {R S : Type} {K : R → Tr S} {s : S} : ∀ {t : Tr R}, (t.bind K).run = some s → ∃ a, t.run = some a ∧ (K a).run = some s
  | .ret a, h => ⟨a, rfl, h⟩
  | .fail, h => by cases h
  | .test b k, h => Tr.run_bind (t := k b) h
  | .pickN i k, h => Tr.run_bind (t := k i) h
  | .all k, h => by cases h

/-- What holds of all that may come. -/
def Tr.wp {R : Type} (Q : R → Prop) : Tr R → Prop
  | .ret a => Q a
  | .fail => False
  | .test b k => (k b).wp Q
  | .pickN i k => (k i).wp Q
  | .all k => ∀ J, (k J).wp Q
/-- One tree behind another one, of which all may come. -/
def Tr.then {R S : Type} : Tr R → (R → Tr S) → Tr S
  | .ret a, K => K a
  | .fail, _ => .fail
  | .test b k, K => .test b fun d => (k d).then K
  | .pickN i k, K => .pickN i fun d => (k d).then K
  | .all k, K => .all fun J => (k J).then K
theorem Tr.wp_bind {R S : Type} {K : R → Tr S} {Q : S → Prop} : ∀ {t : Tr R}, (t.bind K).wp Q → ∃ a, t.run = some a ∧ (K a).wp Q
  | .ret a, h => ⟨a, rfl, h⟩
  | .fail, h => h.elim
  | .test b k, h => Tr.wp_bind (t := k b) h
  | .pickN i k, h => Tr.wp_bind (t := k i) h
  | .all k, h => h.elim
theorem Tr.wp_then {R S : Type} {K : R → Tr S} {Q : S → Prop} : ∀ {t : Tr R}, (t.then K).wp Q → t.wp fun a => (K a).wp Q
  | .ret a, h => h
  | .fail, h => h
  | .test b k, h => Tr.wp_then (t := k b) h
  | .pickN i k, h => Tr.wp_then (t := k i) h
  | .all k, h => fun J => Tr.wp_then (t := k J) (h J)
theorem Tr.wp_mono {R : Type} {Q Q' : R → Prop} (hq : ∀ a, Q a → Q' a) : ∀ {t : Tr R}, t.wp Q → t.wp Q'
  | .ret a, h => hq a h
  | .fail, h => h
  | .test b k, h => Tr.wp_mono hq (t := k b) h
  | .pickN i k, h => Tr.wp_mono hq (t := k i) h
  | .all k, h => fun J => Tr.wp_mono hq (t := k J) (h J)
section
variable {R : Type}
def liftK {α : Type} (x : Option α) (K : α → Tr R) : Tr R := match x with
  | some a => K a
  | none => .fail
def asrt (b : Bool) (t : Tr R) : Tr R := .test b fun d => bif d then t else .fail
theorem liftK_run {α : Type} {x : Option α} {K : α → Tr R} {s : R} (h : (liftK x K).run = some s) : ∃ a, x = some a ∧ (K a).run = some s := by
  cases x with
  | none => cases h
  | some a => exact ⟨a, rfl, h⟩
theorem asrt_run {b : Bool} {t : Tr R} {s : R} (h : (asrt b t).run = some s) : b = true ∧ t.run = some s := by
  cases b with
  | true => exact ⟨rfl, h⟩
  | false => cases h
theorem bif_run {b : Bool} {t : Tr R} {s : R} (h : (bif b then t else Tr.fail).run = some s) : b = true ∧ t.run = some s := by
  cases b with
  | true => exact ⟨rfl, h⟩
  | false => cases h

/- numbers -/
def inR (k : IntKind) (n : Int) : Bool := intLe (loK k) n && intLe n (hiK k)
def mkIntT (k : IntKind) (n : Int) (K : AV → Tr R) : Tr R := .test (inR k n) fun b => bif b then K (.int k n) else K (.int k (k.wrap n))
theorem mkIntT_run {k : IntKind} {n : Int} {K : AV → Tr R} {s : R} (h : (mkIntT k n K).run = some s) : ∃ v, mkInt k n = some v ∧ (K v).run = some s := by
  unfold mkIntT at h
  simp only [Tr.run] at h
  rw [mkInt, outI_eq, wrapA]
  cases hb : inR k n with
  | true => rw [hb, cond_true] at h; unfold inR at hb; exact ⟨_, by rw [hb]; rfl, h⟩
  | false => rw [hb, cond_false] at h; unfold inR at hb; exact ⟨_, by rw [hb]; rfl, h⟩
/-- Bits: the number is there at once. -/
def bitT (k : IntKind) (n : Nat) (K : AV → Tr R) : Tr R := asrt (inR k (.ofNat n)) (K (.int k (.ofNat n)))
theorem bitT_run {k : IntKind} {n : Nat} {K : AV → Tr R} {s : R} (h : (bitT k n K).run = some s) : ∃ v, mkInt k n = some v ∧ (K v).run = some s := by
  obtain ⟨h1, h2⟩ := asrt_run h
  refine ⟨_, ?_, h2⟩
  unfold inR at h1
  rw [mkInt, outI_eq, wrapA, show ((n : Nat) : Int) = Int.ofNat n from rfl, h1]; rfl
abbrev BinT (R : Type) : Type := IntKind → Int → Int → (AV → Tr R) → Tr R
def bAddT : BinT R := fun k a b K => mkIntT k (Int.add a b) K
def bSubT : BinT R := fun k a b K => mkIntT k (Int.sub a b) K
def bMulT : BinT R := fun k a b K => mkIntT k (Int.mul a b) K
def bQuoT : BinT R := fun k a b K => asrt (!(intEq b 0)) (mkIntT k (Int.tdiv a b) K)
def bRemT : BinT R := fun k a b K => asrt (!(intEq b 0)) (K (.int k (Int.tmod a b)))
def bLiftT (f : BinF) : BinT R := fun k a b K => liftK (f k a b) K
def binSelT : BinOp → BinT R
  | .add => bAddT
  | .sub => bSubT
  | .mul => bMulT
  | .quo => bQuoT
  | .rem => bRemT
  | .and => fun k x y K => bitT k (BitVec.ofInt k.bits x &&& BitVec.ofInt k.bits y).toNat K
  | .or => fun k x y K => bitT k (BitVec.ofInt k.bits x ||| BitVec.ofInt k.bits y).toNat K
  | .xor => fun k x y K => bitT k (BitVec.ofInt k.bits x ^^^ BitVec.ofInt k.bits y).toNat K
  | .andNot => fun k x y K => bitT k (BitVec.ofInt k.bits x &&& ~~~BitVec.ofInt k.bits y).toNat K
  | .eql => bLiftT bEql
  | .neq => bLiftT bNeq
  | .lss => bLiftT bLss
  | .leq => bLiftT bLeq
  | .gtr => bLiftT bGtr
  | .geq => bLiftT bGeq
  | .shl => bLiftT bNone
  | .shr => bLiftT bNone
theorem binSelT_run {op : BinOp} {k : IntKind} {a b : Int} {K : AV → Tr R} {s : R} (h : (binSelT op k a b K).run = some s) : ∃ v, binSel op k a b = some v ∧ (K v).run = some s := by
  have mk : ∀ {n : Int}, (mkIntT k n K).run = some s → ∃ v, mkInt k n = some v ∧ (K v).run = some s := mkIntT_run
  cases op <;> simp only [binSelT, binSel] at h ⊢
  case add => exact mk h
  case sub => exact mk h
  case mul => exact mk h
  case quo =>
    obtain ⟨h1, h2⟩ := asrt_run h
    obtain ⟨v, h3, h4⟩ := mk h2
    exact ⟨v, by rw [bQuo, h1]; exact h3, h4⟩
  case rem =>
    obtain ⟨h1, h2⟩ := asrt_run h
    exact ⟨_, by rw [bRem, h1, outI_eq]; rfl, h2⟩
  case and => exact bitT_run h
  case or => exact bitT_run h
  case xor => exact bitT_run h
  case andNot => exact bitT_run h
  all_goals exact liftK_run h
def binIT (op : BinOp) (k : IntKind) (a : Int) (y : AV) (K : AV → Tr R) : Tr R := match y with
  | .int k' b => bif isShift op then liftK (shiftA op k a b) K else bif sameK k k' then binSelT op k a b K else .fail
  | _ => .fail
theorem binIT_run {op : BinOp} {k : IntKind} {a : Int} {y : AV} {K : AV → Tr R} {s : R} (h : (binIT op k a y K).run = some s) : ∃ v, binI op k a y = some v ∧ (K v).run = some s := by
  cases y <;> simp only [binIT] at h <;> first | (cases h; done) | skip
  simp only [binI]
  cases hs : isShift op with
  | true => rw [hs] at h; exact liftK_run h
  | false =>
    rw [hs] at h
    simp only [cond_false] at h ⊢
    obtain ⟨h1, h2⟩ := bif_run h
    rw [h1]
    exact binSelT_run h2
def binST (op : BinOp) (a : List UInt8) (y : AV) (K : AV → Tr R) : Tr R := match y with
  | .str b => match op with
    | .add => asrt (Nat.ble (a.length + b.length) 1000000) (K (.str (a ++ b)))
    | op => liftK (cmpA op (bytesLt a b) (bytesEq a b)) K
  | _ => .fail
theorem binST_run {op : BinOp} {a : List UInt8} {y : AV} {K : AV → Tr R} {s : R} (h : (binST op a y K).run = some s) : ∃ v, binS op a y = some v ∧ (K v).run = some s := by
  cases y <;> simp only [binST] at h <;> first | (cases h; done) | skip
  cases op <;> simp only [binS] at h ⊢
  case add =>
    obtain ⟨h1, h2⟩ := asrt_run h
    exact ⟨_, by rw [h1]; rfl, h2⟩
  all_goals exact liftK_run h
end
end Go.Ev
