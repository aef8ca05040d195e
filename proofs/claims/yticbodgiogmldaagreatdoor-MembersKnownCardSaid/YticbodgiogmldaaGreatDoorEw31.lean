/- Tables of calls that have been reckoned: each is a known function's answer for the next. -/
import Derived.Test.YticbodgiogmldaaGreatDoorEw28b
set_option linter.all false
namespace Go.Ev
open Go

def eqBool (x : Bool) : AV → Bool
  | .bool y => boolEq x y
  | _ => false
def eqInt (k : IntKind) (x : Int) : AV → Bool
  | .int l y => sameK k l && intEq x y
  | _ => false
def eqStr (x : List UInt8) : AV → Bool
  | .str y => bytesEq x y
  | _ => false
def eqPtr (i o : Nat) : AV → Bool
  | .ptr j p => Nat.beq i j && Nat.beq o p
  | _ => false
def eqNilptr : AV → Bool
  | .nilptr => true
  | _ => false
def eqNilslice : AV → Bool
  | .nilslice => true
  | _ => false
def eqNiliface : AV → Bool
  | .niliface => true
  | _ => false
def eqIface (t : TypeId) (f : AV → Bool) : AV → Bool
  | .iface u v => Nat.beq t u && f v
  | _ => false
def eqAgg (f : List AV → Bool) : AV → Bool
  | .agg vs => f vs
  | _ => false
def eqTuple (f : List AV → Bool) : AV → Bool
  | .tuple vs => f vs
  | _ => false
def allEq (f : AV → AV → Bool) : List AV → List AV → Bool
  | [], [] => true
  | x :: xs, y :: ys => f x y && allEq f xs ys
  | _, _ => false
/-- The same plain value. -/
def avEq : Nat → AV → AV → Bool
  | 0, _ => fun _ => false
  | d + 1, a => match a with
    | .bool x => eqBool x
    | .int k x => eqInt k x
    | .str x => eqStr x
    | .ptr i o => eqPtr i o
    | .nilptr => eqNilptr
    | .nilslice => eqNilslice
    | .niliface => eqNiliface
    | .iface t v => eqIface t (avEq d v)
    | .agg xs => eqAgg (allEq (avEq d) xs)
    | .tuple xs => eqTuple (allEq (avEq d) xs)
    | _ => fun _ => false
theorem allEq_eq {f : AV → AV → Bool} (hf : ∀ a b, f a b = true → a = b) : ∀ {xs ys : List AV}, allEq f xs ys = true → xs = ys
  | [], [], _ => rfl
  | x :: xs, y :: ys, h => by
    rw [allEq, Bool.and_eq_true] at h
    rw [hf x y h.1, allEq_eq hf h.2]
  | [], _ :: _, h => by cases h
  | _ :: _, [], h => by cases h
theorem avEq_eq : ∀ (d : Nat) (a b : AV), avEq d a b = true → a = b
  | 0, a, b, h => by cases h
  | d + 1, a, b, h => by
    have ih := avEq_eq d
    unfold avEq at h
    cases a <;> simp only [Bool.false_eq_true] at h
    case bool x => cases b <;> simp only [eqBool, Bool.false_eq_true, boolEq_beq, beq_iff_eq] at h; rw [h]
    case int k x =>
      cases b <;> simp only [eqInt, Bool.false_eq_true, Bool.and_eq_true, sameK_iff, intEq_iff] at h
      rw [h.1, h.2]
    case str x => cases b <;> simp only [eqStr, Bool.false_eq_true, bytesEq_beq, beq_iff_eq] at h; rw [h]
    case ptr i o =>
      cases b <;> simp only [eqPtr, Bool.false_eq_true, Bool.and_eq_true, beq_iff] at h
      rw [h.1, h.2]
    case nilptr => cases b <;> simp only [eqNilptr, Bool.false_eq_true] at h; rfl
    case nilslice => cases b <;> simp only [eqNilslice, Bool.false_eq_true] at h; rfl
    case niliface => cases b <;> simp only [eqNiliface, Bool.false_eq_true] at h; rfl
    case iface t v =>
      cases b <;> simp only [eqIface, Bool.false_eq_true, Bool.and_eq_true, beq_iff] at h
      rw [h.1, ih _ _ h.2]
    case agg xs => cases b <;> simp only [eqAgg, Bool.false_eq_true] at h; rw [allEq_eq ih h]
    case tuple xs => cases b <;> simp only [eqTuple, Bool.false_eq_true] at h; rw [allEq_eq ih h]

abbrev Memo := Tb (List (List AV × AV))
def lookE : List (List AV × AV) → List AV → Option AV
  | [], _ => none
  | e :: es, args => bif allEq (avEq 8) e.1 args then some e.2 else lookE es args
def orcV (b : Option (AV × Own)) (o : Own) : Option AV → Option (AV × Own)
  | some v => some (v, o)
  | none => b
def orcM (M : Memo) (base : FuncId → Ctx → List AV → Own → Option (AV × Own)) (f : FuncId) (C : Ctx) (args : List AV) (o : Own) : Option (AV × Own) := orcV (base f C args o) o (ob (M.get f) fun l => lookE l args)
def cfgM (cfg : Cfg) (M : Memo) : Cfg := ⟨cfg.G, cfg.lend, cfg.canon, orcM M cfg.orc, cfg.root⟩
/-- A call of plain values, known. -/
def Fact (P : Program) (cfg : Cfg) (f : FuncId) (args : List AV) (v : AV) : Prop := ∀ C D m o w, Inv cfg D m C o w → okL D m args →
  CallS P f (concL m args).toArray w fun V w' => V = conc m v ∧ okV D m v ∧ Ext cfg C D m o w D m o w' ∧ Mute D w D m w'
def MemoOK (P : Program) (cfg : Cfg) (M : Memo) : Prop := ∀ f l, M.get f = some l → ∀ e ∈ l, Fact P cfg f e.1 e.2
structure Good (P : Program) (T : Tab) (cfg : Cfg) : Prop where
  tab : TabOK P T
  mixed : P.follows .mixedOrders = true
  lv : CfgOK cfg
  orc : CallOK P cfg True fun C f args o => cfg.orc f C args o
  foot : CallFoot cfg fun C f args o => cfg.orc f C args o

theorem lookE_some : ∀ {l : List (List AV × AV)} {args : List AV} {v : AV}, lookE l args = some v → (args, v) ∈ l
  | [], args, v, h => by cases h
  | e :: es, args, v, h => by
    rw [lookE] at h
    cases hb : allEq (avEq 8) e.1 args with
    | true =>
      rw [hb, cond_true, Option.some.injEq] at h
      have := allEq_eq (avEq_eq 8) hb
      rw [← this, ← h]
      exact List.mem_cons_self
    | false => rw [hb, cond_false] at h; exact List.mem_cons_of_mem _ (lookE_some h)
theorem Inv.to {cfg cfg' : Cfg} (hG : cfg'.G = cfg.G) (hr : cfg'.root = cfg.root) {D : Nat → Prop} {m : Nat → Loc} {C : Ctx} {o : Own} {w : World} (h : Inv cfg D m C o w) : Inv cfg' D m C o w :=
  ⟨h.obj, h.inj, h.lt, by rw [hG]; exact h.glob, by rw [hr]; exact h.root, by rw [hr]; exact h.le, by rw [hr]; exact h.lo, h.len⟩
theorem Ext.to {cfg cfg' : Cfg} (hG : cfg'.G = cfg.G) (hr : cfg'.root = cfg.root) {C : Ctx} {D D' : Nat → Prop} {m m' : Nat → Loc} {o o' : Own} {w w' : World} (h : Ext cfg C D m o w D' m' o' w') : Ext cfg' C D m o w D' m' o' w' :=
  ⟨h.inv.to hG hr, h.sub, h.same, h.new, h.grow, h.os, h.tape, h.output, h.size, h.frame, h.leIds, h.fresh⟩
theorem Good.memo {P : Program} {T : Tab} {cfg : Cfg} (g : Good P T cfg) {M : Memo} (hM : MemoOK P cfg M) : Good P T (cfgM cfg M) := by
  refine ⟨g.tab, g.mixed, ⟨g.lv.loops, g.lv.G, g.lv.root⟩, fun C f args o r h D m w hi hok => ?_, fun C f args o r h hl => ?_⟩
  · have h' : orcV (cfg.orc f C args o) o (ob (M.get f) fun l => lookE l args) = some r := h
    have hi' : Inv cfg D m C o w := Inv.to (cfg := cfgM cfg M) (cfg' := cfg) rfl rfl hi
    cases hx : (ob (M.get f) fun l => lookE l args) with
    | some v =>
      rw [hx] at h'
      cases h'
      rw [ob_some] at hx
      obtain ⟨l, hl, hv⟩ := hx
      exact (hM f l hl _ (lookE_some hv) C D m o w hi' hok).mono fun V w' ⟨h1, h2, h3, h4⟩ => ⟨D, m, h1, h2, Ext.to (cfg := cfg) (cfg' := cfgM cfg M) rfl rfl h3, fun _ _ => h4⟩
    | none =>
      rw [hx] at h'
      exact (g.orc C f args o r h' D m w hi' hok).mono fun V w' ⟨D', m', h1, h2, h3, h4⟩ => ⟨D', m', h1, h2, Ext.to (cfg := cfg) (cfg' := cfgM cfg M) rfl rfl h3, h4⟩
  · have h' : orcV (cfg.orc f C args o) o (ob (M.get f) fun l => lookE l args) = some r := h
    cases hx : (ob (M.get f) fun l => lookE l args) with
    | some v => rw [hx] at h'; cases h'; exact .refl hl
    | none => rw [hx] at h'; exact g.foot C f args o r h' hl
def isV (v : AV) : Option AV → Bool
  | some x => avEq 8 x v
  | none => false
def callQ (T : Tab) (cfg : Cfg) (n : Nat) (args : List AV) (fc : Func × Code) : Option AV := callP T cfg (codeA T cfg n) fc.1 fc.2 args
/-- The call comes to v. -/
def chk (T : Tab) (cfg : Cfg) (n : Nat) (f : FuncId) (args : List AV) (v : AV) : Bool := belowL cfg.root.n args && isV v (ob (bodyOf T f) (callQ T cfg n args))
theorem Good.fact {P : Program} {T : Tab} {cfg : Cfg} (g : Good P T cfg) (n : Nat) {f : FuncId} {args : List AV} {v : AV} (h : chk T cfg n f args v = true) : Fact P cfg f args v := by
  intro C D m o w hi hok
  rw [chk, Bool.and_eq_true] at h
  obtain ⟨hb, h⟩ := h
  cases hx : ob (bodyOf T f) (callQ T cfg n args) with
  | none => rw [hx] at h; cases h
  | some x =>
    rw [hx] at h
    have e := avEq_eq 8 x v h
    subst e
    rw [ob_some] at hx
    obtain ⟨⟨fn, c⟩, hbo, hc⟩ := hx
    exact callP_ok g.tab g.lv (code_ok g.tab g.mixed g.lv g.orc g.foot n).1 (code_ll g.foot n) hbo hb hc hi hok
theorem memo_nil {P : Program} {cfg : Cfg} : MemoOK P cfg .nil := fun f l h => by cases f <;> cases h
/-- One function's calls more. -/
theorem fact_cons {P : Program} {cfg : Cfg} {f : FuncId} {args : List AV} {v : AV} {l : List (List AV × AV)} (h : Fact P cfg f args v) (hl : ∀ e ∈ l, Fact P cfg f e.1 e.2) : ∀ e ∈ (args, v) :: l, Fact P cfg f e.1 e.2 := fun e he => by
  rcases List.mem_cons.1 he with rfl | he
  · exact h
  · exact hl e he
theorem fact_nil {P : Program} {cfg : Cfg} {f : FuncId} : ∀ e ∈ ([] : List (List AV × AV)), Fact P cfg f e.1 e.2 := fun e he => by cases he
end Go.Ev
