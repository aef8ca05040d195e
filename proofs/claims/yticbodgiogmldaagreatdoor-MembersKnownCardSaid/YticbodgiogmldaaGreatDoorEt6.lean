/- The symbolic run: known functions by their summaries, what a function of plain values answers, and what its run asks. What a run asks, said of plain numbers. A call, run symbolically on its caller's level. -/
import Derived.Test.YticbodgiogmldaaGreatDoorEt3
section
set_option linter.all false
namespace Go.Ev
open Go

/-- What a known function answers, where it is known. -/
abbrev GSum : Type := Ctx → List AV → Own → Option (Tr (AV × Own))
abbrev Sums : Type := FuncId → Option GSum
/-- A known function of plain values. -/
abbrev Sum : Type := List AV → Option (Tr AV)
def retO (o : Own) (v : AV) : Tr (AV × Own) := .ret (v, o)
def bindO (o : Own) : Option (Tr AV) → Option (Tr (AV × Own))
  | some t => some (t.bind (retO o))
  | none => none
def plainS (e : Sum) : GSum := fun _ args o => bindO o (e args)
def orcS (S : Sums) : OrcT := fun f C args o => ob (S f) fun e => e C args o
def runO : Option (Tr (AV × Own)) → Option (AV × Own)
  | some t => t.run
  | none => none
def cfgS (cfg : Cfg) (S : Sums) : Cfg := ⟨cfg.G, cfg.lend, cfg.canon, fun f C args o => runO (orcS S f C args o), cfg.root⟩
theorem orcS_ok (cfg : Cfg) (S : Sums) : OrcTOK (cfgS cfg S) (orcS S) :=
  ⟨fun {f C args o t} h {r} hr => by show runO (orcS S f C args o) = _; rw [h]; exact hr, fun {f C args o} h => by show runO (orcS S f C args o) = _; rw [h]; rfl⟩
def SumOK (P : Program) (cfg : Cfg) (f : FuncId) (e : Sum) : Prop := ∀ args t v, e args = some t → t.run = some v → Fact P cfg f args v
/-- What a known function answers holds of the machine. -/
def GSumOK (P : Program) (cfg : Cfg) (f : FuncId) (e : GSum) : Prop := ∀ C args o t r, e C args o = some t → t.run = some r →
  (∀ D m w, Inv cfg D m C o w → okL D m args → CallS P f (concL m args).toArray w fun V w' => ∃ D' m', V = conc m' r.1 ∧ okV D' m' r.1 ∧ Ext cfg C D m o w D' m' r.2 w' ∧ Mute D w D' m' w') ∧ (o.os.length = o.n → StepF C o r.2 (namesAt args (cfg.lend f)))
def SumsOK (P : Program) (cfg : Cfg) (S : Sums) : Prop := ∀ f e, S f = some e → GSumOK P cfg f e
theorem plain_ok {P : Program} {cfg : Cfg} {f : FuncId} {e : Sum} (h : SumOK P cfg f e) : GSumOK P cfg f (plainS e) := by
  intro C args o t r ht hr
  unfold plainS at ht
  cases hx : e args with
  | none => rw [hx] at ht; cases ht
  | some t' =>
    rw [hx] at ht
    cases ht
    obtain ⟨v, hv, h2⟩ := Tr.run_bind (t := t') hr
    cases h2
    exact ⟨fun D m w hi hok => (h args t' v hx hv C D m o w hi hok).mono fun V w' ⟨h1, h2, h3, h4⟩ => ⟨D, m, h1, h2, h3, h4⟩, fun hl => .refl hl⟩
theorem Fact.to {P : Program} {cfg cfg' : Cfg} (hG : cfg'.G = cfg.G) (hr : cfg'.root = cfg.root) {f : FuncId} {args : List AV} {v : AV} (h : Fact P cfg f args v) : Fact P cfg' f args v := by
  intro C D m o w hi hok
  exact (h C D m o w (Inv.to (cfg := cfg') (cfg' := cfg) hG.symm hr.symm hi) hok).mono fun V w' ⟨h1, h2, h3, h4⟩ => ⟨h1, h2, Ext.to hG hr h3, h4⟩
/-- A program whose tables are right, without its known functions. -/
structure Base (P : Program) (T : Tab) (cfg : Cfg) : Prop where
  tab : TabOK P T
  mixed : P.follows .mixedOrders = true
  lv : CfgOK cfg
theorem Base.good {P : Program} {T : Tab} {cfg : Cfg} (g : Base P T cfg) {S : Sums} (hS : SumsOK P cfg S) : Good P T (cfgS cfg S) := by
  have key : ∀ {f C args o} {r : AV × Own}, runO (orcS S f C args o) = some r → ∃ e t, S f = some e ∧ e C args o = some t ∧ t.run = some r := by
    intro f C args o r h
    unfold orcS at h
    cases hx : (ob (S f) fun e => e C args o) with
    | none => rw [hx] at h; cases h
    | some t =>
      rw [hx] at h
      rw [ob_some] at hx
      obtain ⟨e, he, ht⟩ := hx
      exact ⟨e, t, he, ht, h⟩
  refine ⟨g.tab, g.mixed, ⟨g.lv.loops, g.lv.G, g.lv.root⟩, fun C f args o r h D m w hi hok => ?_, fun C f args o r h hl => ?_⟩
  · obtain ⟨e, t, he, ht, hr⟩ := key h
    exact ((hS f e he C args o t r ht hr).1 D m w (Inv.to (cfg := cfgS cfg S) (cfg' := cfg) rfl rfl hi) hok).mono fun V w' ⟨D', m', h1, h2, h3, h4⟩ => ⟨D', m', h1, h2, Ext.to (cfg := cfg) (cfg' := cfgS cfg S) rfl rfl h3, fun _ _ => h4⟩
  · obtain ⟨e, t, he, ht, hr⟩ := key h
    exact (hS f e he C args o t r ht hr).2 hl
/-- What a function of plain values answers. -/
def bodyT (T : Tab) (cfg : Cfg) (S : Sums) (n : Nat) (f : FuncId) (args : List AV) : Tr AV :=
  bif belowL cfg.root.n args then liftK (bodyOf T f) fun fc => enterT T (codeT T (cfgS cfg S) (orcS S) n) ⟨[(0, cfg.root)], cfg.root.n⟩ fc.1 fc.2 args ⟨0, [], []⟩ fun r => bif belowA cfg.root.n 20 r.1 then .ret r.1 else .fail
  else .fail
theorem Base.fact {P : Program} {T : Tab} {cfg : Cfg} (g : Base P T cfg) {S : Sums} (hS : SumsOK P cfg S) {n : Nat} {f : FuncId} {args : List AV} {v : AV} (h : (bodyT T cfg S n f args).run = some v) : Fact P cfg f args v := by
  have gg := g.good hS
  obtain ⟨hb, h⟩ := bif_run h
  obtain ⟨fc, hf, h⟩ := liftK_run h
  obtain ⟨r, he, h⟩ := enterT_run (codeT_run (orcS_ok cfg S) n) h
  obtain ⟨h1, h2⟩ := bif_run h
  cases h2
  refine Fact.to (cfg := cfgS cfg S) (cfg' := cfg) rfl rfl fun C D m o w hi hok => ?_
  exact callP_ok gg.tab gg.lv (code_ok gg.tab gg.mixed gg.lv gg.orc gg.foot n).1 (code_ll gg.foot n) hf hb (by simp only [callP, ob_some, ok_some, Option.some.injEq]; exact ⟨r, he, h1, rfl⟩) hi hok

/-- Decisions: a test is closed (e), forks (b), has this answer (t, f); an index is closed (e), or is this one (n). -/
inductive DT where
  | z
  | e (D : DT)
  | b (x y : DT)
  | t (D : DT)
  | f (D : DT)
  | n (j : Nat) (D : DT)
  | o (j : Nat) (x y : DT)
/-- A trail written as a number: its steps, the first one lowest. -/
def dtD (c m : Nat) (r : Nat → (DT → Nat → DT) → DT) (k : DT → Nat → DT) : DT := match c with
  | 0 => r m fun D => k (.e D)
  | 1 => k .z m
  | 2 => r m fun D => k (.t D)
  | 3 => r m fun D => k (.f D)
  | 4 => r m fun x m => r m fun y => k (.b x y)
  | 5 => r m fun D => k (.e (.e (.e (.e D))))
  | 6 => r m fun D => k (.e (.e (.e (.e (.e (.e (.e (.e (.e D)))))))))
  | 7 => r m fun D => k (.t (.t (.t D)))
  | _ => r m fun D => k (.f (.f (.f D)))
noncomputable def dtG (f : Nat) : Nat → (DT → Nat → DT) → DT :=
  Nat.rec (fun _ _ => .z) (fun _ r n k => dtD (Nat.mod n 10) (Nat.div n 10) r k) f
noncomputable def dtN (n : Nat) : DT := dtG 100000 n fun D _ => D
def ask {R : Type} (Q : R → Prop) : Tr R → DT → Prop
  | .ret a, _ => Q a
  | .fail, _ => False
  | .test c k, D => match D with
    | .e D => ask Q (k c) D
    | .b x y => (c = true → ask Q (k true) x) ∧ (c = false → ask Q (k false) y)
    | .t D => c = true ∧ ask Q (k true) D
    | .f D => c = false ∧ ask Q (k false) D
    | _ => False
  | .pickN i k, D => match D with
    | .e D => ask Q (k i) D
    | .n j D => i = j ∧ ask Q (k j) D
    | .o j x y => (i = j → ask Q (k j) x) ∧ (i ≠ j → ask Q (k i) y)
    | _ => False
  | .all _, _ => False
theorem ask_run {R : Type} {Q : R → Prop} : ∀ {t : Tr R} {D : DT}, ask Q t D → ∃ a, t.run = some a ∧ Q a
  | .ret a, D, h => ⟨a, rfl, h⟩
  | .fail, D, h => h.elim
  | .test c k, D, h => by
    unfold ask at h
    split at h
    · exact ask_run (t := k c) h
    · cases c with
      | true => exact ask_run (t := k true) (h.1 rfl)
      | false => exact ask_run (t := k false) (h.2 rfl)
    · obtain ⟨rfl, h⟩ := h; exact ask_run (t := k true) h
    · obtain ⟨rfl, h⟩ := h; exact ask_run (t := k false) h
    · exact h.elim
  | .pickN i k, D, h => by
    unfold ask at h
    split at h
    · exact ask_run (t := k i) h
    · obtain ⟨rfl, h⟩ := h; exact ask_run (t := k i) h
    · rename_i j x y
      by_cases e : i = j
      · cases e; exact ask_run (t := k i) (h.1 rfl)
      · exact ask_run (t := k i) (h.2 e)
    · exact h.elim
  | .all _, D, h => h.elim
/-- The same, of all that may come. -/
def askA {R : Type} (Q : R → Prop) : Tr R → DT → Prop
  | .ret a, _ => Q a
  | .fail, _ => False
  | .test c k, D => match D with
    | .e D => askA Q (k c) D
    | .b x y => (c = true → askA Q (k true) x) ∧ (c = false → askA Q (k false) y)
    | .t D => c = true ∧ askA Q (k true) D
    | .f D => c = false ∧ askA Q (k false) D
    | _ => False
  | .pickN i k, D => match D with
    | .e D => askA Q (k i) D
    | .n j D => i = j ∧ askA Q (k j) D
    | .o j x y => (i = j → askA Q (k j) x) ∧ (i ≠ j → askA Q (k i) y)
    | _ => False
  | .all k, D => ∀ J, askA Q (k J) D
theorem askA_wp {R : Type} {Q : R → Prop} : ∀ {t : Tr R} {D : DT}, askA Q t D → t.wp Q
  | .ret a, D, h => h
  | .fail, D, h => h.elim
  | .test c k, D, h => by
    unfold askA at h
    split at h
    · exact askA_wp (t := k c) h
    · cases c with
      | true => exact askA_wp (t := k true) (h.1 rfl)
      | false => exact askA_wp (t := k false) (h.2 rfl)
    · obtain ⟨rfl, h⟩ := h; exact askA_wp (t := k true) h
    · obtain ⟨rfl, h⟩ := h; exact askA_wp (t := k false) h
    · exact h.elim
  | .pickN i k, D, h => by
    unfold askA at h
    split at h
    · exact askA_wp (t := k i) h
    · obtain ⟨rfl, h⟩ := h; exact askA_wp (t := k i) h
    · rename_i j x y
      by_cases e : i = j
      · cases e; exact askA_wp (t := k i) (h.1 rfl)
      · exact askA_wp (t := k i) (h.2 e)
    · exact h.elim
  | .all k, D, h => fun J => askA_wp (t := k J) (h J)
theorem Base.ask {P : Program} {T : Tab} {cfg : Cfg} (g : Base P T cfg) {S : Sums} (hS : SumsOK P cfg S) {n : Nat} {f : FuncId} {args : List AV} {v : AV} {D : DT} (h : Ev.ask (· = v) (bodyT T cfg S n f args) D) : Fact P cfg f args v := by
  obtain ⟨a, h1, h2⟩ := ask_run h
  cases h2
  exact g.fact hS h1
/- tables of summaries -/
def nilS : Sums := fun _ => none
def addG (S : Sums) (f : FuncId) (e : GSum) : Sums := fun g => bif Nat.beq g f then some e else S g
def addS (S : Sums) (f : FuncId) (e : Sum) : Sums := addG S f (plainS e)
theorem sums_nil {P : Program} {cfg : Cfg} : SumsOK P cfg nilS := fun f l h => by cases h
theorem sums_addG {P : Program} {cfg : Cfg} {S : Sums} {f : FuncId} {e : GSum} (h : SumsOK P cfg S) (he : GSumOK P cfg f e) : SumsOK P cfg (addG S f e) := fun g e' hg => by
  unfold addG at hg
  cases hb : Nat.beq g f with
  | true =>
    rw [hb] at hg
    cases hg
    rw [beq_iff] at hb
    subst hb
    exact he
  | false => rw [hb] at hg; exact h g e' hg
theorem sums_add {P : Program} {cfg : Cfg} {S : Sums} {f : FuncId} {e : Sum} (h : SumsOK P cfg S) (he : SumOK P cfg f e) : SumsOK P cfg (addS S f e) := sums_addG h (plain_ok he)
end Go.Ev
end
section
set_option linter.all false
namespace Go.Ev
open Go
theorem q_add (a b : Int) : Int.add a b = a + b := rfl
theorem q_sub (a b : Int) : Int.sub a b = a - b := rfl
theorem q_mul (a b : Int) : Int.mul a b = a * b := rfl
theorem q_div (a b : Int) : Int.tdiv a b = a.tdiv b := rfl
theorem q_neg (a : Int) : Int.neg a = -a := rfl
theorem q_u0 : UInt8.ofNat 0 = (0 : UInt8) := rfl
theorem q_ofNat (n : Nat) : Int.ofNat n = (n : Int) := rfl
theorem q_eq_t {a b : Int} : (intEq a b = true) = (a = b) := propext intEq_iff
theorem q_eq_f {a b : Int} : (intEq a b = false) = (a ≠ b) := by
  rw [← Bool.not_eq_true, q_eq_t]
theorem q_le_t {a b : Int} : (intLe a b = true) = (a ≤ b) := by rw [intLe_dec]; simp
theorem q_le_f {a b : Int} : (intLe a b = false) = (b < a) := by rw [intLe_dec]; simp
theorem q_lt_t {a b : Nat} : (natLt a b = true) = (a < b) := propext natLt_iff
theorem q_lt_f {a b : Nat} : (natLt a b = false) = (b ≤ a) := by
  rw [← Bool.not_eq_true, q_lt_t]; simp
theorem q_ble_t {a b : Nat} : (Nat.ble a b = true) = (a ≤ b) := propext ble_iff
theorem q_ble_f {a b : Nat} : (Nat.ble a b = false) = (b < a) := by
  rw [← Bool.not_eq_true, q_ble_t]; simp
theorem q_beq_t {a b : Nat} : (Nat.beq a b = true) = (a = b) := propext beq_iff
theorem q_beq_f {a b : Nat} : (Nat.beq a b = false) = (a ≠ b) := by
  rw [← Bool.not_eq_true, q_beq_t]
theorem q_not_t {a : Bool} : (Bool.not a = true) = (a = false) := by cases a <;> simp
theorem q_not_f {a : Bool} : (Bool.not a = false) = (a = true) := by cases a <;> simp
theorem q_and_t {a b : Bool} : (Bool.and a b = true) = (a = true ∧ b = true) := by cases a <;> cases b <;> simp
theorem q_and_f {a b : Bool} : (Bool.and a b = false) = (a = false ∨ b = false) := by cases a <;> cases b <;> simp
theorem q_or_t {a b : Bool} : (Bool.or a b = true) = (a = true ∨ b = true) := by cases a <;> cases b <;> simp
theorem q_or_f {a b : Bool} : (Bool.or a b = false) = (a = false ∧ b = false) := by cases a <;> cases b <;> simp
theorem q_bf_t {a : Bool} : (boolEq a false = true) = (a = false) := by cases a <;> simp [boolEq]
theorem q_bf_f {a : Bool} : (boolEq a false = false) = (a = true) := by cases a <;> simp [boolEq]
theorem q_bt_t {a : Bool} : (boolEq a true = true) = (a = true) := by cases a <;> simp [boolEq]
theorem q_bt_f {a : Bool} : (boolEq a true = false) = (a = false) := by cases a <;> simp [boolEq]
theorem q_inR_t {k : IntKind} {n : Int} : (inR k n = true) = (loK k ≤ n ∧ n ≤ hiK k) := by rw [inR, Bool.and_eq_true, q_le_t, q_le_t]
theorem q_inR_f {k : IntKind} {n : Int} : (inR k n = false) = ¬ (loK k ≤ n ∧ n ≤ hiK k) := by rw [← Bool.not_eq_true, q_inR_t]
/-- Tests, as plain facts: all of them. -/
theorem q_all : (∀ a b, Int.add a b = a + b) ∧ (∀ a b, Int.sub a b = a - b) ∧ (∀ a b, Int.mul a b = a * b) ∧ (∀ a b, Int.tdiv a b = a.tdiv b) ∧ (∀ a, Int.neg a = -a) ∧ UInt8.ofNat 0 = (0 : UInt8) ∧ (∀ n : Nat, Int.ofNat n = (n : Int)) ∧
    (∀ a b, (intEq a b = true) = (a = b)) ∧ (∀ a b, (intEq a b = false) = (a ≠ b)) ∧ (∀ a b, (intLe a b = true) = (a ≤ b)) ∧ (∀ a b, (intLe a b = false) = (b < a)) ∧ (∀ a b, (natLt a b = true) = (a < b)) ∧ (∀ a b, (natLt a b = false) = (b ≤ a)) ∧
    (∀ a b, (Nat.ble a b = true) = (a ≤ b)) ∧ (∀ a b, (Nat.ble a b = false) = (b < a)) ∧ (∀ a b, (Nat.beq a b = true) = (a = b)) ∧ (∀ a b, (Nat.beq a b = false) = (a ≠ b)) ∧ (∀ a, (Bool.not a = true) = (a = false)) ∧ (∀ a, (Bool.not a = false) = (a = true)) ∧
    (∀ a b, (Bool.and a b = true) = (a = true ∧ b = true)) ∧ (∀ a b, (Bool.and a b = false) = (a = false ∨ b = false)) ∧ (∀ a b, (Bool.or a b = true) = (a = true ∨ b = true)) ∧ (∀ a b, (Bool.or a b = false) = (a = false ∧ b = false)) ∧
    (∀ a, (boolEq a false = true) = (a = false)) ∧ (∀ a, (boolEq a false = false) = (a = true)) ∧ (∀ a, (boolEq a true = true) = (a = true)) ∧ (∀ a, (boolEq a true = false) = (a = false)) ∧
    (∀ k n, (inR k n = true) = (loK k ≤ n ∧ n ≤ hiK k)) ∧ (∀ k n, (inR k n = false) = ¬ (loK k ≤ n ∧ n ≤ hiK k)) ∧ (∀ p : Prop, (p ∧ True) = p) ∧ (∀ p : Prop, (p ∨ False) = p) ∧ (∀ p : Prop, (False ∨ p) = p) ∧ ((¬ True) = False) :=
  ⟨q_add, q_sub, q_mul, q_div, q_neg, q_u0, q_ofNat, fun _ _ => q_eq_t, fun _ _ => q_eq_f, fun _ _ => q_le_t, fun _ _ => q_le_f, fun _ _ => q_lt_t, fun _ _ => q_lt_f, fun _ _ => q_ble_t, fun _ _ => q_ble_f, fun _ _ => q_beq_t, fun _ _ => q_beq_f,
    fun _ => q_not_t, fun _ => q_not_f, fun _ _ => q_and_t, fun _ _ => q_and_f, fun _ _ => q_or_t, fun _ _ => q_or_f, fun _ => q_bf_t, fun _ => q_bf_f, fun _ => q_bt_t, fun _ => q_bt_f, fun _ _ => q_inR_t, fun _ _ => q_inR_f, and_true, or_false, false_or, not_true_eq_false⟩
theorem q_inj : (∀ k n l m, (AV.int k n = AV.int l m) = (k = l ∧ n = m)) ∧ (∀ a b, (AV.bool a = AV.bool b) = (a = b)) ∧ (∀ a b, (AV.agg a = AV.agg b) = (a = b)) ∧ (∀ a b, (AV.tuple a = AV.tuple b) = (a = b)) ∧
    (∀ (α : Type) (a b : α) l m, (a :: l = b :: m) = (a = b ∧ l = m)) ∧ (∀ p, (True ∧ p) = p) ∧ (∀ p, (p ∧ True) = p) ∧ (∀ (α : Type) (a : α), (a = a) = True) ∧ (∀ (p : Prop) [Decidable p], (decide p = true) = p) ∧ (∀ (p : Prop) [Decidable p], (decide p = false) = ¬ p) :=
  ⟨AV.int.injEq, AV.bool.injEq, AV.agg.injEq, AV.tuple.injEq, fun _ a b l m => List.cons.injEq a l b m, true_and, and_true, fun _ _ => eq_self _, fun _ => decide_eq_true_eq, fun _ => propext decide_eq_false_iff_not⟩
end Go.Ev
end
section
set_option linter.all false
namespace Go.Ev
open Go
def rowT (T : Tab) (cfg : Cfg) (S : Sums) (n : Nat) (C : Ctx) (f : FuncId) (args : List AV) (o : Own) : Tr AV :=
  callT T (cfgS cfg S) (orcS S) false (codeT T (cfgS cfg S) (orcS S) n) C f args o fun r => .ret r.1
theorem Base.row {P : Program} {T : Tab} {cfg : Cfg} (g : Base P T cfg) {S : Sums} (hS : SumsOK P cfg S) {n : Nat} {C : Ctx} {f : FuncId} {args : List AV} {o : Own} {Q : AV → Prop} {t : DT} (h : Ev.ask Q (rowT T cfg S n C f args o) t)
    {D : Nat → Prop} {m : Nat → Loc} {w : World} (hi : Inv cfg D m C o w) (hok : okL D m args) :
    ∃ v o', Q v ∧ CallS P f (concL m args).toArray w fun V w' => ∃ D' m', V = conc m' v ∧ okV D' m' v ∧ Ext cfg C D m o w D' m' o' w' ∧ (namesAt args (cfg.lend f) = [] → Mute D w D' m' w') := by
  have gg := g.good hS
  obtain ⟨a, ha, hq⟩ := ask_run h
  obtain ⟨x, hx, hr⟩ := callT_run (R := AV) (inl := false) (orcS_ok cfg S) (codeT_run (orcS_ok cfg S) n) _ _ _ _ _ _ ha
  cases hr
  refine ⟨x.1, x.2, hq, (call_ok gg.tab gg.mixed gg.lv gg.orc gg.foot n C f args o x hx D m w (Inv.to (cfg := cfg) (cfg' := cfgS cfg S) rfl rfl hi) hok).mono ?_⟩
  rintro V w' ⟨D', m', h1, h2, h3, h4⟩
  exact ⟨D', m', h1, h2, Ext.to (cfg := cfgS cfg S) (cfg' := cfg) rfl rfl h3, h4 trivial⟩
end Go.Ev
end
