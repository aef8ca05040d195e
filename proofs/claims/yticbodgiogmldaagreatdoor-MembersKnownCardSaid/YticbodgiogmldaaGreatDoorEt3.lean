/- The symbolic run: rows of operations, regions, calls, bodies. -/
import Derived.Test.YticbodgiogmldaaGreatDoorEt2
set_option linter.all false
namespace Go.Ev
open Go

abbrev OrcT : Type := FuncId → Ctx → List AV → Own → Option (Tr (AV × Own))
structure OrcTOK (cfg : Cfg) (orcT : OrcT) : Prop where
  some' : ∀ {f C args o t}, orcT f C args o = some t → ∀ {r}, t.run = some r → cfg.orc f C args o = some r
  none' : ∀ {f C args o}, orcT f C args o = none → cfg.orc f C args o = none
section
variable {R : Type}
abbrev CallF (R : Type) : Type := Ctx → FuncId → List AV → Own → (AV × Own → Tr R) → Tr R
abbrev CodeK (R : Type) : Type := Ctx → Code → St → (AX × St → Tr R) → Tr R
section
variable (P : Tab) (cfg : Cfg) (call : CallF R) (C : Ctx)
def lenDT (x : AV) (d : Option TypeDesc) (K : AV → Tr R) : Tr R := match d with
  | some .string => (match x with
    | .str s => K (.int .i64 (.ofNat s.length))
    | _ => .fail)
  | some (.slice _) => (match x with
    | .slice _ _ n _ => K (.int .i64 (.ofNat n))
    | .nilslice => K (.int .i64 0)
    | _ => .fail)
  | some (.array n _) => K (.int .i64 (.ofNat n))
  | _ => .fail
def capDT (x : AV) (d : Option TypeDesc) (K : AV → Tr R) : Tr R := match d with
  | some (.slice _) => (match x with
    | .slice _ _ _ (.known n) => K (.int .i64 (.ofNat n))
    | .nilslice => K (.int .i64 0)
    | _ => .fail)
  | _ => .fail
def firstT (o : Own) (size n : Nat) (x : AV) (K : List AV → Tr R) : Tr R := match x with
  | .slice id off len _ => asrt (Nat.ble n len) (liftK (cellsOf (get C o id)) fun cs => takeT cs off (n * size) K)
  | .nilslice => asrt (Nat.beq n 0) (K [])
  | .str s => asrt (Nat.ble n s.length) (K ((s.take n).map byteA))
  | _ => .fail
def writeT (o : Own) (id off : Nat) (vs : List AV) (K : Own → Tr R) : Tr R := liftK (own? C o id) fun x => layT off vs x fun x' => K (putO C o id x')
def appendToT (o : Own) (size n : Nat) (new : List AV) (s : AV) (K : AV × Own → Tr R) : Tr R := match s with
  | .nilslice => K (growA C o size n new)
  | .slice id off len c => (match c with
    | .known c => .test (Nat.ble (len + n) c) fun b => bif b then writeT C o id (off + len * size) new fun o' => K (.slice id off (len + n) (.known c), o')
      else liftK (cellsOf (get C o id)) fun cs => takeT cs off (len * size) fun old => K (growA C o size (len + n) (old ++ new))
    | .rest k => asrt (Nat.beq off 0 && Nat.beq k 0) (liftK (own? C o id) fun x => (match x with
      | .cells cs true (some g) => asrt (Nat.beq g size && Nat.beq cs.length (len * size)) (K (growA C (putO C o id .dead) size (len + n) (cs ++ new)))
      | _ => .fail)))
  | _ => .fail
def appendT (o : Own) (sType xType : TypeId) (s x : AV) (K : AV × Own → Tr R) : Tr R :=
  liftK (elemT P sType) fun elem => bif notIntT P xType && smallT P elem && isSliceA s then liftK (szOf P elem) fun size => liftK (zeroA P elem) fun z => liftK (lenA x) fun n => liftK (lenA s) fun sl =>
    .test (Nat.beq n 0) fun b => bif b then asrt (fitsA s) (K (s, o)) else asrt (lenOk sl n size) (bif Nat.beq (cellsA z).length size && strFits size x then firstT C o size n x fun new => asrt (allOne new) (appendToT C o size n new s K) else .fail)
  else .fail
def copyToT (o : Own) (n : Nat) (cs : List AV) (d : AV) (K : AV × Own → Tr R) : Tr R := match d with
  | .nilslice => K (.int .i64 (.ofNat n), o)
  | .slice id off _ _ => asrt (allOne cs) (writeT C o id off cs fun o' => K (.int .i64 (.ofNat n), o'))
  | _ => .fail
def copyT (o : Own) (dType : TypeId) (d s : AV) (K : AV × Own → Tr R) : Tr R :=
  liftK (elemT P dType) fun elem => bif isSliceA d then liftK (szOf P elem) fun size => liftK (lenA d) fun dl => liftK (lenA s) fun sl =>
    eitherT (Nat.ble sl dl) sl dl fun n => firstT C o size n s fun cs => copyToT C o n cs d K
  else .fail
def builtinT (o : Own) (b : Builtin) (ts : List TypeId) (args : List AV) (K : AV × Own → Tr R) : Tr R := match b with
  | .len => (match args with
    | [x] => liftK ts[0]? fun t => lenDT x (P.und t) fun v => K (v, o)
    | _ => .fail)
  | .cap => (match args with
    | [x] => liftK ts[0]? fun t => capDT x (P.und t) fun v => K (v, o)
    | _ => .fail)
  | .append => (match args with
    | [s, x] => liftK ts[0]? fun t => liftK ts[1]? fun u => appendT P C o t u s x K
    | _ => .fail)
  | .copy => (match args with
    | [d, s] => liftK ts[0]? fun t => copyT P C o t d s K
    | _ => .fail)
  | b => liftK (builtinA P C o b ts args) K
theorem goInt_of (n : Nat) : goInt n = .int .i64 (.ofNat n) := by cases n <;> rfl
theorem lenDT_run {x : AV} {d : Option TypeDesc} {K : AV → Tr R} {s : R} (h : (lenDT x d K).run = some s) : ∃ v, lenD x d = some v ∧ (K v).run = some s := by
  unfold lenDT at h
  unfold lenD
  split at h
  · split at h
    · exact ⟨_, by simp only [goInt_of], h⟩
    · cases h
  · split at h
    · exact ⟨_, by simp only [goInt_of], h⟩
    · exact ⟨_, by simp only [goInt_of]; rfl, h⟩
    · cases h
  · exact ⟨_, by simp only [goInt_of], h⟩
  · cases h
theorem capDT_run {x : AV} {d : Option TypeDesc} {K : AV → Tr R} {s : R} (h : (capDT x d K).run = some s) : ∃ v, capD x d = some v ∧ (K v).run = some s := by
  unfold capDT at h
  unfold capD
  split at h
  · split at h
    · exact ⟨_, by simp only [goInt_of], h⟩
    · exact ⟨_, by simp only [goInt_of]; rfl, h⟩
    · cases h
  · cases h
theorem firstT_run {o : Own} {size n : Nat} {x : AV} {K : List AV → Tr R} {s : R} (h : (firstT C o size n x K).run = some s) : ∃ v, firstA C o size n x = some v ∧ (K v).run = some s := by
  unfold firstT at h
  unfold firstA
  split at h
  · obtain ⟨h1, h⟩ := asrt_run h
    obtain ⟨cs, hc, h⟩ := liftK_run h
    obtain ⟨vs, hv, h⟩ := takeT_run h
    exact ⟨vs, by simp only [h1, ok, cond_true, readA, hc, ob, hv], h⟩
  · obtain ⟨h1, h⟩ := asrt_run h
    exact ⟨_, by simp only [h1, ok, cond_true], h⟩
  · obtain ⟨h1, h⟩ := asrt_run h
    exact ⟨_, by simp only [h1, ok, cond_true], h⟩
  · cases h
theorem writeT_run {o : Own} {id off : Nat} {vs : List AV} {K : Own → Tr R} {s : R} (h : (writeT C o id off vs K).run = some s) : ∃ o', writeA C o id off vs = some o' ∧ (K o').run = some s := by
  obtain ⟨x, hx, h⟩ := liftK_run h
  obtain ⟨y, hy, h⟩ := layT_run h
  exact ⟨_, by simp only [writeA, hx, ob, hy], h⟩
theorem appendToT_run {o : Own} {size n : Nat} {new : List AV} {x : AV} {K : AV × Own → Tr R} {s : R} (h : (appendToT C o size n new x K).run = some s) : ∃ r, appendTo C o size n new x = some r ∧ (K r).run = some s := by
  unfold appendToT at h
  unfold appendTo
  split at h
  · exact ⟨_, rfl, h⟩
  · rename_i id off len c
    simp only
    unfold appendCap
    split at h
    · rename_i c
      simp only [Tr.run] at h
      simp only [appendKnown]
      cases hb : Nat.ble (len + n) c with
      | true =>
        rw [hb, cond_true] at h
        obtain ⟨o', ho, h⟩ := writeT_run C h
        exact ⟨_, by simp only [cond_true, ho, ob], h⟩
      | false =>
        rw [hb, cond_false] at h
        obtain ⟨cs, hc, h⟩ := liftK_run h
        obtain ⟨vs, hv, h⟩ := takeT_run h
        exact ⟨_, by simp only [cond_false, readA, hc, ob, hv], h⟩
    · rename_i k
      obtain ⟨h1, h⟩ := asrt_run h
      obtain ⟨y, hy, h⟩ := liftK_run h
      simp only [appendRest, h1, ok, cond_true, hy, ob]
      split at h
      · obtain ⟨h2, h⟩ := asrt_run h
        exact ⟨_, by simp only [sameGrow, h2, ok, cond_true], h⟩
      · cases h
  · cases h
theorem appendT_run {o : Own} {t u : TypeId} {x y : AV} {K : AV × Own → Tr R} {s : R} (h : (appendT P C o t u x y K).run = some s) : ∃ r, appendA P C o t u x y = some r ∧ (K r).run = some s := by
  obtain ⟨e, he, h⟩ := liftK_run h
  obtain ⟨h1, h⟩ := bif_run h
  obtain ⟨sz, hs, h⟩ := liftK_run h
  obtain ⟨z, hz, h⟩ := liftK_run h
  obtain ⟨n, hn, h⟩ := liftK_run h
  obtain ⟨sl, hsl, h⟩ := liftK_run h
  simp only [appendA, he, ob, h1, ok, cond_true, hs, hz, hn, hsl]
  simp only [Tr.run] at h
  cases hb : Nat.beq n 0 with
  | true =>
    rw [hb, cond_true] at h
    obtain ⟨h2, h⟩ := asrt_run h
    exact ⟨_, by simp only [cond_true, h2], h⟩
  | false =>
    rw [hb, cond_false] at h
    obtain ⟨h2, h⟩ := asrt_run h
    obtain ⟨h3, h⟩ := bif_run h
    obtain ⟨new, h4, h⟩ := firstT_run C h
    obtain ⟨h5, h⟩ := asrt_run h
    obtain ⟨r, hr, h⟩ := appendToT_run C h
    have h6 : (true && Nat.beq (cellsA z).length sz && strFits sz y) = true := by rw [Bool.true_and]; exact h3
    exact ⟨r, by simp only [cond_false, h2, h6, cond_true, h4, h5, hr], h⟩
theorem copyT_run {o : Own} {t : TypeId} {d x : AV} {K : AV × Own → Tr R} {s : R} (h : (copyT P C o t d x K).run = some s) : ∃ r, copyA P C o t d x = some r ∧ (K r).run = some s := by
  obtain ⟨e, he, h⟩ := liftK_run h
  obtain ⟨h1, h⟩ := bif_run h
  obtain ⟨sz, hs, h⟩ := liftK_run h
  obtain ⟨dl, hd, h⟩ := liftK_run h
  obtain ⟨sl, hsl, h⟩ := liftK_run h
  have h := eitherT_run h
  obtain ⟨cs, hc, h⟩ := firstT_run C h
  simp only [copyA, he, ob, h1, ok, cond_true, hs, hd, hsl, minN, hc]
  unfold copyToT at h
  unfold copyTo
  split at h
  · exact ⟨_, by simp only [goInt_of], h⟩
  · obtain ⟨h2, h⟩ := asrt_run h
    obtain ⟨o', ho, h⟩ := writeT_run C h
    exact ⟨_, by simp only [h2, ok, cond_true, ho, ob, goInt_of], h⟩
  · cases h
theorem builtinT_run {o : Own} {b : Builtin} {ts : List TypeId} {args : List AV} {K : AV × Own → Tr R} {s : R} (h : (builtinT P C o b ts args K).run = some s) : ∃ r, builtinA P C o b ts args = some r ∧ (K r).run = some s := by
  unfold builtinT at h
  split at h
  · split at h
    · obtain ⟨t, ht, h⟩ := liftK_run h
      obtain ⟨v, hv, h⟩ := lenDT_run h
      exact ⟨_, by simp only [builtinA, ht, ob, one, hv, keep], h⟩
    · cases h
  · split at h
    · obtain ⟨t, ht, h⟩ := liftK_run h
      obtain ⟨v, hv, h⟩ := capDT_run h
      exact ⟨_, by simp only [builtinA, ht, ob, one, hv, keep], h⟩
    · cases h
  · split at h
    · obtain ⟨t, ht, h⟩ := liftK_run h
      obtain ⟨u, hu, h⟩ := liftK_run h
      obtain ⟨r, hr, h⟩ := appendT_run P C h
      exact ⟨r, by simp only [builtinA, ht, ob, hu, two, hr], h⟩
    · cases h
  · split at h
    · obtain ⟨t, ht, h⟩ := liftK_run h
      obtain ⟨r, hr, h⟩ := copyT_run P C h
      exact ⟨r, by simp only [builtinA, ht, ob, two, hr], h⟩
    · cases h
  · exact liftK_run h
def callVT (vs : List AV) (o : Own) (f : AV) (K : AV × Own → Tr R) : Tr R := match f with
  | .func f first captured => call C f (first ++ vs ++ captured) o K
  | _ => .fail
def callCT (ρ : Operand → Option AV) (o : Own) (c : Call) (K : AV × Own → Tr R) : Tr R := match c.callee with
  | .value f => liftK (ρ f) fun fv => liftK (mapAll ρ c.args.toList) fun vs => callVT call C vs o fv K
  | .builtin b => liftK (mapAll ρ c.args.toList) fun vs => builtinT P C o b c.argTypes.toList vs K
  | _ => .fail
def stepT (ρ : Operand → Option AV) (o : Own) (op : Op) (K : AV × Own → Tr R) : Tr R := match op with
  | .call c => callCT P call C ρ o c K
  | op => opSelT op P C ρ o K
def guardK (ops : Array Oper) (ts : Ts) (g : Option (Nat × Bool)) (K : Bool → Tr R) : Tr R := match g with
  | none => K true
  | g => .test (wantedA ops ts g) K
def opsT (ops : Array Oper) : List Oper → St → (St → Tr R) → Tr R
  | [], st, K => K st
  | op :: rest, st, K => guardK ops st.ts op.guard fun w =>
    bif w then stepT P call C (evalA cfg.G st.ts) st.o op.op fun r => liftK (putA st r.1 r.2 op.dst) fun st' => opsT ops rest st' K
    else liftK (putA st undefA st.o op.dst) fun st' => opsT ops rest st' K
def drawT (ops : Array Oper) : Nat → List Oper → St → List (Nat × Foot) → (St × List (Nat × Foot) → Tr R) → Tr R
  | _, [], st, log, K => K (st, log)
  | i, op :: rest, st, log, K => guardK ops st.ts op.guard fun w =>
    bif w then stepT P call C (evalA cfg.G st.ts) st.o op.op fun r => liftK (putA st r.1 r.2 op.dst) fun st' =>
      bif footLt (C.lo + st.o.n) (footA cfg (evalA cfg.G st.ts) op.op) then drawT ops (i + 1) rest st' ((i, footA cfg (evalA cfg.G st.ts) op.op) :: log) K else .fail
    else liftK (putA st undefA st.o op.dst) fun st' => drawT ops (i + 1) rest st' ((i, .none) :: log) K
def regionT (callI : CallF R) (ops : Array Oper) (draw : Bool) (st : St) (K : St → Tr R) : Tr R :=
  bif draw then liftK (statA ops) fun acc => drawT P cfg call C ops 0 ops.toList st [] fun r => bif apartE ops acc r.2 r.2 then K r.1 else .fail
  else opsT P cfg callI C ops ops.toList st K
end
section
variable (P : Tab) (cfg : Cfg) (orcT : OrcT)
def enterT (code : CodeK R) (C : Ctx) (fn : Func) (c : Code) (args : List AV) (o : Own) (K : AV × Own → Tr R) : Tr R :=
  bif Nat.ble args.length 1000 then code C c (startA fn args o) fun x => liftK (endA P C fn x) K else .fail
def callFT (inl : Bool) (code : CodeK R) (C : Ctx) (f : FuncId) (args : List AV) (o : Own) (K : AV × Own → Tr R) : Tr R :=
  liftK (bodyOf P f) fun fc => bif cfg.canon f && belowL cfg.root.n args then
      enterT P code ⟨[(0, cfg.root)], cfg.root.n⟩ fc.1 fc.2 args ⟨0, [], []⟩ fun r => bif belowA cfg.root.n 20 r.1 then K (r.1, o) else .fail
    else bif inl && anyYL args then .fail
    else enterT P code ⟨(C.lo, o) :: C.B, C.lo + o.n⟩ fc.1 fc.2 args ⟨0, [], lendA C o (namesAt args (cfg.lend f))⟩ fun r => K (afterA C o (lendA C o (namesAt args (cfg.lend f))) r)
def callT (inl : Bool) (code : CodeK R) (C : Ctx) (f : FuncId) (args : List AV) (o : Own) (K : AV × Own → Tr R) : Tr R := match orcT f C args o with
  | some t => t.bind K
  | none => callFT P cfg inl code C f args o K
def thenT (f : St → (AX × St → Tr R) → Tr R) (x : AX × St) (K : AX × St → Tr R) : Tr R := match x.1 with
  | .normal => f x.2 K
  | _ => K x
def condT (f : Code → Tr R) (a b : Code) (v : AV) : Tr R := match v with
  | .bool d => .test d fun e => bif e then f a else f b
  | _ => .fail
end
abbrev CodeFT (R : Type) : Type := Tab → Cfg → OrcT → CodeK R → Ctx → St → (AX × St → Tr R) → Tr R
def kSkip : CodeFT R := fun _ _ _ _ _ st K => K (.normal, st)
def kSeq (a b : Code) : CodeFT R := fun _ _ _ code C st K => code C a st fun x => thenT (code C b) x K
def kCond (c : Operand) (a b : Code) : CodeFT R := fun _ cfg _ code C st K => liftK (evalA cfg.G st.ts c) (condT (fun c => code C c st K) a b)
def kBlock (id : Nat) (b : Code) : CodeFT R := fun _ _ _ code C st K => code C b st fun r => K (leaveA id r)
def kLoop (b : Code) : CodeFT R := fun _ _ _ code C st K => code C b st fun x => thenT (code C (.loop b)) x K
def kScope (b : Code) : CodeFT R := fun _ _ _ code C st K => code C b st K
def kExit (id : Nat) : CodeFT R := fun _ _ _ _ _ st K => K (.exit id, st)
def kRet : CodeFT R := fun _ _ _ _ _ st K => K (.ret, st)
def kRegion (ops : Array Oper) (draw : Bool) : CodeFT R := fun P cfg orcT code C st K => regionT P cfg (callT P cfg orcT false code) C (callT P cfg orcT true code) ops draw st fun st' => K (.normal, st')
def kNone : CodeFT R := fun _ _ _ _ _ _ _ => .fail
def codeSelT : Code → CodeFT R
  | .skip => kSkip
  | .label _ => kSkip
  | .seq a b => kSeq a b
  | .cond c a b => kCond c a b
  | .block id b => kBlock id b
  | .loop b => kLoop b
  | .scope b => kScope b
  | .exit id => kExit id
  | .ret => kRet
  | .region _ ops draw => kRegion ops draw
  | _ => kNone
def codeT (P : Tab) (cfg : Cfg) (orcT : OrcT) : Nat → CodeK R
  | 0, _, _, _, _ => .fail
  | n + 1, C, c, st, K => codeSelT c P cfg orcT (codeT P cfg orcT n) C st K

/-- What the tree answers, the reckoner answers. -/
def CodeTOK (codeT : CodeK R) (codeA : Ctx → Code → St → Option (AX × St)) : Prop := ∀ C c st K s, (codeT C c st K).run = some s → ∃ x, codeA C c st = some x ∧ (K x).run = some s
def CallTOK (callT : CallF R) (callA : Ctx → FuncId → List AV → Own → Option (AV × Own)) : Prop := ∀ C f args o K s, (callT C f args o K).run = some s → ∃ x, callA C f args o = some x ∧ (K x).run = some s
section
variable {P : Tab} {cfg : Cfg} {call : CallF R} {callA' : Ctx → FuncId → List AV → Own → Option (AV × Own)} (hc : CallTOK call callA') {rnd : Ctx → Nat → List AV → Own → Option (AV × Own)} {C : Ctx}
include hc
theorem stepT_run {ρ : Operand → Option AV} {o : Own} {op : Op} {K : AV × Own → Tr R} {s : R} (h : (stepT P call C ρ o op K).run = some s) : ∃ r, stepA P callA' rnd C ρ o op = some r ∧ (K r).run = some s := by
  unfold stepT at h
  unfold stepA
  split at h
  · rename_i c
    simp only
    unfold callCT at h
    unfold callC
    cases hcal : c.callee with
    | value f =>
      simp only [hcal] at h ⊢
      obtain ⟨fv, hf, h⟩ := liftK_run h
      obtain ⟨vs, hvs, h⟩ := liftK_run h
      simp only [hf, hvs, ob]
      unfold callVT at h
      cases fv <;> simp only at h <;> first | (cases h; done) | skip
      exact hc _ _ _ _ _ _ h
    | builtin b =>
      simp only [hcal] at h ⊢
      obtain ⟨vs, hvs, h⟩ := liftK_run h
      simp only [hvs, ob]
      exact builtinT_run P C h
    | invoke x n => simp only [hcal] at h; cases h
  · rename_i hne
    obtain ⟨r, hr, hk⟩ := opT_run h
    refine ⟨r, ?_, hk⟩
    split
    · exact absurd rfl (hne _)
    · exact hr
theorem opsT_run {ops : Array Oper} : ∀ {l : List Oper} {st : St} {K : St → Tr R} {s : R}, (opsT P cfg call C ops l st K).run = some s → ∃ st', opsA P cfg callA' rnd C ops l st = some st' ∧ (K st').run = some s
  | [], st, K, s, h => ⟨st, rfl, h⟩
  | op :: rest, st, K, s, h => by
    have h : (bif wantedA ops st.ts op.guard then stepT P call C (evalA cfg.G st.ts) st.o op.op fun r => liftK (putA st r.1 r.2 op.dst) fun st' => opsT P cfg call C ops rest st' K
      else liftK (putA st undefA st.o op.dst) fun st' => opsT P cfg call C ops rest st' K).run = some s := by
      unfold opsT guardK at h
      split at h
      · rename_i hg; rw [hg]; exact h
      · exact h
    simp only [opsA]
    cases hw : wantedA ops st.ts op.guard with
    | true =>
      rw [hw, cond_true] at h
      rw [cond_true]
      obtain ⟨r, hr, h⟩ := stepT_run (rnd := rnd) hc h
      obtain ⟨st1, hp, h⟩ := liftK_run h
      obtain ⟨st2, h2, h⟩ := opsT_run h
      exact ⟨st2, by simp only [hr, ob, hp]; exact h2, h⟩
    | false =>
      rw [hw, cond_false] at h
      rw [cond_false]
      obtain ⟨st1, hp, h⟩ := liftK_run h
      obtain ⟨st2, h2, h⟩ := opsT_run h
      exact ⟨st2, by simp only [ob, hp]; exact h2, h⟩
theorem drawT_run {ops : Array Oper} : ∀ {l : List Oper} {i : Nat} {st : St} {log : List (Nat × Foot)} {K : St × List (Nat × Foot) → Tr R} {s : R}, (drawT P cfg call C ops i l st log K).run = some s → ∃ r, drawA P cfg callA' C ops i l st log = some r ∧ (K r).run = some s
  | [], i, st, log, K, s, h => ⟨_, rfl, h⟩
  | op :: rest, i, st, log, K, s, h => by
    have h : (bif wantedA ops st.ts op.guard then stepT P call C (evalA cfg.G st.ts) st.o op.op fun r => liftK (putA st r.1 r.2 op.dst) fun st' =>
        bif footLt (C.lo + st.o.n) (footA cfg (evalA cfg.G st.ts) op.op) then drawT P cfg call C ops (i + 1) rest st' ((i, footA cfg (evalA cfg.G st.ts) op.op) :: log) K else .fail
      else liftK (putA st undefA st.o op.dst) fun st' => drawT P cfg call C ops (i + 1) rest st' ((i, .none) :: log) K).run = some s := by
      unfold drawT guardK at h
      split at h
      · rename_i hg; rw [hg]; exact h
      · exact h
    unfold drawA
    cases hw : wantedA ops st.ts op.guard with
    | true =>
      rw [hw, cond_true] at h
      rw [cond_true]
      obtain ⟨r, hr, h⟩ := stepT_run (rnd := rnd0) hc h
      obtain ⟨st1, hp, h⟩ := liftK_run h
      obtain ⟨hf, h⟩ := bif_run h
      obtain ⟨r2, h2, h⟩ := drawT_run h
      exact ⟨r2, by simp only [hr, ob, hp, ok, hf, cond_true]; exact h2, h⟩
    | false =>
      rw [hw, cond_false] at h
      rw [cond_false]
      obtain ⟨st1, hp, h⟩ := liftK_run h
      obtain ⟨r2, h2, h⟩ := drawT_run h
      exact ⟨r2, by simp only [ob, hp]; exact h2, h⟩
theorem regionT_run {callI : CallF R} {callI' : Ctx → FuncId → List AV → Own → Option (AV × Own)} (hcI : CallTOK callI callI') {ops : Array Oper} {draw : Bool} {st : St} {K : St → Tr R} {s : R} (h : (regionT P cfg call C callI ops draw st K).run = some s) :
    ∃ st', regionA P cfg callA' rnd C callI' ops draw st = some st' ∧ (K st').run = some s := by
  unfold regionT at h
  unfold regionA
  cases draw with
  | true =>
    rw [cond_true] at h
    rw [cond_true]
    obtain ⟨acc, ha, h⟩ := liftK_run h
    obtain ⟨r, hr, h⟩ := drawT_run hc h
    obtain ⟨h1, h2⟩ := bif_run h
    exact ⟨r.1, by simp only [ha, ob, hr, ok, h1, cond_true], h2⟩
  | false =>
    rw [cond_false] at h
    rw [cond_false]
    exact opsT_run hcI h
end
section
variable {P : Tab} {cfg : Cfg} {orcT : OrcT} (ho : OrcTOK cfg orcT)
theorem enterT_run {code : CodeK R} {codeA' : Ctx → Code → St → Option (AX × St)} (hcode : CodeTOK code codeA') {C : Ctx} {fn : Func} {c : Code} {args : List AV} {o : Own} {K : AV × Own → Tr R} {s : R} (h : (enterT P code C fn c args o K).run = some s) :
    ∃ r, enterA P codeA' C fn c args o = some r ∧ (K r).run = some s := by
  obtain ⟨h1, h2⟩ := bif_run h
  obtain ⟨x, hx, h3⟩ := hcode _ _ _ _ _ h2
  obtain ⟨r, hr, h4⟩ := liftK_run h3
  exact ⟨r, by simp only [enterA, h1, ok, cond_true, hx, ob]; exact hr, h4⟩
include ho
theorem callT_run {code : CodeK R} {codeA' : Ctx → Code → St → Option (AX × St)} (hcode : CodeTOK code codeA') {inl : Bool} : CallTOK (callT P cfg orcT inl code) (callA P cfg inl codeA') := by
  intro C f args o K s h
  unfold callT at h
  unfold callA
  cases hx : orcT f C args o with
  | some t =>
    rw [hx] at h
    obtain ⟨r, hr, h⟩ := Tr.run_bind h
    exact ⟨r, by rw [ho.some' hx hr], h⟩
  | none =>
    rw [hx] at h
    rw [ho.none' hx]
    simp only
    unfold callFT at h
    obtain ⟨fc, hb, h⟩ := liftK_run h
    simp only [callF, hb, ob]
    cases hcn : (cfg.canon f && belowL cfg.root.n args) with
    | true =>
      rw [hcn, cond_true] at h
      rw [cond_true]
      obtain ⟨r, hr, h⟩ := enterT_run hcode h
      obtain ⟨h1, h2⟩ := bif_run h
      exact ⟨_, by simp only [callP, hr, ob, ok, h1, cond_true], h2⟩
    | false =>
      rw [hcn, cond_false] at h
      rw [cond_false]
      simp only [callL]
      cases hy : (inl && anyYL args) with
      | true => rw [hy] at h; cases h
      | false =>
        rw [hy, cond_false] at h
        rw [cond_false]
        obtain ⟨r, hr, h⟩ := enterT_run hcode h
        exact ⟨_, by simp only [callN, hr, ob], h⟩
theorem thenT_run {f : St → (AX × St → Tr R) → Tr R} {g : St → Option (AX × St)} (hf : ∀ st K s, (f st K).run = some s → ∃ x, g st = some x ∧ (K x).run = some s) {x : AX × St} {K : AX × St → Tr R} {s : R} (h : (thenT f x K).run = some s) :
    ∃ y, thenA g x = some y ∧ (K y).run = some s := by
  unfold thenT at h
  unfold thenA
  cases hx : x.1 <;> rw [hx] at h <;> simp only at h ⊢
  · exact hf _ _ _ h
  · exact ⟨_, rfl, h⟩
  · exact ⟨_, rfl, h⟩
theorem codeT_run : ∀ n, CodeTOK (R := R) (codeT P cfg orcT n) (codeA P cfg n)
  | 0, C, c, st, K, s, h => by cases h
  | n + 1, C, c, st, K, s, h => by
    have ih := codeT_run n
    unfold codeT at h
    unfold codeA
    cases c <;> simp only [codeSelT, codeSel] at h ⊢
    case skip => exact ⟨_, rfl, h⟩
    case label => exact ⟨_, rfl, h⟩
    case exit => exact ⟨_, rfl, h⟩
    case ret => exact ⟨_, rfl, h⟩
    case seq a b =>
      obtain ⟨x, hx, h⟩ := ih _ _ _ _ _ h
      obtain ⟨y, hy, h⟩ := thenT_run ho (fun st K s => ih C b st K s) h
      exact ⟨y, by simp only [cSeq, hx, ob]; exact hy, h⟩
    case cond c a b =>
      obtain ⟨v, hv, h⟩ := liftK_run h
      unfold condT at h
      cases v <;> simp only at h <;> first | (cases h; done) | skip
      rename_i d
      simp only [Tr.run] at h
      simp only [cCond, hv, ob]
      cases d with
      | true => exact ih _ _ _ _ _ h
      | false => exact ih _ _ _ _ _ h
    case block id b =>
      obtain ⟨x, hx, h⟩ := ih _ _ _ _ _ h
      exact ⟨_, by simp only [cBlock, hx, ob], h⟩
    case loop b =>
      obtain ⟨x, hx, h⟩ := ih _ _ _ _ _ h
      obtain ⟨y, hy, h⟩ := thenT_run ho (fun st K s => ih C (.loop b) st K s) h
      exact ⟨y, by simp only [cLoop, hx, ob]; exact hy, h⟩
    case scope b => exact ih _ _ _ _ _ h
    case region id ops draw =>
      obtain ⟨st', hs, h⟩ := regionT_run (rnd := roundA (codeA P cfg n)) (callT_run ho ih) (callT_run ho ih) h
      exact ⟨_, by simp only [cRegion, hs, ob], h⟩
    all_goals cases h
end
end
end Go.Ev
