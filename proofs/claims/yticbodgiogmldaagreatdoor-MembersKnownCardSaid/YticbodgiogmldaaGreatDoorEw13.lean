/- The builtins: len, cap, append, copy, min, max. -/
import Derived.Test.YticbodgiogmldaaGreatDoorEw12
set_option linter.all false
namespace Go.Ev
open Go Go.RowKit

theorem growBy_le (newLen : Nat) : ∀ (r c : Nat), Builtin.growBy newLen r c ≤ 2 ^ r * (c + 768)
  | 0, c => by simp [Builtin.growBy]
  | r + 1, c => by
    have hp : 2 ^ (r + 1) = 2 * 2 ^ r := by rw [Nat.pow_succ]; omega
    have h1 : 0 < 2 ^ r := Nat.two_pow_pos r
    unfold Builtin.growBy
    split
    · rw [hp, Nat.mul_assoc]
      have : 1 * (c + 768) ≤ 2 ^ r * (c + 768) := Nat.mul_le_mul_right _ h1
      omega
    · refine Nat.le_trans (growBy_le newLen r _) ?_
      rw [hp, Nat.mul_comm 2, Nat.mul_assoc]
      exact Nat.mul_le_mul_left _ (by omega)
theorem nextcap_le {need cap : Nat} (h : cap < need) (hn : need ≤ 1000000) : Builtin.nextslicecap need cap ≤ 20000000 := by
  unfold Builtin.nextslicecap
  split
  · omega
  · split
    · omega
    · refine Nat.le_trans (growBy_le need 4 cap) ?_
      omega

theorem zero_int (n : Nat) (k : IntKind) : conc (fun _ => ⟨0, 0, 0⟩) (.int k (.ofNat n)) = .int k n := rfl

/-- A block named anew: where an append writes behind the end of a block that is no more read by its elder name. -/
theorem Ext.again {cfg : Cfg} {C : Ctx} {D : Nat → Prop} {m : Nat → Loc} {o : Own} {w w' : World} (h : Inv cfg D m C o w) {x : AObj} {l : Loc} {id : Nat} (hd : D id) (ho : (own? C o id).isSome = true) (hl : l.blk = (m id).blk)
    (hlv : ∀ j, D j → live (get C o j) = true → (m j).blk ≠ (m id).blk) (hw : ∀ k, k ≠ (m id).blk → w'.heap[k]? = w.heap[k]?) (hsz : w.heap.size ≤ w'.heap.size) (hx : ObjRel D m l x w'.heap[l.blk]?)
    (hos : w'.os = w.os) (ht : w'.tape = w.tape) (hu : w'.output = w.output) :
    Ext cfg C D m o w (addD D (C.lo + o.n)) (upd m (C.lo + o.n) l) (o.push x) w' := by
  have h' : Inv cfg D m C o w' := h.world fun j hj hlj => hw _ (hlv j hj hlj)
  refine ⟨h'.push (fun j hj hlj => by rw [hl]; exact hlv j hj hlj) hx, fun i hi => .inl hi, fun i hi => ?_, ?_, by simp [Own.push], hos, ht, hu, hsz, fun k _ hn => hw k (fun e => hn id hd ho e.symm), rfl, ?_⟩
  · have := h.lt i hi; exact upd_ne (by omega)
  · rintro i (hi | rfl)
    · exact .inl hi
    · exact .inr (Nat.le_refl _)
  · rintro i (hi | rfl) hn
    · exact absurd hi hn
    · rw [upd_eq]; exact .inr ⟨id, hd, ho, hl.symm⟩

section
variable {P : Program} {T : Tab} (hT : TabOK P T) {cfg : Cfg} {C : Ctx} {D : Nat → Prop} {m : Nat → Loc} {o : Own} {w : World} (hi : Inv cfg D m C o w)
include hT hi
omit hT in
theorem run_firstA {size n : Nat} {x : AV} {cs : List AV} (hx : okV D m x) (h : firstA C o size n x = some cs) : (Builtin.firstCells size n (conc m x)).run P w = .ok (concL m cs).toArray w ∧ okL D m cs := by
  cases x <;> simp only [firstA, reduceCtorEq, ok_some, Option.some.injEq] at h
  · rename_i s
    obtain ⟨hn, rfl⟩ := h
    refine ⟨?_, okL_iff.2 (fun v hm => by obtain ⟨b, _, rfl⟩ := List.mem_map.1 hm; exact okV_none (by simp [byteA, idsA]))⟩
    simp only [conc, Builtin.firstCells, Sem.run_pure]
    congr 1
    apply Array.toList_inj.1
    simp [ByteArray.data_extract, concL_map, byteA, conc, Function.comp_def]
  · rename_i id off len c
    have hd : D id := (hx (id, needC len c) (by simp [idsA])).1
    obtain ⟨hn, h⟩ := h
    simp only [readA, ob_some] at h
    obtain ⟨cs0, hc0, h⟩ := h
    obtain ⟨h1, h2⟩ := hi.range hd hc0 h P
    exact ⟨by simpa [conc, Builtin.firstCells] using h1, h2⟩
  · obtain ⟨hn, rfl⟩ := h
    exact ⟨by simp [conc, Builtin.firstCells, concL], okL_nil⟩
omit hT hi in
theorem run_lenA {x : AV} {n : Nat} (h : lenA x = some n) : (Builtin.lenOf (conc m x)).run P w = .ok n w := by
  cases x <;> simp only [lenA, reduceCtorEq, Option.some.injEq] at h <;> subst h <;> simp [conc, Builtin.lenOf] <;> rfl
omit hT hi in
theorem zeros_size (z : Array Value) (n : Nat) : (Builtin.zeroCells z n).size = n * z.size := by simp [Builtin.zeroCells]
omit hT hi in
theorem firstA_len {size n : Nat} {x : AV} {cs : List AV} (h : firstA C o size n x = some cs) (hs : ∀ s, x = .str s → size = 1) : cs.length = n * size := by
  cases x <;> simp only [firstA, reduceCtorEq, ok_some, Option.some.injEq, ble_iff, beq_iff] at h
  · rename_i s
    obtain ⟨hn, rfl⟩ := h
    rw [hs s rfl]
    simp; omega
  · obtain ⟨hn, h⟩ := h
    simp only [readA, ob_some] at h
    obtain ⟨cs0, hc0, h⟩ := h
    exact takeA_len h
  · obtain ⟨rfl, rfl⟩ := h
    simp
omit hT hi in
theorem okV_grow {n c : Nat} {l : Loc} {k : Nat} (hk : k ≤ l.cap) : okV (addD D n) (upd m n l) (.slice n 0 k (.rest 0)) := fun i hm => by
  simp only [idsA, List.mem_singleton, needC] at hm
  subst hm
  exact ⟨ok_new, by simp only [upd_eq]; omega⟩
/-- An append into a new block. -/
theorem append_new {elem size n sl sc : Nat} {ts : Array TypeId} {ty : TypeId} {s x : AV} {old new : List AV} {z : AV} {t u : TypeId} {base : Option Addr} {inf : TypeInfo}
    (hts : ts[0]? = some t) (htu : ts[1]? = some u) (he : T.und t = some (.slice elem)) (hu : notIntT T u = true) (hinf : T.inf elem = some inf) (hby : inf.bytes ≤ 100000) (hz : zeroA T elem = some z) (hsz : szOf T elem = some size) (hzl : (cellsA z).length = size) (h0 : 0 < size)
    (hs : conc m s = .slice base sl sc) (hx : lenA x = some n) (hn : ¬ sl + n ≤ sc) (hlim : sl + n ≤ 1000000)
    (hold : (Builtin.firstCells size sl (conc m s)).run P w.drew = .ok (concL m old).toArray w.drew) (hnew : (Builtin.firstCells size n (conc m x)).run P w.drew = .ok (concL m new).toArray w.drew)
    (hoo : okL D m old) (hon : okL D m new) (hol : old.length = sl * size) (hnl : new.length = n * size) :
    ∃ D' m' w', (Builtin.append_ ts ty #[conc m s, conc m x]).run P w = .ok (conc m' (growA C o size (sl + n) (old ++ new)).1) w' ∧ okV D' m' (growA C o size (sl + n) (old ++ new)).1 ∧ Ext cfg C D m o w D' m' (growA C o size (sl + n) (old ++ new)).2 w' := by
  have hcap := grown_ge w (sl + n) sc elem (by omega)
  obtain ⟨d, hd, hdi⟩ : ∃ d, T.und u = some d ∧ ∀ k, d ≠ .int k := by
    unfold notIntT at hu
    split at hu
    · cases hu
    · rename_i d hne hd
      exact ⟨d, hd, fun k e => hne k e⟩
    · cases hu
  obtain ⟨hz1, hz2⟩ := run_zero hT (m := m) hz w.drew
  have hok : okL D m (old ++ new) := okL_append.2 ⟨hoo, hon⟩
  have hrest : (Builtin.zeroCells (concL m (cellsA z)).toArray (grownCap w (sl + n) sc elem - (sl + n))).size = (grownCap w (sl + n) sc elem - (sl + n)) * size := by
    rw [zeros_size]; simp [concL_len, hzl]
  have hsize : ((concL m old).toArray ++ (concL m new).toArray ++ Builtin.zeroCells (concL m (cellsA z)).toArray (grownCap w (sl + n) sc elem - (sl + n))).size = grownCap w (sl + n) sc elem * size := by
    simp only [Array.size_append, hrest, List.size_toArray, concL_len, hol, hnl]
    rw [← Nat.add_mul, ← Nat.add_mul]
    congr 1; omega
  have hext := Ext.fresh1 hi (.cells (old ++ new) true (some size)) ⟨w.heap.size, 0, grownCap w (sl + n) sc elem⟩ (.cells ((concL m old).toArray ++ (concL m new).toArray ++ Builtin.zeroCells (concL m (cellsA z)).toArray (grownCap w (sl + n) sc elem - (sl + n))) elem) (w0 := w.drew) rfl rfl rfl rfl rfl
    ⟨_, elem, (0, 0), rfl, ⟨(fun i v hv => by
      rw [Nat.zero_add, Array.getElem?_append, if_pos (by
        have := (List.getElem?_eq_some_iff.1 hv).1
        simpa [concL_len] using this)]
      have : ((concL m old).toArray ++ (concL m new).toArray) = (concL m (old ++ new)).toArray := by rw [concL_app]; simp
      rw [this]
      simp [concL_get, hv]), hok, (fun _ => rfl), (fun s hs => by cases hs; exact ⟨h0, rfl, hsize⟩)⟩⟩
  refine ⟨_, _, _, ?_, okV_grow (c := 0) (by simpa using hcap), hext⟩
  have hnc : ¬ (Builtin.nextslicecap (sl + n) sc * inf.bytes > 2 ^ 48) := by
    have h1 := nextcap_le (need := sl + n) (cap := sc) (by omega) hlim
    have h2 : Builtin.nextslicecap (sl + n) sc * inf.bytes ≤ 20000000 * 100000 := Nat.mul_le_mul h1 hby
    omega
  have hmax : ¬ (((sl + n : Nat) : Int) > IntKind.i64.max) := by
    simp only [IntKind.max, IntKind.bits, IntKind.signed, if_true]; omega
  rw [hs] at hold ⊢
  have ha0 : (#[Value.slice base sl sc, conc m x] : Array Value)[0]? = some (.slice base sl sc) := rfl
  have ha1 : (#[Value.slice base sl sc, conc m x] : Array Value)[1]? = some (conc m x) := rfl
  have hq : (Question.appendCap (sl + n) sc elem).cut (w.tape w.drawn (.appendCap (sl + n) sc elem)) = grownCap w (sl + n) sc elem := rfl
  have hdr : ({ w with drawn := w.drawn + 1 } : World) = w.drew := rfl
  have hrd := run_und hT hd w
  clear hd
  cases d
  case int k => exact absurd rfl (hdi k)
  all_goals
    simp only [Builtin.append_, hts, htu, ha0, ha1, Sem.run_bind, run_und hT he w, Result.andThen_ok, run_sz hT hsz w, hrd, Sem.run_pure, Bool.false_eq_true, if_false, run_lenA hx, hn, run_inf hT hinf w, hmax, false_and, hnc, run_choose, Question.forced, hq, hdr, run_inf hT hinf w.drew, run_askRoom, hold, Bool.not_false, if_true, hnew, hz1, conc_cells, newRow, run_newObj]
    simp only [growA, conc, capC, Own.next, upd_eq, Nat.sub_zero, Nat.add_zero]
    rfl
/-- An append into the spare room of a block, or of nothing. -/
theorem append_in {elem size n sl sc : Nat} {ts : Array TypeId} {ty : TypeId} {s x : AV} {new : List AV} {t u : TypeId} {base : Option Addr} {w' : World}
    (hts : ts[0]? = some t) (htu : ts[1]? = some u) (he : T.und t = some (.slice elem)) (hu : notIntT T u = true) (hsz : szOf T elem = some size)
    (hs : conc m s = .slice base sl sc) (hx : lenA x = some n) (hn : sl + n ≤ sc)
    (hnew : (Builtin.firstCells size n (conc m x)).run P w = .ok (concL m new).toArray w)
    (hst : ∀ a, base = some a → (storeCells (a.add (sl * size)) (concL m new) 0).run P w = .ok () w') (hst' : base = none → w' = w) :
    (Builtin.append_ ts ty #[conc m s, conc m x]).run P w = .ok (.slice base (sl + n) sc) w' := by
  obtain ⟨d, hd, hdi⟩ : ∃ d, T.und u = some d ∧ ∀ k, d ≠ .int k := by
    unfold notIntT at hu
    split at hu
    · cases hu
    · rename_i d hne hd
      exact ⟨d, hd, fun k e => hne k e⟩
    · cases hu
  rw [hs]
  have ha0 : (#[Value.slice base sl sc, conc m x] : Array Value)[0]? = some (.slice base sl sc) := rfl
  have ha1 : (#[Value.slice base sl sc, conc m x] : Array Value)[1]? = some (conc m x) := rfl
  have hrd := run_und hT hd w
  clear hd
  cases d
  case int k => exact absurd rfl (hdi k)
  all_goals
    simp only [Builtin.append_, hts, htu, ha0, ha1, Sem.run_bind, run_und hT he w, Result.andThen_ok, run_sz hT hsz w, hrd, Sem.run_pure, Bool.false_eq_true, if_false, run_lenA hx, hn, if_true, Bool.not_false, hnew]
    cases base with
    | none => simp only [Sem.run_pure]; rw [hst' rfl]
    | some a => simp only [Sem.run_bind, hst a rfl, Result.andThen_ok, Sem.run_pure]
omit hT hi in
theorem sliceA_lenA {s : AV} {sl : Nat} (h : lenA s = some sl) (hs : isSliceA s = true) : s = .nilslice ∧ sl = 0 ∨ ∃ id off c, s = .slice id off sl c := by
  cases s <;> simp [isSliceA] at hs
  · simp only [lenA, Option.some.injEq] at h; subst h; exact .inr ⟨_, _, _, rfl⟩
  · simp only [lenA, Option.some.injEq] at h; exact .inl ⟨rfl, h.symm⟩
theorem append_ok {ts : Array TypeId} {ty t u : TypeId} {s x : AV} {r : AV × Own} (hts : ts[0]? = some t) (htu : ts[1]? = some u) (hs : okV D m s) (hx : okV D m x) (h : appendA T C o t u s x = some r) :
    ∃ D' m' w', (Builtin.append_ ts ty #[conc m s, conc m x]).run P w = .ok (conc m' r.1) w' ∧ okV D' m' r.1 ∧ Ext cfg C D m o w D' m' r.2 w' := by
  simp only [appendA, ob_some, ok_some, Bool.and_eq_true] at h
  obtain ⟨elem, he, ⟨⟨hni, hsm⟩, hsl⟩, size, hsz, z, hz, n, hn, sl, hl, h⟩ := h
  have heu := und_elem he
  obtain ⟨inf, hinf, hby⟩ := small_some hT hsm
  have hslc := sliceA_lenA hl hsl
  by_cases hn0 : n = 0
  · rw [beqT hn0, cond_true, ok_some, Option.some.injEq] at h
    obtain ⟨hfit, rfl⟩ := h
    subst hn0
    have hfc : (Builtin.firstCells size 0 (conc m x)).run P w = .ok (concL m []).toArray w := by
      cases x <;> simp [lenA] at hn <;> simp [conc, Builtin.firstCells, concL, loadCells, loadCellsFrom]
    refine ⟨D, m, w, ?_, hs, Ext.refl hi⟩
    rcases hslc with ⟨rfl, rfl⟩ | ⟨id, off, c, rfl⟩
    · have := append_in (ty := ty) (sc := 0) (w' := w) hT hi hts htu heu hni hsz (s := .nilslice) (base := none) (sl := 0) rfl hn (Nat.le_refl _) hfc (fun a e => by cases e) (fun _ => rfl)
      simpa [conc] using this
    · have hroom : sl ≤ capC (m id) c := by
        cases c with
        | known c => exact ble_iff.1 hfit
        | rest k =>
          have := (hs (id, sl + k) (by simp [idsA, needC])).2
          simp only [capC] at this ⊢; omega
      have := append_in (ty := ty) (w' := w) hT hi hts htu heu hni hsz (s := .slice id off sl c) rfl hn hroom hfc (fun a e => by simp [concL, storeCells]) (fun e => by cases e)
      simpa [conc] using this
  · rw [beqF hn0, cond_false, ok_some] at h
    simp only [Bool.and_eq_true, lenOk, ble_iff, natLt_iff, beq_iff, ob_some, ok_some] at h
    obtain ⟨⟨⟨⟨⟨hlim, h0⟩, hs1⟩, hzl⟩, hstr⟩, new, hnew, hone, h⟩ := h
    obtain ⟨hfr, hfo⟩ := run_firstA (P := P) hi hx hnew
    have hid : Inv cfg D m C o w.drew := hi.world fun _ _ _ => rfl
    obtain ⟨hfr', _⟩ := run_firstA (P := P) hid hx hnew
    have hnl := firstA_len hnew (fun s e => by subst e; exact beq_iff.1 hstr)
    rcases hslc with ⟨rfl, rfl⟩ | ⟨id, off, c, rfl⟩
    · simp only [appendTo, Option.some.injEq] at h
      subst h
      have := append_new (ty := ty) (old := []) (base := none) (sc := 0) hT hi hts htu heu hni hinf hby hz hsz hzl h0 (s := .nilslice) (sl := 0) rfl hn (by omega) (by omega) (by simp [conc, Builtin.firstCells, concL]) hfr' okL_nil hfo (by simp) hnl
      simpa using this
    · have hd : D id := (hs (id, needC sl c) (by simp [idsA])).1
      have hneed := (hs (id, needC sl c) (by simp [idsA])).2
      cases c with
      | known c =>
        simp only [appendTo, appendCap, appendKnown] at h
        by_cases hcap : sl + n ≤ c
        · rw [ble_iff.2 hcap, cond_true, ob_some] at h
          obtain ⟨o', hw, h⟩ := h
          simp only [Option.some.injEq] at h
          subst h
          obtain ⟨w', hw1, hw2⟩ := run_writeA (P := P) hi hd hfo hone hw
          have := append_in (ty := ty) (w' := w') hT hi hts htu heu hni hsz (s := .slice id off sl (.known c)) rfl hn (by simpa [capC] using hcap) hfr (fun a e => by
            cases e
            rw [add_none, Nat.add_assoc]; exact hw1) (fun e => by cases e)
          refine ⟨D, m, w', ?_, ?_, hw2⟩
          · simpa [conc, capC] using this
          · intro i hm
            simp only [idsA, List.mem_singleton, needC] at hm
            subst hm; exact ⟨hd, Nat.zero_le _⟩
        · rw [bleF hcap, cond_false, ob_some] at h
          obtain ⟨old, hold, h⟩ := h
          simp only [Option.some.injEq] at h
          subst h
          have hof : firstA C o size sl (.slice id off sl (.known c)) = some old := by
            simp only [firstA, ok_some, ble_iff]; exact ⟨Nat.le_refl _, hold⟩
          obtain ⟨hor, hoo⟩ := run_firstA (P := P) hid hs hof
          exact append_new (ty := ty) hT hi hts htu heu hni hinf hby hz hsz hzl h0 rfl hn (by simpa [capC] using hcap) hlim hor hfr' hoo hfo (firstA_len hof (fun s e => by cases e)) hnl
      | rest k =>
        simp only [appendTo, appendCap, appendRest, ok_some, Bool.and_eq_true, beq_iff, ob_some] at h
        obtain ⟨⟨rfl, rfl⟩, y, hy, cs, hcs, h⟩ := h
        simp only [Option.some.injEq] at h
        subst h
        simp only [needC, Nat.add_zero] at hneed
        cases y <;> simp only [sameGrow, reduceCtorEq] at hcs
        rename_i cs' rw g
        cases rw <;> cases g <;> simp only [reduceCtorEq, ok_some, Bool.and_eq_true, beq_iff, Option.some.injEq] at hcs
        obtain ⟨⟨rfl, hcl⟩, rfl⟩ := hcs
        rename_i size
        have hob := hi.obj id hd
        rw [own_get hy] at hob
        obtain ⟨c, e, fz, hb, hr⟩ := hob
        obtain rfl := hr.free rfl
        obtain ⟨_, hbase, hcsz⟩ := hr.grow size rfl
        have hk := Ext.put (w' := w) hi (x := .dead) hd hy rfl (Nat.le_refl _) (fun _ _ => rfl) trivial rfl rfl rfl
        have hnx : (putO C o id .dead).next C = C.lo + o.n := by simp [Own.next, put_n]
        by_cases hcap : sl + n ≤ (m id).cap
        · have hlen : sl * size + n * size ≤ (m id).cap * size := by rw [← Nat.add_mul]; exact Nat.mul_le_mul_right _ hcap
          have hst := run_storeCells_at P (m id).blk (sl * size) e (concL m new) 0 c w hb (by rw [concL_len, hnl, hcsz]; omega) (fun v hvm => by
            rw [concL_map] at hvm
            obtain ⟨q, hq, rfl⟩ := List.mem_map.1 hvm
            exact oneA_conc (allOne_iff.1 hone q hq))
          have hap := append_in (ty := ty) hT hi hts htu heu hni hsz (s := .slice id 0 sl (.rest 0)) rfl hn (by simpa [capC] using hcap) hfr (fun a e => by
            cases e
            rw [add_none, hbase, Nat.add_zero, Nat.zero_add]; exact hst) (fun e => by cases e)
          have hg : Ext cfg C D m (putO C o id .dead) w (addD D (C.lo + (putO C o id .dead).n)) (upd m (C.lo + (putO C o id .dead).n) ⟨(m id).blk, 0, (m id).cap⟩) ((putO C o id .dead).push (.cells (cs' ++ new) true (some size))) (w.setRow (m id).blk (c.toList.take (sl * size + 0) ++ concL m new ++ c.toList.drop (sl * size + 0 + (concL m new).length)).toArray) := by
            refine Ext.again hk.inv hd (by rw [own_isSome put_le, hy]; rfl) rfl (fun j hj hlj => ?_) (fun k hk => setRow_other _ _ _ _ hk) (Nat.le_of_eq (setRow_size _ _ _).symm) ?_ rfl rfl rfl
            · rw [get_put hi.len (hi.lt id hd) (hi.lt j hj) (by rw [hy]; rfl)] at hlj
              by_cases ej : j = id
              · rw [if_pos ej] at hlj; cases hlj
              · rw [if_neg ej] at hlj
                exact hi.inj j id hj hd ej hlj (by rw [own_get hy]; rfl)
            · refine ⟨_, e, (0, 0), setRow_heap w _ c _ e _ hb, ⟨fun i v hv => ?_, okL_append.2 ⟨hr.okc, hfo⟩, fun _ => rfl, fun s hs => ?_⟩⟩
              · simp only [Nat.add_zero, Nat.zero_add, List.getElem?_toArray]
                rw [List.append_assoc, List.getElem?_append, List.length_take, Array.length_toList, Nat.min_eq_left (by omega)]
                rw [List.getElem?_append, hcl] at hv
                by_cases hi1 : i < sl * size
                · rw [if_pos hi1] at hv ⊢
                  have := hr.at' i v hv
                  rw [hbase, Nat.zero_add] at this
                  rw [List.getElem?_take_of_lt hi1, Array.getElem?_toList]; exact this
                · rw [if_neg hi1] at hv ⊢
                  have := (List.getElem?_eq_some_iff.1 hv).1
                  rw [List.getElem?_append, if_pos (by rw [concL_len]; exact this), concL_get, hv]; rfl
              · cases hs
                refine ⟨h0, rfl, ?_⟩
                simp only [Nat.add_zero, List.size_toArray, List.length_append, List.length_take, List.length_drop, Array.length_toList, concL_len, hnl]
                rw [hcsz]; omega
          refine ⟨_, _, _, ?_, okV_grow (c := 0) (n := (putO C o id .dead).next C) (l := ⟨(m id).blk, 0, (m id).cap⟩) (m := m) (D := D) hcap, hk.trans hg⟩
          rw [hap]
          simp only [growA, conc, capC, Own.next, upd_eq, Nat.sub_zero, Nat.add_zero, hbase]
        · have hof : firstA C o size sl (.slice id 0 sl (.rest 0)) = some cs' := by
            simp only [firstA, ok_some, ble_iff]
            refine ⟨Nat.le_refl _, ?_⟩
            simp only [readA, own_get hy, cellsOf, ob, takeA, List.drop_zero]
            rw [← hcl, List.take_length, beqT rfl]; rfl
          obtain ⟨hor, hoo⟩ := run_firstA (P := P) hid hs hof
          have hki : Inv cfg D m C (putO C o id .dead) w := hk.inv
          obtain ⟨D', m', w', h1, h2, h3⟩ := append_new (ty := ty) hT hki hts htu heu hni hinf hby hz hsz hzl h0 (s := .slice id 0 sl (.rest 0)) rfl hn (by simpa [capC] using hcap) hlim hor hfr' hoo hfo (by omega) hnl
          exact ⟨D', m', w', h1, h2, hk.trans h3⟩
end
end Go.Ev
