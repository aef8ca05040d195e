/- Conversions, make, maps, ranges over strings. -/
import Derived.Test.YtafekjglclnegaaGreatDoorEw10
import Derived.Laws.IdiomStrings
set_option linter.all false
namespace Go.Ev
open Go Go.RowKit

theorem byteOf_some {v : AV} {b : UInt8} (h : byteOf v = some b) : v = .int .u8 (.ofNat b.toNat) := by
  unfold byteOf at h
  split at h
  · simp only [ok_some, natLt_iff, Option.some.injEq] at h
    obtain ⟨h1, rfl⟩ := h
    rw [UInt8.toNat_ofNat_of_lt' h1]
  · cases h
theorem bytesOfA_some : ∀ {vs : List AV} {s : List UInt8}, bytesOfA vs = some s → vs = s.map byteA
  | [], s, h => by cases h; rfl
  | v :: vs, s, h => by
    simp only [bytesOfA, ob_some, Option.some.injEq] at h
    obtain ⟨b, hb, s', hs, rfl⟩ := h
    rw [byteOf_some hb, bytesOfA_some hs]
    rfl
theorem grown_ge (w : World) (need old : Nat) (e : TypeId) (h : need < 2 ^ 63) : need ≤ grownCap w need old e := by
  unfold grownCap Question.cut
  simp

section
variable {P : Program} {T : Tab} (hT : TabOK P T) {cfg : Cfg} {C : Ctx} {D : Nat → Prop} {m : Nat → Loc} {o : Own} {w : World} (hi : Inv cfg D m C o w) {ρ : Operand → Option AV} {ev : Operand → Value} (hρ : RhoOK D m ρ ev)
include hT hi hρ
omit hi hρ in
theorem byteD_some {e : TypeId} (h : isByteD (T.und e) = true) : T.und e = some (.int .u8) := by
  cases hu : T.und e with
  | none => simp [hu, isByteD] at h
  | some d =>
    cases d <;> simp [hu, isByteD] at h
    rename_i k
    cases k <;> simp at h
    rfl
omit hi hρ in
theorem strD_some {t : TypeId} (h : strD (T.und t) = true) : T.und t = some .string := und_str h
theorem do_convert {oo : Oper} {src dst : TypeId} {x : Operand} {r : AV × Own} (ho : oo.op = .convert src dst x) (h : doConvert src dst x T C ρ o = some r) : OpS P cfg C D m o w ev oo r := by
  simp only [doConvert, ob_some] at h
  obtain ⟨v, hv, h⟩ := h
  obtain ⟨h1, h2⟩ := hρ x _ hv
  cases v <;> simp only [convertA, reduceCtorEq, ok_some, keep_some] at h
  case int k n =>
    obtain ⟨hs, h, h3⟩ := h
    obtain ⟨d, hd⟩ := Option.isSome_iff_exists.1 hs
    cases hu : T.und dst with
    | none => simp [hu, convInt] at h
    | some d' =>
      cases d' <;> simp only [hu, convInt, reduceCtorEq, mkInt_eq, Option.some.injEq] at h
      · refine OpOK.pure hi h3 ?_ (okV_none (by rw [← h]; simp [idsA]))
        rw [← h]
        simp only [execOp, ho, h1, convert, Sem.run_bind, run_und hT hd w, run_und hT hu w, Result.andThen_ok, conc, Conv.intToInt, Sem.run_pure]
      · refine OpOK.pure hi h3 ?_ (okV_none (by rw [← h]; simp [idsA]))
        rw [← h]
        simp only [execOp, ho, h1, convert, Sem.run_bind, run_und hT hd w, run_und hT hu w, Result.andThen_ok, conc, Conv.intToString, Sem.run_pure]
  case str s =>
    obtain ⟨hs, h⟩ := h
    have hsu := strD_some hT hs
    cases hu : T.und dst with
    | none => simp [hu, convStr] at h
    | some d' =>
      cases d' <;> simp only [hu, convStr, reduceCtorEq, Option.some.injEq, ok_some, Bool.and_eq_true, ble_iff] at h
      · subst h
        refine OpOK.pure hi rfl ?_ h2
        simp only [execOp, ho, h1, convert, Sem.run_bind, run_und hT hsu w, run_und hT hu w, Result.andThen_ok, conc, Sem.run_pure]
      · rename_i e
        obtain ⟨⟨hb, hl⟩, rfl⟩ := h
        have hbu := byteD_some hT hb
        have hr := run_bytes_of_string (P := P) w src dst e ⟨⟨s⟩⟩ (und_some hT hsu) (und_some hT hu) (und_some hT hbu)
        have hge := grown_ge w s.length 0 e (by omega)
        have hat : ∀ (i : Nat) (v : AV), (s.map byteA)[i]? = some v → (bytesRow ⟨⟨s⟩⟩ (grownCap w (ByteArray.mk ⟨s⟩).size 0 e))[0 + i]? = some (conc m v) := by
          intro i v hiv
          rw [List.getElem?_map] at hiv
          obtain ⟨b, hb', rfl⟩ := Option.map_eq_some_iff.1 hiv
          obtain ⟨hlt, hbe⟩ := List.getElem?_eq_some_iff.1 hb'
          rw [Nat.zero_add, bytesRow_at _ _ i (by simpa using hlt)]
          simp [conc, byteA, hbe]
        have hokb : okL D m (s.map byteA) := by
          rw [okL_iff]
          intro v hm
          obtain ⟨b, _, rfl⟩ := List.mem_map.1 hm
          exact okV_none (by simp [byteA, idsA])
        have he := Ext.fresh1 hi (.cells (s.map byteA) false none) ⟨w.heap.size, 0, grownCap w s.length 0 e⟩ (.cells (bytesRow ⟨⟨s⟩⟩ (grownCap w (ByteArray.mk ⟨s⟩).size 0 e)) e ((bytesRow ⟨⟨s⟩⟩ (grownCap w (ByteArray.mk ⟨s⟩).size 0 e)).size, (bytesRow ⟨⟨s⟩⟩ (grownCap w (ByteArray.mk ⟨s⟩).size 0 e)).size + 1)) (w0 := w.drew) rfl rfl rfl rfl rfl
          ⟨_, _, _, rfl, ⟨hat, hokb, (fun h => by cases h), (fun s h => by cases h)⟩⟩
        refine ⟨_, _, _, .value (.slice (some ⟨w.heap.size, 0, none⟩) (ByteArray.mk ⟨s⟩).size (grownCap w (ByteArray.mk ⟨s⟩).size 0 e)), ?_, .inl ?_, ?_, he⟩
        · simp only [execOp, ho, h1, conc, Sem.run_bind, hr, Result.andThen_ok, Sem.run_pure]
        · simp only [conc, capC, Own.next, upd_eq, Nat.sub_zero, Nat.add_zero]; rfl
        · intro i hm
          simp only [idsA, List.mem_singleton, needC] at hm
          subst hm
          refine ⟨ok_new, ?_⟩
          simp only [Own.next, upd_eq, Nat.add_zero]
          exact hge
  case slice id off len c =>
    obtain ⟨h, h3⟩ := h
    have hd : D id := (h2 (id, needC len c) (by simp [idsA])).1
    simp only [convSlice, ob_some, ok_some, Bool.and_eq_true, Option.some.injEq, readA] at h
    obtain ⟨e, he, ⟨hb, hst⟩, cs, ⟨cs0, hc0, hcs⟩, s, hs, h⟩ := h
    have hbu := byteD_some hT hb
    have hsu := strD_some hT hst
    have hel := und_elem he
    have hcse := bytesOfA_some hs
    subst hcse
    have hlen : s.length = len := by
      have := takeA_len hcs
      simpa using this
    refine OpOK.pure hi h3 ?_ (okV_none (by rw [← h]; simp [idsA]))
    rw [← h]
    have hr := run_convert_bytes_back (P := P) w src dst e ⟨(m id).blk, (m id).base + off, none⟩ (capC (m id) c) s (und_some hT hel) (und_some hT hbu) (und_some hT hsu) (fun j hj => by
      rw [add_none, Nat.add_assoc]
      have hg := takeA_get hcs (i := j) (by omega)
      rw [List.getElem?_map, List.getElem?_eq_getElem hj] at hg
      have := (hi.cell hd hc0 hg).1
      simpa [conc, byteA] using this)
    rw [hlen] at hr
    simp only [execOp, ho, h1, conc, Sem.run_bind, hr, Result.andThen_ok, Sem.run_pure]
end
end Go.Ev
