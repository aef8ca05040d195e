/- circaref16.All of XXXX. -/
import Derived.Test.YticbodgiogmldaaGreatDoorEe0
set_option linter.all false
set_option maxRecDepth 100000
set_option maxHeartbeats 4000000
namespace Go.Ev
open Go Go.Proofs
/-- A list's block is told by its first name again: the last one of several new blocks, above some that stay. -/
theorem low_plain {cs : List AV} {rw : Bool} {g : Option Nat} {b : Nat} (h : idsL cs = []) : LowO b (.cells cs rw g) := ⟨rfl, fun i hi => by
  exfalso
  have hi : i ∈ idsL cs := hi
  rw [h] at hi
  cases hi⟩
theorem vw_lastN {tn : Nat} {rel : List Nat} {vs vs' : List AV} {x : AObj} {mid B : List AObj} {k kb n : Nat} (hk : mid.length = k) (hB : B.length = kb) (hn : n = kb + k + 1) (hlow : ∀ b ∈ B, LowO (14 + kb) b) (hx : LowO (14 + kb) x) (hvs : mvL (mvA (14 + kb) [(14 + (kb + k), 14 + (kb + 0))] 20) vs = some vs') :
    VW cfg (Cw cfg []) kb tn rel vs ⟨n, x :: (mid ++ B), []⟩ vs' ⟨kb + 1, x :: B, []⟩ := by
  subst hn
  have at0 : ∀ (os : List AObj) (n i : Nat), (⟨n, os, []⟩ : Own).at i = os.getD (n - 1 - i) .dead := fun os n i => rfl
  refine VW.move good0.lv (C := Cw cfg []) (kb := kb) (sel := [kb + k]) lowC0 (by show kb ≤ kb + k + 1; omega) (fun s hs => ?_) (by simp) (fun p hp => by cases hp) rfl rfl (by simp [hB]) (fun i hi => ?_) (fun t ht => ?_) hvs
  · simp only [List.mem_singleton] at hs; subst hs; exact ⟨by omega, by show kb + k < kb + k + 1; omega⟩
  · have e1 : (⟨kb + 1, x :: B, []⟩ : Own).at i = B.getD (kb - 1 - i) .dead := by
      rw [at0]
      rw [show kb + 1 - 1 - i = (kb - 1 - i) + 1 by omega, List.getD_cons_succ]
    have e2 : (⟨kb + k + 1, x :: (mid ++ B), []⟩ : Own).at i = B.getD (kb - 1 - i) .dead := by
      rw [at0]
      rw [show kb + k + 1 - 1 - i = (k + (kb - 1 - i)) + 1 by omega, List.getD_cons_succ, List.getD_eq_getElem?_getD, List.getElem?_append_right (by omega), List.getD_eq_getElem?_getD]
      rw [hk, show k + (kb - 1 - i) - k = kb - 1 - i by omega]
    rw [e1, e2]
    refine ⟨rfl, ?_⟩
    have hlt : kb - 1 - i < B.length := by omega
    rw [List.getD_eq_getElem?_getD, List.getElem?_eq_getElem hlt]
    exact hlow _ (List.getElem_mem hlt)
  · have : t = 0 := by simp at ht; omega
    subst this
    refine .inl ⟨?_, ?_⟩
    · show (⟨kb + 1, x :: B, []⟩ : Own).at (kb + 0) = (⟨kb + k + 1, x :: (mid ++ B), []⟩ : Own).at (kb + k)
      rw [at0, at0, show kb + 1 - 1 - (kb + 0) = 0 by omega, show kb + k + 1 - 1 - (kb + k) = 0 by omega]
      rfl
    · show LowO (14 + kb) ((⟨kb + k + 1, x :: (mid ++ B), []⟩ : Own).at (kb + k))
      rw [at0, show kb + k + 1 - 1 - (kb + k) = 0 by omega]
      exact hx
theorem EndW.last {v v' : AV} {x : AObj} {rest : List AObj} {k n : Nat} (hk : rest.length = k) (hn : n = k + 1) (hx : LowO 14 x) (hv : mvA 14 [(14 + k, 14)] 20 v' = some v) : EndW [] v [x] (v', ⟨n, x :: rest, []⟩) := by
  subst hn
  have hv' : mvA ((Cw cfg []).lo + 0) (pairs (Cw cfg []).lo 0 [k]) 20 v' = some v := hv
  refine (wk_move good0.lv (C := Cw cfg []) (st := ⟨.node v' .nil .nil, 1, ⟨k + 1, x :: rest, []⟩, [], none⟩) (kb := 0) (sel := [k]) (ts' := .node v .nil .nil) (o' := ⟨1, [x], []⟩) lowC0 (Nat.zero_le _) (fun s hs => ?_) (by simp) (fun p hp => by cases hp) rfl rfl rfl (fun i hi => absurd hi (Nat.not_lt_zero i)) (fun t ht => ?_) ?_ (fun d hd => by cases hd) (fun i hi => by cases hi)).mono fun s hs => ?_
  · simp only [List.mem_singleton] at hs; subst hs; exact ⟨Nat.zero_le _, Nat.lt_succ_self _⟩
  · have : t = 0 := by simp at ht; omega
    subst this
    refine .inl ⟨?_, ?_⟩
    · show (⟨1, [x], []⟩ : Own).at 0 = (⟨k + 1, x :: rest, []⟩ : Own).at k
      unfold Own.at
      simp
    · show LowO 14 ((⟨k + 1, x :: rest, []⟩ : Own).at k)
      unfold Own.at
      simpa using hx
  · simp only [mvT, hv', ob]
  · rw [hs]; exact ⟨rfl, rfl⟩
abbrev xD : List AV := [.bool false, .bool false, .str [88, 88, 88, 88], .int .i64 0, .int .i64 0, .str [], .str [], .int .u8 0, .int .u8 0, .int .u8 0]
abbrev xB : AObj := .cells xD true none
/-- The first days of the years from 0 on, as civils. -/
def civL : Nat → List AV
  | 0 => []
  | n + 1 => civL n ++ [.int .i64 (n : Int), .int .i64 0, .int .i64 0]
def outC : Nat → AV
  | 0 => .nilslice
  | n + 1 => .slice 15 0 (n + 1) (.rest 0)
def ownC : Nat → Own
  | 0 => ⟨1, [xB], []⟩
  | n + 1 => ⟨2, [.cells (civL (n + 1)) true (some 3), xB], []⟩
def isXD (s : List UInt8) (e g : Int) (mo da : List UInt8) (a b c : Int) : List Bool := [bytesEq s [88, 88, 88, 88], intEq e 0, intEq g 0, bytesEq mo [], bytesEq da [], intEq a 0, intEq b 0, intEq c 0]
def v33 : LoopV := fun vs o => match vs, o with
  | [.ptr 14 0, .nilslice, .int .i64 b, .int .i64 i], ⟨1, [.cells [.bool false, .bool false, .str s, .int .i64 e, .int .i64 g, .str mo, .str da, .int .u8 x, .int .u8 y, .int .u8 z] true none], []⟩ =>
    some (asrts (intEq b 9999 :: intEq i 0 :: isXD s e g mo da x y z) (.ret (.exit 0, [.ptr 14 0, .slice 15 0 10000 (.rest 0), .int .i64 9999, .int .i64 10000], ⟨2, [.cells (civL 10000) true (some 3), xB], []⟩)))
  | _, _ => none
def L33 : Loops := addL noL 0 (loopE 30 [1,3,5,6] v33)
def w33 : WSum := fun args ws => match args, ws with
  | [.agg [.bool false, .bool false, .str s, .int .i64 e, .int .i64 g, .str mo, .str da, .int .u8 x, .int .u8 y, .int .u8 z]], [] =>
    some (asrts (isXD s e g mo da x y z) (.ret (.slice 14 0 10000 (.rest 0), [.cells (civL 10000) true (some 3)])))
  | _, _ => none
def M1 : Sums := addG nilS 33 (winS 14 [] w33)
theorem r33n (y : Int) (J : Nat → Value) (hy : 0 ≤ y ∧ y ≤ 10000) {Q : VQ → Prop} : askA Q (rT nilS noL [] 33 0 30 [1,3,5,6] [.ptr 14 0, .nilslice, .int .i64 9999, .int .i64 y] J ⟨1, [xB], []⟩) (.b (.e (.e (.e (.e (.e (.t (.t (.f (.f (.e (.e (.t (.e (.e (.e (.e (.e (.t (.e (.e (.e (.e (.e (.e (.e (.e (.e (.e (.e (.e (.e (.e (.e (.e (.e (.e (.e (.e (.e (.e (.e (.e (.e (.e (.e (.e (.e (.e (.e (.e (.e (.e (.e (.e (.e (.e (.e (.e (.e (.e (.e (.e (.e (.e (.e (.e (.e (.e (.e (.e (.e (.e (.e (.e (.e (.e (.t (.t (.e (.e (.e (.t (.e (.t (.e (.e (.t (.e (.f (.e (.e (.e (.e (.e (.e (.e (.e (.e (.e (.e (.e (.e (.e (.e (.e (.e (.e (.e (.e (.e (.e (.e (.e (.e (.e (.e (.e (.e (.e (.e (.e (.e (.e (.e (.e (.e (.e (.e (.e (.e (.e (.e (.e (.e (.e (.e (.e (.e (.e (.e (.e (.e (.e (.e (.e (.e (.e (.e (.e (.e (.e (.e (.e (.e (.e (.e (.e (.e (.e (.e (.e (.e (.e (.e (.e (.e (.e (.e (.e (.e (.t (.e (.e (.e (.e (.e (.e (.e (.e (.e (.e (.e (.e (.e (.e (.e (.e (.e (.t (.e (.e (.e (.e (.e (.e (.e (.e (.e (.e (.e (.e (.e (.e (.e (.e (.e (.t (.e (.e (.e (.e (.e (.e (.e (.e (.e (.e (.e (.e (.e (.e (.e (.e (.e (.t (.e (.e (.f (.e (.e (.e (.e (.e (.e (.e (.e (.e (.e (.e (.e (.e (.e (.e (.e (.e (.e (.e (.e (.e (.e (.e (.e (.e (.e (.e (.e (.e (.e (.e (.e (.e (.e (.e (.e (.e (.e (.e (.e (.e (.t .z)))))))))))))))))))))))))))))))))))))))))))))))))))))))))))))))))))))))))))))))))))))))))))))))))))))))))))))))))))))))))))))))))))))))))))))))))))))))))))))))))))))))))))))))))))))))))))))))))))))))))))))))))))))))))))))))))))))))))))))))))))))))))))))))))))))))))))))) .z) = ((intLe y 9999 = true → (Bool.not (Bool.not (intLe (Neg.neg 10000000000000000) y)) = true ∧ (Bool.not (Bool.not (intLe (Neg.neg 10000000000000000) y)) = true ∧ (Bool.not (intLe (Neg.neg 10000000000000000) y) = false ∧ (Bool.not (intLe y 10000000000000000) = false ∧ (Bool.not (Bool.not (intLe 0 y)) = true ∧ (Bool.not (Bool.not (intLe 0 y)) = true ∧ (Bool.not (Bool.not (intLe 0 y)) = true ∧ (Bool.not (Bool.not (intLe 0 y)) = true ∧ (Bool.not (Bool.not (intLe 0 y)) = true ∧ (Bool.not (Bool.not (intLe 0 y)) = true ∧ (Bool.not (Bool.not (intLe 0 y)) = true ∧ (Bool.not (intLe 0 y) = false ∧ (inR .i64 (Int.tdiv y 10) = true ∧ (inR .i64 (Int.tdiv (Int.tdiv y 10) 10) = true ∧ (inR .i64 (Int.tdiv (Int.tdiv (Int.tdiv y 10) 10) 10) = true ∧ (inR .i64 (Int.tdiv (Int.tdiv (Int.tdiv (Int.tdiv y 10) 10) 10) 10) = true ∧ (Bool.not (intLe (Int.tdiv (Int.tdiv (Int.tdiv (Int.tdiv y 10) 10) 10) 10) 0) = false ∧ (inR .i64 (Int.add y 1) = true ∧ Q (Prod.mk AX.normal (Prod.mk (List.cons (AV.ptr 14 0) (List.cons (AV.slice 20 0 1 (Cap.rest 0)) (List.cons (AV.int .i64 9999) (List.cons (AV.int .i64 (Int.add y 1)) List.nil)))) { n := 7, os := List.cons (AObj.cells (List.cons (AV.int .i64 y) (List.cons (AV.int .i64 0) (List.cons (AV.int .i64 0) List.nil))) Bool.true (Option.some 3)) (List.cons (AObj.cells (List.cons (AV.int .i64 y) (List.cons (AV.int .i64 0) (List.cons (AV.int .i64 0) List.nil))) Bool.true (Option.some 3)) (List.cons (AObj.cells (List.cons (AV.int .i64 y) (List.cons (AV.int .i64 0) (List.cons (AV.int .i64 0) List.nil))) Bool.true Option.none) (List.cons (AObj.cells (List.cons (AV.int .i64 0) List.nil) Bool.true Option.none) (List.cons (AObj.cells (List.cons (AV.bool Bool.false) (List.cons (AV.bool Bool.false) (List.cons (AV.str (List.cons (UInt8.ofNat 88) (List.cons (UInt8.ofNat 88) (List.cons (UInt8.ofNat 88) (List.cons (UInt8.ofNat 88) List.nil))))) (List.cons (AV.int .i64 0) (List.cons (AV.int .i64 0) (List.cons (AV.str List.nil) (List.cons (AV.str List.nil) (List.cons (AV.int .u8 0) (List.cons (AV.int .u8 0) (List.cons (AV.int .u8 0) List.nil)))))))))) Bool.true Option.none) (List.cons (AObj.cells (List.cons (AV.bool Bool.false) (List.cons (AV.bool Bool.false) (List.cons (AV.str (List.cons (UInt8.ofNat 88) (List.cons (UInt8.ofNat 88) (List.cons (UInt8.ofNat 88) (List.cons (UInt8.ofNat 88) List.nil))))) (List.cons (AV.int .i64 0) (List.cons (AV.int .i64 0) (List.cons (AV.str List.nil) (List.cons (AV.str List.nil) (List.cons (AV.int .u8 0) (List.cons (AV.int .u8 0) (List.cons (AV.int .u8 0) List.nil)))))))))) Bool.true Option.none) (List.cons (AObj.cells (List.cons (AV.bool Bool.false) (List.cons (AV.bool Bool.false) (List.cons (AV.str (List.cons (UInt8.ofNat 88) (List.cons (UInt8.ofNat 88) (List.cons (UInt8.ofNat 88) (List.cons (UInt8.ofNat 88) List.nil))))) (List.cons (AV.int .i64 0) (List.cons (AV.int .i64 0) (List.cons (AV.str List.nil) (List.cons (AV.str List.nil) (List.cons (AV.int .u8 0) (List.cons (AV.int .u8 0) (List.cons (AV.int .u8 0) List.nil)))))))))) Bool.true Option.none) List.nil)))))), le := List.nil }))))))))))))))))))))) ∧ (intLe y 9999 = false → Q (Prod.mk (AX.exit 0) (Prod.mk (List.cons (AV.ptr 14 0) (List.cons AV.nilslice (List.cons (AV.int .i64 9999) (List.cons (AV.int .i64 y) List.nil)))) { n := 1, os := List.cons (AObj.cells (List.cons (AV.bool Bool.false) (List.cons (AV.bool Bool.false) (List.cons (AV.str (List.cons (UInt8.ofNat 88) (List.cons (UInt8.ofNat 88) (List.cons (UInt8.ofNat 88) (List.cons (UInt8.ofNat 88) List.nil))))) (List.cons (AV.int .i64 0) (List.cons (AV.int .i64 0) (List.cons (AV.str List.nil) (List.cons (AV.str List.nil) (List.cons (AV.int .u8 0) (List.cons (AV.int .u8 0) (List.cons (AV.int .u8 0) List.nil)))))))))) Bool.true Option.none) List.nil, le := List.nil })))) := by kernel_rfl
theorem r33s (y : Int) (J : Nat → Value) (cs : List AV) (n : Nat) (hn : cs.length = n * 3) (hn2 : n ≤ 10000) (hy : 0 ≤ y ∧ y ≤ 10000) {Q : VQ → Prop} : askA Q (rT nilS noL [] 33 0 30 [1,3,5,6] [.ptr 14 0, .slice 15 0 n (.rest 0), .int .i64 9999, .int .i64 y] J ⟨2, [.cells cs true (some 3), xB], []⟩) (.b (.e (.e (.e (.e (.e (.t (.t (.f (.f (.e (.e (.t (.e (.e (.e (.e (.e (.t (.e (.e (.e (.e (.e (.e (.e (.e (.e (.e (.e (.e (.e (.e (.e (.e (.e (.e (.e (.e (.e (.e (.e (.e (.e (.e (.e (.e (.e (.e (.e (.e (.e (.e (.e (.e (.e (.e (.e (.e (.e (.e (.e (.e (.e (.e (.e (.e (.e (.e (.e (.e (.e (.e (.e (.e (.e (.e (.t (.t (.e (.e (.e (.t (.e (.t (.e (.e (.t (.e (.f (.e (.e (.e (.e (.e (.e (.e (.e (.e (.e (.e (.e (.e (.e (.e (.e (.e (.e (.e (.e (.e (.e (.e (.e (.e (.e (.e (.e (.e (.e (.e (.e (.e (.e (.e (.e (.e (.e (.e (.e (.e (.e (.e (.e (.e (.e (.e (.e (.e (.e (.e (.e (.e (.e (.e (.e (.e (.e (.e (.e (.e (.e (.e (.e (.e (.e (.e (.e (.e (.e (.e (.e (.e (.e (.e (.e (.e (.e (.e (.e (.e (.t (.e (.e (.e (.e (.e (.e (.e (.e (.e (.e (.e (.e (.e (.e (.e (.e (.e (.t (.e (.e (.e (.e (.e (.e (.e (.e (.e (.e (.e (.e (.e (.e (.e (.e (.e (.t (.e (.e (.e (.e (.e (.e (.e (.e (.e (.e (.e (.e (.e (.e (.e (.e (.e (.t (.e (.e (.f (.e (.e (.e (.e (.e (.e (.e (.e (.e (.e (.e (.e (.e (.e (.e (.e (.e (.e (.e (.e (.e (.e (.e (.e (.e (.e (.e (.e (.e (.e (.e (.e (.e (.e (.e (.e (.e (.t (.e (.e (.e (.e (.b (.t .z) .z))))))))))))))))))))))))))))))))))))))))))))))))))))))))))))))))))))))))))))))))))))))))))))))))))))))))))))))))))))))))))))))))))))))))))))))))))))))))))))))))))))))))))))))))))))))))))))))))))))))))))))))))))))))))))))))))))))))))))))))))))))))))))))))))))))))))))))))) .z) = ((intLe y 9999 = true → (Bool.not (Bool.not (intLe (Neg.neg 10000000000000000) y)) = true ∧ (Bool.not (Bool.not (intLe (Neg.neg 10000000000000000) y)) = true ∧ (Bool.not (intLe (Neg.neg 10000000000000000) y) = false ∧ (Bool.not (intLe y 10000000000000000) = false ∧ (Bool.not (Bool.not (intLe 0 y)) = true ∧ (Bool.not (Bool.not (intLe 0 y)) = true ∧ (Bool.not (Bool.not (intLe 0 y)) = true ∧ (Bool.not (Bool.not (intLe 0 y)) = true ∧ (Bool.not (Bool.not (intLe 0 y)) = true ∧ (Bool.not (Bool.not (intLe 0 y)) = true ∧ (Bool.not (Bool.not (intLe 0 y)) = true ∧ (Bool.not (intLe 0 y) = false ∧ (inR .i64 (Int.tdiv y 10) = true ∧ (inR .i64 (Int.tdiv (Int.tdiv y 10) 10) = true ∧ (inR .i64 (Int.tdiv (Int.tdiv (Int.tdiv y 10) 10) 10) = true ∧ (inR .i64 (Int.tdiv (Int.tdiv (Int.tdiv (Int.tdiv y 10) 10) 10) 10) = true ∧ (Bool.not (intLe (Int.tdiv (Int.tdiv (Int.tdiv (Int.tdiv y 10) 10) 10) 10) 0) = false ∧ (Bool.and (Bool.and (Nat.ble (HAdd.hAdd n 1) 1000000) Bool.true) Bool.true = true ∧ ((Bool.and Bool.true (Nat.beq (List.length cs) (HMul.hMul n 3)) = true → (inR .i64 (Int.add y 1) = true ∧ Q (Prod.mk AX.normal (Prod.mk (List.cons (AV.ptr 14 0) (List.cons (AV.slice 21 0 (HAdd.hAdd n 1) (Cap.rest 0)) (List.cons (AV.int .i64 9999) (List.cons (AV.int .i64 (Int.add y 1)) List.nil)))) { n := 8, os := List.cons (AObj.cells (HAppend.hAppend cs (List.cons (AV.int .i64 y) (List.cons (AV.int .i64 0) (List.cons (AV.int .i64 0) List.nil)))) Bool.true (Option.some 3)) (List.cons (AObj.cells (List.cons (AV.int .i64 y) (List.cons (AV.int .i64 0) (List.cons (AV.int .i64 0) List.nil))) Bool.true (Option.some 3)) (List.cons (AObj.cells (List.cons (AV.int .i64 y) (List.cons (AV.int .i64 0) (List.cons (AV.int .i64 0) List.nil))) Bool.true Option.none) (List.cons (AObj.cells (List.cons (AV.int .i64 0) List.nil) Bool.true Option.none) (List.cons (AObj.cells (List.cons (AV.bool Bool.false) (List.cons (AV.bool Bool.false) (List.cons (AV.str (List.cons (UInt8.ofNat 88) (List.cons (UInt8.ofNat 88) (List.cons (UInt8.ofNat 88) (List.cons (UInt8.ofNat 88) List.nil))))) (List.cons (AV.int .i64 0) (List.cons (AV.int .i64 0) (List.cons (AV.str List.nil) (List.cons (AV.str List.nil) (List.cons (AV.int .u8 0) (List.cons (AV.int .u8 0) (List.cons (AV.int .u8 0) List.nil)))))))))) Bool.true Option.none) (List.cons (AObj.cells (List.cons (AV.bool Bool.false) (List.cons (AV.bool Bool.false) (List.cons (AV.str (List.cons (UInt8.ofNat 88) (List.cons (UInt8.ofNat 88) (List.cons (UInt8.ofNat 88) (List.cons (UInt8.ofNat 88) List.nil))))) (List.cons (AV.int .i64 0) (List.cons (AV.int .i64 0) (List.cons (AV.str List.nil) (List.cons (AV.str List.nil) (List.cons (AV.int .u8 0) (List.cons (AV.int .u8 0) (List.cons (AV.int .u8 0) List.nil)))))))))) Bool.true Option.none) (List.cons AObj.dead (List.cons (AObj.cells (List.cons (AV.bool Bool.false) (List.cons (AV.bool Bool.false) (List.cons (AV.str (List.cons (UInt8.ofNat 88) (List.cons (UInt8.ofNat 88) (List.cons (UInt8.ofNat 88) (List.cons (UInt8.ofNat 88) List.nil))))) (List.cons (AV.int .i64 0) (List.cons (AV.int .i64 0) (List.cons (AV.str List.nil) (List.cons (AV.str List.nil) (List.cons (AV.int .u8 0) (List.cons (AV.int .u8 0) (List.cons (AV.int .u8 0) List.nil)))))))))) Bool.true Option.none) List.nil))))))), le := List.nil })))) ∧ (Bool.and Bool.true (Nat.beq (List.length cs) (HMul.hMul n 3)) = false → False))))))))))))))))))))) ∧ (intLe y 9999 = false → Q (Prod.mk (AX.exit 0) (Prod.mk (List.cons (AV.ptr 14 0) (List.cons (AV.slice 15 0 n (Cap.rest 0)) (List.cons (AV.int .i64 9999) (List.cons (AV.int .i64 y) List.nil)))) { n := 2, os := List.cons (AObj.cells cs Bool.true (Option.some 3)) (List.cons (AObj.cells (List.cons (AV.bool Bool.false) (List.cons (AV.bool Bool.false) (List.cons (AV.str (List.cons (UInt8.ofNat 88) (List.cons (UInt8.ofNat 88) (List.cons (UInt8.ofNat 88) (List.cons (UInt8.ofNat 88) List.nil))))) (List.cons (AV.int .i64 0) (List.cons (AV.int .i64 0) (List.cons (AV.str List.nil) (List.cons (AV.str List.nil) (List.cons (AV.int .u8 0) (List.cons (AV.int .u8 0) (List.cons (AV.int .u8 0) List.nil)))))))))) Bool.true Option.none) List.nil), le := List.nil })))) := by kernel_rfl
theorem b33  {Q : EQ → Prop} : askA Q (bT nilS L33 [] 33 [.agg xD]) (.e (.e (.e (.e (.e (.e (.e (.e (.e (.e (.e (.e (.e (.e (.e (.e (.e (.e (.e (.e (.e (.e (.e (.e (.e (.e (.e (.e (.e (.e (.e (.e (.e (.e (.e (.e (.e (.e (.e (.e (.e (.e (.e (.e (.e (.e (.e (.e (.e (.e (.e (.e (.e (.e (.e (.e (.e (.e (.e (.e (.e (.e (.e (.e (.e (.e (.e (.e (.e (.e (.e (.e (.e (.e (.e (.e (.e (.e (.e (.e (.e (.e (.e (.e (.e (.e (.e (.e (.e (.e (.e (.e (.e (.e (.e (.e (.e (.e (.e (.e (.e (.e (.e (.e (.e (.e (.e (.e (.e (.e (.e (.e (.e (.e (.e (.e (.e (.e (.e (.e (.e (.e (.e (.e (.e (.e (.e (.e (.e (.e (.e (.e (.e (.e (.e (.e (.e (.e (.e (.e (.e (.e (.e (.e (.e (.e (.e (.e (.e (.e (.e (.e (.e (.e (.e (.e (.e (.e (.e (.e (.e (.e (.e (.e (.e (.e (.e (.e (.e (.e (.e (.e (.e (.e (.e (.e (.e (.e (.e (.e (.e (.e (.e (.e (.e (.e (.e (.e (.e (.e (.e (.e (.e (.e (.e (.e (.e (.e (.e (.e (.e (.e (.e (.e (.e (.e (.e (.e (.e (.e (.e (.e (.e (.e (.e (.e (.e (.e (.e (.e (.e (.e (.e (.e (.e (.e (.e (.e (.e (.e (.e (.e (.e (.e (.e (.e (.e (.e (.e (.e (.e (.e (.e (.e (.e (.e (.e (.e (.e (.e (.e .z))))))))))))))))))))))))))))))))))))))))))))))))))))))))))))))))))))))))))))))))))))))))))))))))))))))))))))))))))))))))))))))))))))))))))))))))))))))))))))))))))))))))))))))))))))))))))))))))))))))))))))))))))))))))))))))))))))))))))))))))))))))))))) = (∀ J1 : Nat → Value, Q (Prod.mk (AV.slice 15 0 10000 (Cap.rest 0)) { n := 2, os := List.cons (AObj.cells (civL 10000) Bool.true (Option.some 3)) (List.cons (AObj.cells (List.cons (AV.bool Bool.false) (List.cons (AV.bool Bool.false) (List.cons (AV.str (List.cons (UInt8.ofNat 88) (List.cons (UInt8.ofNat 88) (List.cons (UInt8.ofNat 88) (List.cons (UInt8.ofNat 88) List.nil))))) (List.cons (AV.int .i64 0) (List.cons (AV.int .i64 0) (List.cons (AV.str List.nil) (List.cons (AV.str List.nil) (List.cons (AV.int .u8 0) (List.cons (AV.int .u8 0) (List.cons (AV.int .u8 0) List.nil)))))))))) Bool.true Option.none) List.nil), le := List.nil })) := by kernel_rfl
theorem body33 : bodyOf tab 33 = some (fnOf 33, codeOf 33) := by kernel_rfl
theorem loops33 : (loopsOf (codeOf 33)).map (·.1) = [0] := by kernel_rfl
theorem idsL_app : ∀ {a b : List AV}, idsL (a ++ b) = idsL a ++ idsL b
  | [], b => rfl
  | x :: a, b => by simp only [List.cons_append, idsL, idsL_app (a := a) (b := b), List.append_assoc]
theorem civL_ids : ∀ n, idsL (civL n) = []
  | 0 => rfl
  | n + 1 => by rw [civL, idsL_app, civL_ids n]; rfl
theorem civL_len : ∀ n, (civL n).length = n * 3
  | 0 => rfl
  | n + 1 => by rw [civL, List.length_append, civL_len n]; simp; omega
theorem ownC_n : ∀ i, 1 ≤ (ownC i).n
  | 0 => Nat.le_refl _
  | n + 1 => by show 1 ≤ 2; decide
theorem lv33 : LoopVOK Tryz.prog (cfgS cfg nilS) (Cw cfg []) (lb 33 0) 30 [1,3,5,6] v33 := by
  intro vs o t Q hv hq J
  unfold v33 at hv
  split at hv
  · rename_i b i s e g mo da x y z
    cases hv
    obtain ⟨h1, hq⟩ := asrts_wp hq
    obtain ⟨h2, hq⟩ := asrts_wp hq
    obtain ⟨k1, hq⟩ := asrts_wp hq
    obtain ⟨k2, hq⟩ := asrts_wp hq
    obtain ⟨k3, hq⟩ := asrts_wp hq
    obtain ⟨k4, hq⟩ := asrts_wp hq
    obtain ⟨k5, hq⟩ := asrts_wp hq
    obtain ⟨k6, hq⟩ := asrts_wp hq
    obtain ⟨k7, hq⟩ := asrts_wp hq
    obtain ⟨k8, hq⟩ := asrts_wp hq
    rw [q_eq_t] at h1 h2 k2 k3 k6 k7 k8
    rw [bytesEq_beq, beq_iff_eq] at k1 k4 k5
    subst h1 h2 k1 k2 k3 k4 k5 k6 k7 k8
    have hq : Q (.exit 0, [.ptr 14 0, .slice 15 0 10000 (.rest 0), .int .i64 9999, .int .i64 10000], ⟨2, [.cells (civL 10000) true (some 3), xB], []⟩) := hq
    refine lvOK sums_nil rfl rfl lok_none (ι := {i : Nat // i ≤ 10000}) (fun x => [.ptr 14 0, outC x.1, .int .i64 9999, .int .i64 (x.1 : Int)]) (fun x => ownC x.1) (fun x => 10000 - x.1) 1 (fun x => ownC_n x.1) (fun x J => ?_) (Nat.le_refl _) (fun J => Wk.refl ⟨⟨0, Nat.zero_le _⟩, J, rfl⟩) J
    obtain ⟨i, hi⟩ := x
    dsimp only
    have bl : LowO (14 + 1) xB := low_plain rfl
    have blB : ∀ z ∈ [xB], LowO (14 + 1) z := fun z hz => by simp only [List.mem_singleton] at hz; subst hz; exact bl
    have xl : ∀ n, LowO (14 + 1) (.cells (civL n) true (some 3)) := fun n => low_plain (civL_ids n)
    cases i with
    | zero =>
      refine wp_gen fun Q' hQ => askA_wp ((r33n 0 J (by omega)).mpr ?_)
      have go : Q' (.normal, [.ptr 14 0, .slice 20 0 1 (.rest 0), .int .i64 9999, .int .i64 1], ⟨7, [.cells [.int .i64 0, .int .i64 0, .int .i64 0] true (some 3), .cells [.int .i64 0, .int .i64 0, .int .i64 0] true (some 3), .cells [.int .i64 0, .int .i64 0, .int .i64 0] true none, .cells [.int .i64 0] true none, xB, xB, xB], []⟩) :=
        hQ (.normal, _, _) ⟨⟨1, by omega⟩, by dsimp only; omega, vw_lastN (x := .cells (civL 1) true (some 3)) (mid := [.cells [.int .i64 0, .int .i64 0, .int .i64 0] true (some 3), .cells [.int .i64 0, .int .i64 0, .int .i64 0] true none, .cells [.int .i64 0] true none, xB, xB]) (B := [xB]) rfl rfl rfl blB (xl 1) rfl⟩
      clear hQ
      simp only [q_all, reduceCtorEq, loK, hiK, ne_eq]
      (repeat' first | exact trivial | refine ⟨?_, ?_⟩ | intro) <;> first | omega | decide | exact go
    | succ k =>
      refine wp_gen fun Q' hQ => askA_wp ((r33s ((k + 1 : Nat) : Int) J (civL (k + 1)) (k + 1) (civL_len _) (by omega) (by omega)).mpr ?_)
      have hl := civL_len (k + 1)
      have go : k + 1 < 10000 → Q' (.normal, [.ptr 14 0, .slice 21 0 (k + 1 + 1) (.rest 0), .int .i64 9999, .int .i64 (((k + 1 : Nat) : Int) + 1)], ⟨8, [.cells (civL (k + 1) ++ [.int .i64 ((k + 1 : Nat) : Int), .int .i64 0, .int .i64 0]) true (some 3), .cells [.int .i64 ((k + 1 : Nat) : Int), .int .i64 0, .int .i64 0] true (some 3), .cells [.int .i64 ((k + 1 : Nat) : Int), .int .i64 0, .int .i64 0] true none, .cells [.int .i64 0] true none, xB, xB, .dead, xB], []⟩) := fun hk =>
        hQ (.normal, _, _) ⟨⟨k + 2, by omega⟩, by dsimp only; omega, vw_lastN (x := .cells (civL (k + 2)) true (some 3)) (mid := [.cells [.int .i64 ((k + 1 : Nat) : Int), .int .i64 0, .int .i64 0] true (some 3), .cells [.int .i64 ((k + 1 : Nat) : Int), .int .i64 0, .int .i64 0] true none, .cells [.int .i64 0] true none, xB, xB, .dead]) (B := [xB]) rfl rfl rfl blB (xl _) rfl⟩
      have fin : ¬ k + 1 < 10000 → Q' (.exit 0, [.ptr 14 0, .slice 15 0 (k + 1) (.rest 0), .int .i64 9999, .int .i64 ((k + 1 : Nat) : Int)], ⟨2, [.cells (civL (k + 1)) true (some 3), xB], []⟩) := fun hk => by
        have e : k + 1 = 10000 := by omega
        exact hQ (.exit 0, _, _) ⟨_, _, VW.of_eq (by rw [e]; rfl) (by rw [e]), hq⟩
      clear hQ hq
      generalize civL (k + 1) = cv at *
      have hc : ((k + 1 : Nat) : Int) = (k : Int) + 1 := by omega
      simp only [q_all, reduceCtorEq, loK, hiK, ne_eq, Bool.and_true, Bool.true_and]
      have t1 : (((k + 1 : Nat) : Int)).tdiv 10 = ((k + 1 : Nat) : Int) / 10 := Int.tdiv_eq_ediv_of_nonneg (by omega)
      have t2 : ((((k + 1 : Nat) : Int) / 10)).tdiv 10 = ((k + 1 : Nat) : Int) / 10 / 10 := Int.tdiv_eq_ediv_of_nonneg (by omega)
      have t3 : ((((k + 1 : Nat) : Int) / 10 / 10)).tdiv 10 = ((k + 1 : Nat) : Int) / 10 / 10 / 10 := Int.tdiv_eq_ediv_of_nonneg (by omega)
      have t4 : ((((k + 1 : Nat) : Int) / 10 / 10 / 10)).tdiv 10 = ((k + 1 : Nat) : Int) / 10 / 10 / 10 / 10 := Int.tdiv_eq_ediv_of_nonneg (by omega)
      try simp only [t1, t2, t3, t4]
      (repeat' first | exact trivial | refine ⟨?_, ?_⟩ | intro) <;> first | omega | exact go (by omega) | exact fin (by omega)
  · cases hv
theorem M1_ok : SumsOK Tryz.prog cfg M1 := by
  refine sums_addG sums_nil (win_ok good0.lv ro0 fun args ws t r he hr => ?_)
  unfold w33 at he
  split at he
  · rename_i s e g mo da x y z
    cases he
    obtain ⟨k1, hr⟩ := asrts_run hr
    obtain ⟨k2, hr⟩ := asrts_run hr
    obtain ⟨k3, hr⟩ := asrts_run hr
    obtain ⟨k4, hr⟩ := asrts_run hr
    obtain ⟨k5, hr⟩ := asrts_run hr
    obtain ⟨k6, hr⟩ := asrts_run hr
    obtain ⟨k7, hr⟩ := asrts_run hr
    obtain ⟨k8, hr⟩ := asrts_run hr
    rw [q_eq_t] at k2 k3 k6 k7 k8
    rw [bytesEq_beq, beq_iff_eq] at k1 k4 k5
    subst k1 k2 k3 k4 k5 k6 k7 k8
    have hr : Tr.run (.ret (.slice 14 0 10000 (.rest 0), [.cells (civL 10000) true (some 3)])) = some r := hr
    cases hr
    refine ⟨?_, fun x hx => ?_⟩
    · refine fwOK sums_nil (L := L33) body33 (by simp) (lok_at loops33 fun i hi e he st Q hw => ?_) (wp_gen fun Q' hQ => askA_wp (b33.mpr ?_))
      · have hi : i = 0 := by simp at hi; omega
        subst hi
        cases he
        exact loopE_ok (base0.good sums_nil) (by decide) rfl lv33 hw
      · exact fun _ => hQ _ (EndW.last (k := 1) rfl rfl (low_plain (civL_ids _)) rfl)
    · simp only [List.mem_singleton] at hx
      subst hx
      exact low_plain (civL_ids _)
  · cases he
end Go.Ev
