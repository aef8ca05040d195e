/- circaref26.Of of XXXX. -/
import Derived.Test.YticbodgiogmldaaGreatDoorEe2
set_option linter.all false
set_option maxRecDepth 100000
set_option maxHeartbeats 4000000
namespace Go.Ev
open Go Go.Proofs
open Classical in
noncomputable def isRun (cs : List AV) : Bool := if cs = runL 10000 then true else false
theorem isRun_iff {cs : List AV} : isRun cs = true ↔ cs = runL 10000 := by unfold isRun; split <;> simp_all
noncomputable def v6 : LoopV := fun vs o => match vs, o with
  | [.int .i64 day, .slice 15 0 n (.rest 0), .int .i64 k, .int .i64 i], ⟨2, [.cells cs true (some 4), .cells fs true none], []⟩ =>
    some (asrts [Nat.beq n 10000, intEq k 0, intEq i 0, isRun cs, noIds fs] (.ret (.exit 0, [.int .i64 day, .slice 15 0 10000 (.rest 0), .int .i64 (Int.ofNat (cntD day 10000)), .int .i64 10000], ⟨2, [.cells cs true (some 4), .cells fs true none], []⟩)))
  | _, _ => none
noncomputable def L6 : Loops := addL noL 0 (loopE 93 [1,5,6,7] v6)
def memD (d : Int) : Bool := days11.contains d
def s6 : Sum := fun args => match args with
  | [.agg [.int .u8 k, .nilslice, .bool false, .bool false, .str s, .int .i64 e, .int .i64 g, .str mo, .str da, .int .u8 x, .int .u8 y, .int .u8 z, .int .u8 p, .int .i8 a, .int .i64 b, .int .i8 c, .int .i64 d], .int .i64 day] =>
    some (asrts (intEq k 2 :: isXD s e g mo da x y z ++ [intEq p 0, intEq a 0, intEq b 0, intEq c 0, intEq d 0, memD day]) (.ret (.int .i64 (ansD day))))
  | _ => none
def M4 : Sums := addP nilS 6 s6
theorem r6 (J : Nat → Value) (day k : Int) (cs : List AV) (fb : AObj) (i : Nat) (hi : i ≤ 10000) (hk : 0 ≤ k ∧ k ≤ 10000) {Q : VQ → Prop} : askA Q (rT M3 noL [] 6 0 93 [1,5,6,7] [.int .i64 day, .slice 15 0 10000 (.rest 0), .int .i64 k, .int .i64 (Int.ofNat i)] J ⟨2, [.cells cs true (some 4), fb], []⟩) (.b (.e (.t (.b (.b (.b (.b (.e (.b (.t (.t (.t (.e (.t (.t (.b (.t (.t (.e (.t (.t (.b (.t (.t (.t (.e (.t (.t (.t (.f (.b (.t (.t .z)) (.t (.t .z))))))))))) (.f (.f (.f (.f (.t (.f (.f (.e (.t (.t .z)))))))))))))))) (.f (.f (.f (.f (.e (.e (.e (.e (.e (.f (.t (.e (.t (.t .z))))))))))))))))))))) (.f (.f (.f (.f (.f (.e (.e (.e (.e (.e (.e (.b (.t (.t (.t (.e (.t (.e (.t (.e (.b (.t (.t .z)) (.t (.t .z))))))))))) (.f (.f (.f (.f (.e (.f (.e (.e (.t (.t .z)))))))))))))))))))))))) .z) .z) .z) .z))) .z) = ((Bool.not (intLe 10000 (Int.ofNat i)) = true → (natLt i 10000 = true ∧ ((isKA .i8 (List.getD cs (HAdd.hAdd 0 (HMul.hMul i 4)) (AV.tuple List.nil)) = true → ((isKA .i64 (List.getD cs (HAdd.hAdd (HAdd.hAdd 0 (HMul.hMul i 4)) 1) (AV.tuple List.nil)) = true → ((isKA .i8 (List.getD cs (HAdd.hAdd (HAdd.hAdd (HAdd.hAdd 0 (HMul.hMul i 4)) 1) 1) (AV.tuple List.nil)) = true → ((isKA .i64 (List.getD cs (HAdd.hAdd (HAdd.hAdd (HAdd.hAdd (HAdd.hAdd 0 (HMul.hMul i 4)) 1) 1) 1) (AV.tuple List.nil)) = true → ((intEq (intOf (List.getD cs (HAdd.hAdd 0 (HMul.hMul i 4)) (AV.tuple List.nil))) 0 = true → (intEq (intOf (List.getD cs (HAdd.hAdd 0 (HMul.hMul i 4)) (AV.tuple List.nil))) 0 = true ∧ (intEq (intOf (List.getD cs (HAdd.hAdd 0 (HMul.hMul i 4)) (AV.tuple List.nil))) 0 = true ∧ (intEq (intOf (List.getD cs (HAdd.hAdd 0 (HMul.hMul i 4)) (AV.tuple List.nil))) 0 = true ∧ (intEq (intOf (List.getD cs (HAdd.hAdd 0 (HMul.hMul i 4)) (AV.tuple List.nil))) 0 = true ∧ (intEq (intOf (List.getD cs (HAdd.hAdd 0 (HMul.hMul i 4)) (AV.tuple List.nil))) 0 = true ∧ ((Bool.not (Bool.not (intLe (intOf (List.getD cs (HAdd.hAdd (HAdd.hAdd 0 (HMul.hMul i 4)) 1) (AV.tuple List.nil))) day)) = true → (Bool.not (Bool.not (intLe (intOf (List.getD cs (HAdd.hAdd (HAdd.hAdd 0 (HMul.hMul i 4)) 1) (AV.tuple List.nil))) day)) = true ∧ (Bool.not (Bool.not (intLe (intOf (List.getD cs (HAdd.hAdd (HAdd.hAdd 0 (HMul.hMul i 4)) 1) (AV.tuple List.nil))) day)) = true ∧ (Bool.not (Bool.not (intLe (intOf (List.getD cs (HAdd.hAdd (HAdd.hAdd 0 (HMul.hMul i 4)) 1) (AV.tuple List.nil))) day)) = true ∧ (Bool.not (Bool.not (intLe (intOf (List.getD cs (HAdd.hAdd (HAdd.hAdd 0 (HMul.hMul i 4)) 1) (AV.tuple List.nil))) day)) = true ∧ ((intEq (intOf (List.getD cs (HAdd.hAdd (HAdd.hAdd (HAdd.hAdd 0 (HMul.hMul i 4)) 1) 1) (AV.tuple List.nil))) 0 = true → (intEq (intOf (List.getD cs (HAdd.hAdd (HAdd.hAdd (HAdd.hAdd 0 (HMul.hMul i 4)) 1) 1) (AV.tuple List.nil))) 0 = true ∧ (intEq (intOf (List.getD cs (HAdd.hAdd (HAdd.hAdd (HAdd.hAdd 0 (HMul.hMul i 4)) 1) 1) (AV.tuple List.nil))) 0 = true ∧ (intEq (intOf (List.getD cs (HAdd.hAdd (HAdd.hAdd (HAdd.hAdd 0 (HMul.hMul i 4)) 1) 1) (AV.tuple List.nil))) 0 = true ∧ (intEq (intOf (List.getD cs (HAdd.hAdd (HAdd.hAdd (HAdd.hAdd 0 (HMul.hMul i 4)) 1) 1) (AV.tuple List.nil))) 0 = true ∧ (Bool.not (Bool.not (intLe (intOf (List.getD cs (HAdd.hAdd (HAdd.hAdd 0 (HMul.hMul i 4)) 1) (AV.tuple List.nil))) day)) = true ∧ (intEq (intOf (List.getD cs (HAdd.hAdd (HAdd.hAdd (HAdd.hAdd 0 (HMul.hMul i 4)) 1) 1) (AV.tuple List.nil))) 0 = true ∧ (Bool.not (intLe (intOf (List.getD cs (HAdd.hAdd (HAdd.hAdd 0 (HMul.hMul i 4)) 1) (AV.tuple List.nil))) day) = false ∧ ((Bool.not (intLe day (intOf (List.getD cs (HAdd.hAdd (HAdd.hAdd (HAdd.hAdd (HAdd.hAdd 0 (HMul.hMul i 4)) 1) 1) 1) (AV.tuple List.nil)))) = true → (inR .i64 (Int.add k 0) = true ∧ (inR .i64 (Int.add (Int.ofNat i) 1) = true ∧ Q (Prod.mk AX.normal (Prod.mk (List.cons (AV.int .i64 day) (List.cons (AV.slice 15 0 10000 (Cap.rest 0)) (List.cons (AV.int .i64 (Int.add k 0)) (List.cons (AV.int .i64 (Int.add (Int.ofNat i) 1)) List.nil)))) { n := 2, os := List.cons (AObj.cells cs Bool.true (Option.some 4)) (List.cons fb List.nil), le := List.nil }))))) ∧ (Bool.not (intLe day (intOf (List.getD cs (HAdd.hAdd (HAdd.hAdd (HAdd.hAdd (HAdd.hAdd 0 (HMul.hMul i 4)) 1) 1) 1) (AV.tuple List.nil)))) = false → (inR .i64 (Int.add k 1) = true ∧ (inR .i64 (Int.add (Int.ofNat i) 1) = true ∧ Q (Prod.mk AX.normal (Prod.mk (List.cons (AV.int .i64 day) (List.cons (AV.slice 15 0 10000 (Cap.rest 0)) (List.cons (AV.int .i64 (Int.add k 1)) (List.cons (AV.int .i64 (Int.add (Int.ofNat i) 1)) List.nil)))) { n := 2, os := List.cons (AObj.cells cs Bool.true (Option.some 4)) (List.cons fb List.nil), le := List.nil })))))))))))))) ∧ (intEq (intOf (List.getD cs (HAdd.hAdd (HAdd.hAdd (HAdd.hAdd 0 (HMul.hMul i 4)) 1) 1) (AV.tuple List.nil))) 0 = false → (intEq (intOf (List.getD cs (HAdd.hAdd (HAdd.hAdd (HAdd.hAdd 0 (HMul.hMul i 4)) 1) 1) (AV.tuple List.nil))) 0 = false ∧ (intEq (intOf (List.getD cs (HAdd.hAdd (HAdd.hAdd (HAdd.hAdd 0 (HMul.hMul i 4)) 1) 1) (AV.tuple List.nil))) 0 = false ∧ (intEq (intOf (List.getD cs (HAdd.hAdd (HAdd.hAdd (HAdd.hAdd 0 (HMul.hMul i 4)) 1) 1) (AV.tuple List.nil))) 0 = false ∧ (intEq (intOf (List.getD cs (HAdd.hAdd (HAdd.hAdd (HAdd.hAdd 0 (HMul.hMul i 4)) 1) 1) (AV.tuple List.nil))) 0 = false ∧ (Bool.not (Bool.not (intLe (intOf (List.getD cs (HAdd.hAdd (HAdd.hAdd 0 (HMul.hMul i 4)) 1) (AV.tuple List.nil))) day)) = true ∧ (intEq (intOf (List.getD cs (HAdd.hAdd (HAdd.hAdd (HAdd.hAdd 0 (HMul.hMul i 4)) 1) 1) (AV.tuple List.nil))) 0 = false ∧ (Bool.not (intLe (intOf (List.getD cs (HAdd.hAdd (HAdd.hAdd 0 (HMul.hMul i 4)) 1) (AV.tuple List.nil))) day) = false ∧ (inR .i64 (Int.add k 1) = true ∧ (inR .i64 (Int.add (Int.ofNat i) 1) = true ∧ Q (Prod.mk AX.normal (Prod.mk (List.cons (AV.int .i64 day) (List.cons (AV.slice 15 0 10000 (Cap.rest 0)) (List.cons (AV.int .i64 (Int.add k 1)) (List.cons (AV.int .i64 (Int.add (Int.ofNat i) 1)) List.nil)))) { n := 2, os := List.cons (AObj.cells cs Bool.true (Option.some 4)) (List.cons fb List.nil), le := List.nil })))))))))))))))))) ∧ (Bool.not (Bool.not (intLe (intOf (List.getD cs (HAdd.hAdd (HAdd.hAdd 0 (HMul.hMul i 4)) 1) (AV.tuple List.nil))) day)) = false → (Bool.not (Bool.not (intLe (intOf (List.getD cs (HAdd.hAdd (HAdd.hAdd 0 (HMul.hMul i 4)) 1) (AV.tuple List.nil))) day)) = false ∧ (Bool.not (Bool.not (intLe (intOf (List.getD cs (HAdd.hAdd (HAdd.hAdd 0 (HMul.hMul i 4)) 1) (AV.tuple List.nil))) day)) = false ∧ (Bool.not (Bool.not (intLe (intOf (List.getD cs (HAdd.hAdd (HAdd.hAdd 0 (HMul.hMul i 4)) 1) (AV.tuple List.nil))) day)) = false ∧ (Bool.not (Bool.not (intLe (intOf (List.getD cs (HAdd.hAdd (HAdd.hAdd 0 (HMul.hMul i 4)) 1) (AV.tuple List.nil))) day)) = false ∧ (Bool.not (Bool.not (intLe (intOf (List.getD cs (HAdd.hAdd (HAdd.hAdd 0 (HMul.hMul i 4)) 1) (AV.tuple List.nil))) day)) = false ∧ (Bool.not (intLe (intOf (List.getD cs (HAdd.hAdd (HAdd.hAdd 0 (HMul.hMul i 4)) 1) (AV.tuple List.nil))) day) = true ∧ (inR .i64 (Int.add k 0) = true ∧ (inR .i64 (Int.add (Int.ofNat i) 1) = true ∧ Q (Prod.mk AX.normal (Prod.mk (List.cons (AV.int .i64 day) (List.cons (AV.slice 15 0 10000 (Cap.rest 0)) (List.cons (AV.int .i64 (Int.add k 0)) (List.cons (AV.int .i64 (Int.add (Int.ofNat i) 1)) List.nil)))) { n := 2, os := List.cons (AObj.cells cs Bool.true (Option.some 4)) (List.cons fb List.nil), le := List.nil })))))))))))))))))) ∧ (intEq (intOf (List.getD cs (HAdd.hAdd 0 (HMul.hMul i 4)) (AV.tuple List.nil))) 0 = false → (intEq (intOf (List.getD cs (HAdd.hAdd 0 (HMul.hMul i 4)) (AV.tuple List.nil))) 0 = false ∧ (intEq (intOf (List.getD cs (HAdd.hAdd 0 (HMul.hMul i 4)) (AV.tuple List.nil))) 0 = false ∧ (intEq (intOf (List.getD cs (HAdd.hAdd 0 (HMul.hMul i 4)) (AV.tuple List.nil))) 0 = false ∧ (intEq (intOf (List.getD cs (HAdd.hAdd 0 (HMul.hMul i 4)) (AV.tuple List.nil))) 0 = false ∧ (intEq (intOf (List.getD cs (HAdd.hAdd 0 (HMul.hMul i 4)) (AV.tuple List.nil))) 0 = false ∧ ((intEq (intOf (List.getD cs (HAdd.hAdd (HAdd.hAdd (HAdd.hAdd 0 (HMul.hMul i 4)) 1) 1) (AV.tuple List.nil))) 0 = true → (intEq (intOf (List.getD cs (HAdd.hAdd (HAdd.hAdd (HAdd.hAdd 0 (HMul.hMul i 4)) 1) 1) (AV.tuple List.nil))) 0 = true ∧ (intEq (intOf (List.getD cs (HAdd.hAdd (HAdd.hAdd (HAdd.hAdd 0 (HMul.hMul i 4)) 1) 1) (AV.tuple List.nil))) 0 = true ∧ (intEq (intOf (List.getD cs (HAdd.hAdd (HAdd.hAdd (HAdd.hAdd 0 (HMul.hMul i 4)) 1) 1) (AV.tuple List.nil))) 0 = true ∧ (intEq (intOf (List.getD cs (HAdd.hAdd (HAdd.hAdd (HAdd.hAdd 0 (HMul.hMul i 4)) 1) 1) (AV.tuple List.nil))) 0 = true ∧ (intEq (intOf (List.getD cs (HAdd.hAdd (HAdd.hAdd (HAdd.hAdd 0 (HMul.hMul i 4)) 1) 1) (AV.tuple List.nil))) 0 = true ∧ ((Bool.not (intLe day (intOf (List.getD cs (HAdd.hAdd (HAdd.hAdd (HAdd.hAdd (HAdd.hAdd 0 (HMul.hMul i 4)) 1) 1) 1) (AV.tuple List.nil)))) = true → (inR .i64 (Int.add k 0) = true ∧ (inR .i64 (Int.add (Int.ofNat i) 1) = true ∧ Q (Prod.mk AX.normal (Prod.mk (List.cons (AV.int .i64 day) (List.cons (AV.slice 15 0 10000 (Cap.rest 0)) (List.cons (AV.int .i64 (Int.add k 0)) (List.cons (AV.int .i64 (Int.add (Int.ofNat i) 1)) List.nil)))) { n := 2, os := List.cons (AObj.cells cs Bool.true (Option.some 4)) (List.cons fb List.nil), le := List.nil }))))) ∧ (Bool.not (intLe day (intOf (List.getD cs (HAdd.hAdd (HAdd.hAdd (HAdd.hAdd (HAdd.hAdd 0 (HMul.hMul i 4)) 1) 1) 1) (AV.tuple List.nil)))) = false → (inR .i64 (Int.add k 1) = true ∧ (inR .i64 (Int.add (Int.ofNat i) 1) = true ∧ Q (Prod.mk AX.normal (Prod.mk (List.cons (AV.int .i64 day) (List.cons (AV.slice 15 0 10000 (Cap.rest 0)) (List.cons (AV.int .i64 (Int.add k 1)) (List.cons (AV.int .i64 (Int.add (Int.ofNat i) 1)) List.nil)))) { n := 2, os := List.cons (AObj.cells cs Bool.true (Option.some 4)) (List.cons fb List.nil), le := List.nil })))))))))))) ∧ (intEq (intOf (List.getD cs (HAdd.hAdd (HAdd.hAdd (HAdd.hAdd 0 (HMul.hMul i 4)) 1) 1) (AV.tuple List.nil))) 0 = false → (intEq (intOf (List.getD cs (HAdd.hAdd (HAdd.hAdd (HAdd.hAdd 0 (HMul.hMul i 4)) 1) 1) (AV.tuple List.nil))) 0 = false ∧ (intEq (intOf (List.getD cs (HAdd.hAdd (HAdd.hAdd (HAdd.hAdd 0 (HMul.hMul i 4)) 1) 1) (AV.tuple List.nil))) 0 = false ∧ (intEq (intOf (List.getD cs (HAdd.hAdd (HAdd.hAdd (HAdd.hAdd 0 (HMul.hMul i 4)) 1) 1) (AV.tuple List.nil))) 0 = false ∧ (intEq (intOf (List.getD cs (HAdd.hAdd (HAdd.hAdd (HAdd.hAdd 0 (HMul.hMul i 4)) 1) 1) (AV.tuple List.nil))) 0 = false ∧ (intEq (intOf (List.getD cs (HAdd.hAdd (HAdd.hAdd (HAdd.hAdd 0 (HMul.hMul i 4)) 1) 1) (AV.tuple List.nil))) 0 = false ∧ (inR .i64 (Int.add k 1) = true ∧ (inR .i64 (Int.add (Int.ofNat i) 1) = true ∧ Q (Prod.mk AX.normal (Prod.mk (List.cons (AV.int .i64 day) (List.cons (AV.slice 15 0 10000 (Cap.rest 0)) (List.cons (AV.int .i64 (Int.add k 1)) (List.cons (AV.int .i64 (Int.add (Int.ofNat i) 1)) List.nil)))) { n := 2, os := List.cons (AObj.cells cs Bool.true (Option.some 4)) (List.cons fb List.nil), le := List.nil }))))))))))))))))))) ∧ (isKA .i64 (List.getD cs (HAdd.hAdd (HAdd.hAdd (HAdd.hAdd (HAdd.hAdd 0 (HMul.hMul i 4)) 1) 1) 1) (AV.tuple List.nil)) = false → False))) ∧ (isKA .i8 (List.getD cs (HAdd.hAdd (HAdd.hAdd (HAdd.hAdd 0 (HMul.hMul i 4)) 1) 1) (AV.tuple List.nil)) = false → False))) ∧ (isKA .i64 (List.getD cs (HAdd.hAdd (HAdd.hAdd 0 (HMul.hMul i 4)) 1) (AV.tuple List.nil)) = false → False))) ∧ (isKA .i8 (List.getD cs (HAdd.hAdd 0 (HMul.hMul i 4)) (AV.tuple List.nil)) = false → False)))) ∧ (Bool.not (intLe 10000 (Int.ofNat i)) = false → Q (Prod.mk (AX.exit 0) (Prod.mk (List.cons (AV.int .i64 day) (List.cons (AV.slice 15 0 10000 (Cap.rest 0)) (List.cons (AV.int .i64 k) (List.cons (AV.int .i64 (Int.ofNat i)) List.nil)))) { n := 2, os := List.cons (AObj.cells cs Bool.true (Option.some 4)) (List.cons fb List.nil), le := List.nil })))) := by kernel_rfl
theorem b6 (day : Int) {Q : AV → Prop} : askA Q (pT M3 L6 6 [.agg fL, .int .i64 day]) (.e (.e (.e (.e (.e (.e (.e (.e (.e (.e (.e (.e (.e (.e (.e (.e (.e (.e (.e (.e (.e (.e (.e (.e (.e (.e (.e (.e (.e (.e (.e (.e (.e (.e (.e (.e (.e (.e (.e (.e (.e (.e (.e (.e (.e (.e (.b (.e (.b .z (.b .z .z))) .z))))))))))))))))))))))))))))))))))))))))))))))) = ((isRun (runL 10000) = true → (∀ J1 : Nat → Value, ((intEq (Int.ofNat (cntD day 10000)) 0 = true → Q (AV.int .i64 1)) ∧ (intEq (Int.ofNat (cntD day 10000)) 0 = false → ((intEq (Int.ofNat (cntD day 10000)) 10000 = true → Q (AV.int .i64 3)) ∧ (intEq (Int.ofNat (cntD day 10000)) 10000 = false → Q (AV.int .i64 2))))))) ∧ (isRun (runL 10000) = false → False)) := by kernel_rfl
theorem body6 : bodyOf tab 6 = some (fnOf 6, codeOf 6) := by kernel_rfl
theorem loops6 : (loopsOf (codeOf 6)).map (·.1) = [0] := by kernel_rfl
theorem runL_at {i : Nat} {d : AV} : ∀ {n : Nat}, i < n → (runL n).getD (i * 4) d = .int .i8 0 ∧ (runL n).getD (i * 4 + 1) d = .int .i64 (stY (i : Int)) ∧ (runL n).getD (i * 4 + 1 + 1) d = .int .i8 0 ∧ (runL n).getD (i * 4 + 1 + 1 + 1) d = .int .i64 (enY (i : Int))
  | 0, h => by omega
  | n + 1, h => by
    by_cases e : i < n
    · obtain ⟨a, b, c, f⟩ := runL_at (d := d) e
      have hl := runL_len n
      simp only [runL, List.getD_eq_getElem?_getD] at a b c f ⊢
      rw [List.getElem?_append_left (by omega), List.getElem?_append_left (by omega), List.getElem?_append_left (by omega), List.getElem?_append_left (by omega)]
      exact ⟨a, b, c, f⟩
    · obtain rfl : i = n := by omega
      have hl := runL_len i
      simp only [runL, List.getD_eq_getElem?_getD]
      rw [List.getElem?_append_right (by omega), List.getElem?_append_right (by omega), List.getElem?_append_right (by omega), List.getElem?_append_right (by omega), hl, show i * 4 - i * 4 = 0 by omega, show i * 4 + 1 - i * 4 = 1 by omega, show i * 4 + 1 + 1 - i * 4 = 2 by omega, show i * 4 + 1 + 1 + 1 - i * 4 = 3 by omega]
      exact ⟨rfl, rfl, rfl, rfl⟩
theorem lv6 : LoopVOK Tryz.prog (cfgS cfg M3) (Cw cfg []) (lb 6 0) 93 [1,5,6,7] v6 := by
  intro vs o t Q hv hq J
  unfold v6 at hv
  split at hv
  · rename_i day n k i cs fs
    cases hv
    obtain ⟨h1, hq1⟩ := asrts_wp hq
    obtain ⟨h2, hq2⟩ := asrts_wp hq1
    obtain ⟨h3, hq3⟩ := asrts_wp hq2
    obtain ⟨h4, hq4⟩ := asrts_wp hq3
    obtain ⟨h5, hq5⟩ := asrts_wp hq4
    clear hq hq1 hq2 hq3 hq4
    rw [q_beq_t] at h1
    rw [q_eq_t] at h2 h3
    rw [isRun_iff] at h4
    rw [noIds_iff] at h5
    subst h1 h2 h3
    have hq : Q (.exit 0, [.int .i64 day, .slice 15 0 10000 (.rest 0), .int .i64 (Int.ofNat (cntD day 10000)), .int .i64 10000], ⟨2, [.cells cs true (some 4), .cells fs true none], []⟩) := hq5
    have hat : ∀ {i : Nat}, i < 10000 → cs.getD (i * 4) (.tuple []) = .int .i8 0 ∧ cs.getD (i * 4 + 1) (.tuple []) = .int .i64 (stY (i : Int)) ∧ cs.getD (i * 4 + 1 + 1) (.tuple []) = .int .i8 0 ∧ cs.getD (i * 4 + 1 + 1 + 1) (.tuple []) = .int .i64 (enY (i : Int)) := fun h => by rw [h4]; exact runL_at h
    clear h4 hq5
    refine lvOK M3_ok rfl rfl lok_none (ι := {i : Nat // i ≤ 10000}) (fun x => [.int .i64 day, .slice 15 0 10000 (.rest 0), .int .i64 (Int.ofNat (cntD day x.1)), .int .i64 (x.1 : Int)]) (fun _ => ⟨2, [.cells cs true (some 4), .cells fs true none], []⟩) (fun x => 10000 - x.1) 2 (fun _ => Nat.le_refl _) (fun x J => ?_) (Nat.le_refl _) (fun J => Wk.refl ⟨⟨0, Nat.zero_le _⟩, J, rfl⟩) J
    obtain ⟨i, hi⟩ := x
    dsimp only
    have hle := cntD_le day i
    refine wp_gen fun Q' hQ => askA_wp ((r6 J day (Int.ofNat (cntD day i)) cs (.cells fs true none) i hi ⟨by show (0 : Int) ≤ (cntD day i : Int); omega, by show (cntD day i : Int) ≤ 10000; omega⟩).mpr ?_)
    have go : i < 10000 → ∀ c : Int, c = ((cntD day (i + 1) : Nat) : Int) → Q' (.normal, [.int .i64 day, .slice 15 0 10000 (.rest 0), .int .i64 c, .int .i64 ((i : Int) + 1)], ⟨2, [.cells cs true (some 4), .cells fs true none], []⟩) := fun h c hc =>
      hQ (.normal, _, _) ⟨⟨i + 1, by omega⟩, by dsimp only; omega, VW.of_eq (by rw [hc]; rfl) rfl⟩
    have fin : ¬ i < 10000 → Q' (.exit 0, [.int .i64 day, .slice 15 0 10000 (.rest 0), .int .i64 (Int.ofNat (cntD day i)), .int .i64 (i : Int)], ⟨2, [.cells cs true (some 4), .cells fs true none], []⟩) := fun h => by
      have e : i = 10000 := by omega
      exact hQ (.exit 0, _, _) ⟨_, _, VW.of_eq (by rw [e]; rfl) rfl, hq⟩
    clear hQ hq
    by_cases hk : i < 10000
    · have hc : ((cntD day (i + 1) : Nat) : Int) = (cntD day i : Int) + (bif dayIn day (i : Int) then 1 else 0) := by
        show ((cntD day i + _ : Nat) : Int) = _
        cases dayIn day (i : Int) <;> rfl
      have go := go hk
      rw [hc] at go
      obtain ⟨a0, a1, a2, a3⟩ := hat hk
      clear hat fin hc
      have i0 : ∀ (q : IntKind) (n : Int), intOf (.int q n) = n := fun _ _ => rfl
      have ka : ∀ (q : IntKind) (n : Int), isKA q (.int q n) = true := fun q n => by cases q <;> rfl
      simp only [Nat.zero_add] at a0 a1 a2 a3 ⊢
      rw [a0, a1, a2, a3]
      simp only [i0, ka]
      clear a0 a1 a2 a3 i0 ka
      generalize cntD day i = cn at *
      by_cases hd : stY (i : Int) ≤ day ∧ day ≤ enY (i : Int)
      · have : dayIn day (i : Int) = true := by unfold dayIn; rw [Bool.and_eq_true, q_le_t, q_le_t]; exact hd
        rw [this, cond_true] at go
        generalize stY (i : Int) = sy at *
        generalize enY (i : Int) = ey at *
        simp only [q_all, reduceCtorEq, loK, hiK, ne_eq]
        (repeat' first | exact trivial | refine ⟨?_, ?_⟩ | intro) <;> first | omega | (exfalso; assumption) | (apply go; omega)
      · have : dayIn day (i : Int) = false := dayIn_f (by omega)
        rw [this, cond_false] at go
        generalize stY (i : Int) = sy at *
        generalize enY (i : Int) = ey at *
        simp only [q_all, reduceCtorEq, loK, hiK, ne_eq]
        (repeat' first | exact trivial | refine ⟨?_, ?_⟩ | intro) <;> first | omega | (exfalso; assumption) | (apply go; omega)
    · have fin := fin hk
      clear hat go
      generalize cntD day i = cn at *
      simp only [q_all, reduceCtorEq, loK, hiK, ne_eq]
      (repeat' first | exact trivial | refine ⟨?_, ?_⟩ | intro) <;> first | (exfalso; omega) | exact fin
  · cases hv
theorem M4_ok : SumsOK Tryz.prog cfg M4 := by
  refine sums_addP sums_nil fun args t v he hv => ?_
  unfold s6 at he
  split at he
  · rename_i k s e g mo da x y z p a b c d day
    cases he
    obtain ⟨k0, w0⟩ := asrts_run hv
    obtain ⟨k1, w1⟩ := asrts_run w0
    obtain ⟨k2, w2⟩ := asrts_run w1
    obtain ⟨k3, w3⟩ := asrts_run w2
    obtain ⟨k4, w4⟩ := asrts_run w3
    obtain ⟨k5, w5⟩ := asrts_run w4
    obtain ⟨k6, w6⟩ := asrts_run w5
    obtain ⟨k7, w7⟩ := asrts_run w6
    obtain ⟨k8, w8⟩ := asrts_run w7
    obtain ⟨j1, w9⟩ := asrts_run w8
    obtain ⟨j2, w10⟩ := asrts_run w9
    obtain ⟨j3, w11⟩ := asrts_run w10
    obtain ⟨j4, w12⟩ := asrts_run w11
    obtain ⟨j5, w13⟩ := asrts_run w12
    obtain ⟨hm, w14⟩ := asrts_run w13
    clear hv w0 w1 w2 w3 w4 w5 w6 w7 w8 w9 w10 w11 w12 w13
    rw [q_eq_t] at k0 k2 k3 k6 k7 k8 j1 j2 j3 j4 j5
    rw [bytesEq_beq, beq_iff_eq] at k1 k4 k5
    subst k0 k1 k2 k3 k4 k5 k6 k7 k8 j1 j2 j3 j4 j5
    have hm : day ∈ days11 := by unfold memD at hm; simpa using hm
    have hv : Tr.run (.ret (.int .i64 (ansD day))) = some v := w14
    cases hv
    refine fpOK M3_ok (L := L6) body6 (by simp) (lok_at loops6 fun i hi e he st Q hw => ?_) (wp_gen fun Q' hQ => askA_wp ((b6 day).mpr ?_)) (by simp [idsA])
    · have hi : i = 0 := by simp at hi; omega
      subst hi
      cases he
      exact loopE_ok (base0.good M3_ok) (by decide) rfl lv6 hw
    · have hc : isRun (runL 10000) = true := isRun_iff.2 rfl
      have had := ans_days hm
      refine ⟨fun _ _ => ?_, fun h => by rw [hc] at h; cases h⟩
      clear hc
      generalize cntD day 10000 = cn at *
      have fin : ∀ n : Int, n = ansD day → Q' (.int .i64 n) := fun n h => hQ _ (by rw [h])
      clear hQ
      generalize ansD day = an at *
      simp only [q_all, reduceCtorEq, loK, hiK, ne_eq]
      (repeat' first | exact trivial | refine ⟨?_, ?_⟩ | intro) <;> first | (apply fin; omega) | (exfalso; omega)
  · cases he
end Go.Ev
