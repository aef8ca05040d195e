/- circaref23.Unit of a year; circaref25.Finite of XXXX. -/
import Derived.Test.YticbodgiogmldaaGreatDoorEe1
set_option linter.all false
set_option maxRecDepth 100000
set_option maxHeartbeats 4000000
namespace Go.Ev
open Go Go.Proofs
def s34 : Sum := fun args => match args with
  | [.int .i64 y, .int .i64 m, .int .i64 d] => some (asrts [intLe 0 y, intLe y 9999, intEq m 0, intEq d 0] (.ret (.agg [.int .i8 0, .int .i64 (stY y), .int .i8 0, .int .i64 (enY y)])))
  | _ => none
def M2 : Sums := addP M1 34 s34
/-- The years from 0 on, as runs. -/
def runL : Nat → List AV
  | 0 => []
  | n + 1 => runL n ++ [.int .i8 0, .int .i64 (stY (n : Int)), .int .i8 0, .int .i64 (enY (n : Int))]
open Classical in
noncomputable def isCiv (cs : List AV) : Bool := if cs = civL 10000 then true else false
theorem isCiv_iff {cs : List AV} : isCiv cs = true ↔ cs = civL 10000 := by unfold isCiv; split <;> simp_all
def outR : Nat → AV
  | 0 => .nilslice
  | n + 1 => .slice 16 0 (n + 1) (.rest 0)
def ownR (cs : List AV) (fb : AObj) : Nat → Own
  | 0 => ⟨2, [.cells cs true (some 3), fb], []⟩
  | n + 1 => ⟨3, [.cells (runL (n + 1)) true (some 4), .cells cs true (some 3), fb], []⟩
def noIds (cs : List AV) : Bool := (idsL cs).isEmpty
theorem noIds_iff {cs : List AV} : noIds cs = true ↔ idsL cs = [] := by unfold noIds; exact List.isEmpty_iff
noncomputable def v14 : LoopV := fun vs o => match vs, o with
  | [.nilslice, .slice 15 0 n (.rest 0), .int .i64 i], ⟨2, [.cells cs true (some 3), .cells fs true none], []⟩ =>
    some (asrts [Nat.beq n 10000, intEq i 0, isCiv cs, noIds fs] (.ret (.exit 0, [.slice 16 0 10000 (.rest 0), .slice 15 0 10000 (.rest 0), .int .i64 10000], ⟨3, [.cells (runL 10000) true (some 4), .cells cs true (some 3), .cells fs true none], []⟩)))
  | _, _ => none
noncomputable def L14 : Loops := addL noL 0 (loopE 40 [3,4,5] v14)
def w14 : WSum := fun args ws => match args, ws with
  | [.agg [.int .u8 k, .nilslice, .bool false, .bool false, .str s, .int .i64 e, .int .i64 g, .str mo, .str da, .int .u8 x, .int .u8 y, .int .u8 z, .int .u8 p, .int .i8 a, .int .i64 b, .int .i8 c, .int .i64 d]], [] =>
    some (asrts (intEq k 2 :: isXD s e g mo da x y z ++ [intEq p 0, intEq a 0, intEq b 0, intEq c 0, intEq d 0]) (.ret (.slice 14 0 10000 (.rest 0), [.cells (runL 10000) true (some 4)])))
  | _, _ => none
def M3 : Sums := addG M2 14 (winS 14 [] w14)
abbrev fL : List AV := [.int .u8 2, .nilslice, .bool false, .bool false, .str [88, 88, 88, 88], .int .i64 0, .int .i64 0, .str [], .str [], .int .u8 0, .int .u8 0, .int .u8 0, .int .u8 0, .int .i8 0, .int .i64 0, .int .i8 0, .int .i64 0]
theorem b34 (y : Int) (hy : 0 ≤ y ∧ y ≤ 9999) {Q : AV → Prop} : askA Q (pT nilS noL 34 [.int .i64 y, .int .i64 0, .int .i64 0]) (.e (.e (.f (.e (.t (.t (.t (.t (.t (.t (.t (.e (.t (.t (.t (.e (.t (.t (.t (.e (.t (.t (.e (.f (.e (.t (.t (.t (.t (.t (.t (.t (.e (.t (.t (.t (.e (.t (.t (.t (.e (.t (.t (.t (.e (.b (.t (.e (.t (.t (.b (.t (.e (.t (.t (.f (.t (.b (.t (.e (.e .z))) (.t (.e (.e .z)))))))))) (.f (.f (.t (.t (.t (.e (.t (.e (.e .z)))))))))))))) (.f (.f (.f (.e (.e (.e (.f (.f (.e (.t (.e (.e .z)))))))))))))))))))))))))))))))))))))))))))))))))))))))))) = (Bool.not (intLe 0 (Int.tmod y 400)) = false ∧ (inR .i64 (Int.tdiv y 400) = true ∧ (inR .i64 (Int.mul (Int.tdiv y 400) 400) = true ∧ (inR .i64 (Int.sub y (Int.mul (Int.tdiv y 400) 400)) = true ∧ (inR .i64 (Int.mul (Int.tdiv y 400) 146097) = true ∧ (inR .i64 (Int.mul 365 (Int.sub y (Int.mul (Int.tdiv y 400) 400))) = true ∧ (inR .i64 (Int.add (Int.mul (Int.tdiv y 400) 146097) (Int.mul 365 (Int.sub y (Int.mul (Int.tdiv y 400) 400)))) = true ∧ (inR .i64 (Int.add (Int.sub y (Int.mul (Int.tdiv y 400) 400)) 3) = true ∧ (inR .i64 (Int.tdiv (Int.add (Int.sub y (Int.mul (Int.tdiv y 400) 400)) 3) 4) = true ∧ (inR .i64 (Int.add (Int.add (Int.mul (Int.tdiv y 400) 146097) (Int.mul 365 (Int.sub y (Int.mul (Int.tdiv y 400) 400)))) (Int.tdiv (Int.add (Int.sub y (Int.mul (Int.tdiv y 400) 400)) 3) 4)) = true ∧ (inR .i64 (Int.add (Int.sub y (Int.mul (Int.tdiv y 400) 400)) 99) = true ∧ (inR .i64 (Int.tdiv (Int.add (Int.sub y (Int.mul (Int.tdiv y 400) 400)) 99) 100) = true ∧ (inR .i64 (Int.sub (Int.add (Int.add (Int.mul (Int.tdiv y 400) 146097) (Int.mul 365 (Int.sub y (Int.mul (Int.tdiv y 400) 400)))) (Int.tdiv (Int.add (Int.sub y (Int.mul (Int.tdiv y 400) 400)) 3) 4)) (Int.tdiv (Int.add (Int.sub y (Int.mul (Int.tdiv y 400) 400)) 99) 100)) = true ∧ (inR .i64 (Int.add (Int.sub y (Int.mul (Int.tdiv y 400) 400)) 399) = true ∧ (inR .i64 (Int.tdiv (Int.add (Int.sub y (Int.mul (Int.tdiv y 400) 400)) 399) 400) = true ∧ (inR .i64 (Int.add (Int.sub (Int.add (Int.add (Int.mul (Int.tdiv y 400) 146097) (Int.mul 365 (Int.sub y (Int.mul (Int.tdiv y 400) 400)))) (Int.tdiv (Int.add (Int.sub y (Int.mul (Int.tdiv y 400) 400)) 3) 4)) (Int.tdiv (Int.add (Int.sub y (Int.mul (Int.tdiv y 400) 400)) 99) 100)) (Int.tdiv (Int.add (Int.sub y (Int.mul (Int.tdiv y 400) 400)) 399) 400)) = true ∧ (Bool.not (intLe 0 (Int.tmod y 400)) = false ∧ (inR .i64 (Int.tdiv y 400) = true ∧ (inR .i64 (Int.mul (Int.tdiv y 400) 400) = true ∧ (inR .i64 (Int.sub y (Int.mul (Int.tdiv y 400) 400)) = true ∧ (inR .i64 (Int.mul (Int.tdiv y 400) 146097) = true ∧ (inR .i64 (Int.mul 365 (Int.sub y (Int.mul (Int.tdiv y 400) 400))) = true ∧ (inR .i64 (Int.add (Int.mul (Int.tdiv y 400) 146097) (Int.mul 365 (Int.sub y (Int.mul (Int.tdiv y 400) 400)))) = true ∧ (inR .i64 (Int.add (Int.sub y (Int.mul (Int.tdiv y 400) 400)) 3) = true ∧ (inR .i64 (Int.tdiv (Int.add (Int.sub y (Int.mul (Int.tdiv y 400) 400)) 3) 4) = true ∧ (inR .i64 (Int.add (Int.add (Int.mul (Int.tdiv y 400) 146097) (Int.mul 365 (Int.sub y (Int.mul (Int.tdiv y 400) 400)))) (Int.tdiv (Int.add (Int.sub y (Int.mul (Int.tdiv y 400) 400)) 3) 4)) = true ∧ (inR .i64 (Int.add (Int.sub y (Int.mul (Int.tdiv y 400) 400)) 99) = true ∧ (inR .i64 (Int.tdiv (Int.add (Int.sub y (Int.mul (Int.tdiv y 400) 400)) 99) 100) = true ∧ (inR .i64 (Int.sub (Int.add (Int.add (Int.mul (Int.tdiv y 400) 146097) (Int.mul 365 (Int.sub y (Int.mul (Int.tdiv y 400) 400)))) (Int.tdiv (Int.add (Int.sub y (Int.mul (Int.tdiv y 400) 400)) 3) 4)) (Int.tdiv (Int.add (Int.sub y (Int.mul (Int.tdiv y 400) 400)) 99) 100)) = true ∧ (inR .i64 (Int.add (Int.sub y (Int.mul (Int.tdiv y 400) 400)) 399) = true ∧ (inR .i64 (Int.tdiv (Int.add (Int.sub y (Int.mul (Int.tdiv y 400) 400)) 399) 400) = true ∧ (inR .i64 (Int.add (Int.sub (Int.add (Int.add (Int.mul (Int.tdiv y 400) 146097) (Int.mul 365 (Int.sub y (Int.mul (Int.tdiv y 400) 400)))) (Int.tdiv (Int.add (Int.sub y (Int.mul (Int.tdiv y 400) 400)) 3) 4)) (Int.tdiv (Int.add (Int.sub y (Int.mul (Int.tdiv y 400) 400)) 99) 100)) (Int.tdiv (Int.add (Int.sub y (Int.mul (Int.tdiv y 400) 400)) 399) 400)) = true ∧ (inR .i64 (Int.add (Int.add (Int.sub (Int.add (Int.add (Int.mul (Int.tdiv y 400) 146097) (Int.mul 365 (Int.sub y (Int.mul (Int.tdiv y 400) 400)))) (Int.tdiv (Int.add (Int.sub y (Int.mul (Int.tdiv y 400) 400)) 3) 4)) (Int.tdiv (Int.add (Int.sub y (Int.mul (Int.tdiv y 400) 400)) 99) 100)) (Int.tdiv (Int.add (Int.sub y (Int.mul (Int.tdiv y 400) 400)) 399) 400)) 364) = true ∧ ((intEq (Int.tmod y 4) 0 = true → (intEq (Int.tmod y 4) 0 = true ∧ (intEq (Int.tmod y 4) 0 = true ∧ (intEq (Int.tmod y 4) 0 = true ∧ ((Bool.not (Bool.not (intEq (Int.tmod y 100) 0)) = true → (Bool.not (Bool.not (intEq (Int.tmod y 100) 0)) = true ∧ (Bool.not (Bool.not (intEq (Int.tmod y 100) 0)) = true ∧ (intEq (Int.tmod y 4) 0 = true ∧ (Bool.not (intEq (Int.tmod y 100) 0) = false ∧ (intEq (Int.tmod y 4) 0 = true ∧ ((intEq (Int.tmod y 400) 0 = true → (inR .i64 (Int.add (Int.add (Int.add (Int.sub (Int.add (Int.add (Int.mul (Int.tdiv y 400) 146097) (Int.mul 365 (Int.sub y (Int.mul (Int.tdiv y 400) 400)))) (Int.tdiv (Int.add (Int.sub y (Int.mul (Int.tdiv y 400) 400)) 3) 4)) (Int.tdiv (Int.add (Int.sub y (Int.mul (Int.tdiv y 400) 400)) 99) 100)) (Int.tdiv (Int.add (Int.sub y (Int.mul (Int.tdiv y 400) 400)) 399) 400)) 364) 1) = true ∧ Q (AV.agg (List.cons (AV.int .i8 0) (List.cons (AV.int .i64 (Int.add (Int.sub (Int.add (Int.add (Int.mul (Int.tdiv y 400) 146097) (Int.mul 365 (Int.sub y (Int.mul (Int.tdiv y 400) 400)))) (Int.tdiv (Int.add (Int.sub y (Int.mul (Int.tdiv y 400) 400)) 3) 4)) (Int.tdiv (Int.add (Int.sub y (Int.mul (Int.tdiv y 400) 400)) 99) 100)) (Int.tdiv (Int.add (Int.sub y (Int.mul (Int.tdiv y 400) 400)) 399) 400))) (List.cons (AV.int .i8 0) (List.cons (AV.int .i64 (Int.add (Int.add (Int.add (Int.sub (Int.add (Int.add (Int.mul (Int.tdiv y 400) 146097) (Int.mul 365 (Int.sub y (Int.mul (Int.tdiv y 400) 400)))) (Int.tdiv (Int.add (Int.sub y (Int.mul (Int.tdiv y 400) 400)) 3) 4)) (Int.tdiv (Int.add (Int.sub y (Int.mul (Int.tdiv y 400) 400)) 99) 100)) (Int.tdiv (Int.add (Int.sub y (Int.mul (Int.tdiv y 400) 400)) 399) 400)) 364) 1)) List.nil))))))) ∧ (intEq (Int.tmod y 400) 0 = false → (inR .i64 (Int.add (Int.add (Int.add (Int.sub (Int.add (Int.add (Int.mul (Int.tdiv y 400) 146097) (Int.mul 365 (Int.sub y (Int.mul (Int.tdiv y 400) 400)))) (Int.tdiv (Int.add (Int.sub y (Int.mul (Int.tdiv y 400) 400)) 3) 4)) (Int.tdiv (Int.add (Int.sub y (Int.mul (Int.tdiv y 400) 400)) 99) 100)) (Int.tdiv (Int.add (Int.sub y (Int.mul (Int.tdiv y 400) 400)) 399) 400)) 364) 0) = true ∧ Q (AV.agg (List.cons (AV.int .i8 0) (List.cons (AV.int .i64 (Int.add (Int.sub (Int.add (Int.add (Int.mul (Int.tdiv y 400) 146097) (Int.mul 365 (Int.sub y (Int.mul (Int.tdiv y 400) 400)))) (Int.tdiv (Int.add (Int.sub y (Int.mul (Int.tdiv y 400) 400)) 3) 4)) (Int.tdiv (Int.add (Int.sub y (Int.mul (Int.tdiv y 400) 400)) 99) 100)) (Int.tdiv (Int.add (Int.sub y (Int.mul (Int.tdiv y 400) 400)) 399) 400))) (List.cons (AV.int .i8 0) (List.cons (AV.int .i64 (Int.add (Int.add (Int.add (Int.sub (Int.add (Int.add (Int.mul (Int.tdiv y 400) 146097) (Int.mul 365 (Int.sub y (Int.mul (Int.tdiv y 400) 400)))) (Int.tdiv (Int.add (Int.sub y (Int.mul (Int.tdiv y 400) 400)) 3) 4)) (Int.tdiv (Int.add (Int.sub y (Int.mul (Int.tdiv y 400) 400)) 99) 100)) (Int.tdiv (Int.add (Int.sub y (Int.mul (Int.tdiv y 400) 400)) 399) 400)) 364) 0)) List.nil)))))))))))))) ∧ (Bool.not (Bool.not (intEq (Int.tmod y 100) 0)) = false → (Bool.not (Bool.not (intEq (Int.tmod y 100) 0)) = false ∧ (Bool.not (Bool.not (intEq (Int.tmod y 100) 0)) = false ∧ (intEq (Int.tmod y 4) 0 = true ∧ (Bool.not (intEq (Int.tmod y 100) 0) = true ∧ (intEq (Int.tmod y 4) 0 = true ∧ (inR .i64 (Int.add (Int.add (Int.add (Int.sub (Int.add (Int.add (Int.mul (Int.tdiv y 400) 146097) (Int.mul 365 (Int.sub y (Int.mul (Int.tdiv y 400) 400)))) (Int.tdiv (Int.add (Int.sub y (Int.mul (Int.tdiv y 400) 400)) 3) 4)) (Int.tdiv (Int.add (Int.sub y (Int.mul (Int.tdiv y 400) 400)) 99) 100)) (Int.tdiv (Int.add (Int.sub y (Int.mul (Int.tdiv y 400) 400)) 399) 400)) 364) 1) = true ∧ Q (AV.agg (List.cons (AV.int .i8 0) (List.cons (AV.int .i64 (Int.add (Int.sub (Int.add (Int.add (Int.mul (Int.tdiv y 400) 146097) (Int.mul 365 (Int.sub y (Int.mul (Int.tdiv y 400) 400)))) (Int.tdiv (Int.add (Int.sub y (Int.mul (Int.tdiv y 400) 400)) 3) 4)) (Int.tdiv (Int.add (Int.sub y (Int.mul (Int.tdiv y 400) 400)) 99) 100)) (Int.tdiv (Int.add (Int.sub y (Int.mul (Int.tdiv y 400) 400)) 399) 400))) (List.cons (AV.int .i8 0) (List.cons (AV.int .i64 (Int.add (Int.add (Int.add (Int.sub (Int.add (Int.add (Int.mul (Int.tdiv y 400) 146097) (Int.mul 365 (Int.sub y (Int.mul (Int.tdiv y 400) 400)))) (Int.tdiv (Int.add (Int.sub y (Int.mul (Int.tdiv y 400) 400)) 3) 4)) (Int.tdiv (Int.add (Int.sub y (Int.mul (Int.tdiv y 400) 400)) 99) 100)) (Int.tdiv (Int.add (Int.sub y (Int.mul (Int.tdiv y 400) 400)) 399) 400)) 364) 1)) List.nil))))))))))))))))) ∧ (intEq (Int.tmod y 4) 0 = false → (intEq (Int.tmod y 4) 0 = false ∧ (intEq (Int.tmod y 4) 0 = false ∧ (intEq (Int.tmod y 4) 0 = false ∧ (intEq (Int.tmod y 4) 0 = false ∧ (intEq (Int.tmod y 4) 0 = false ∧ (inR .i64 (Int.add (Int.add (Int.add (Int.sub (Int.add (Int.add (Int.mul (Int.tdiv y 400) 146097) (Int.mul 365 (Int.sub y (Int.mul (Int.tdiv y 400) 400)))) (Int.tdiv (Int.add (Int.sub y (Int.mul (Int.tdiv y 400) 400)) 3) 4)) (Int.tdiv (Int.add (Int.sub y (Int.mul (Int.tdiv y 400) 400)) 99) 100)) (Int.tdiv (Int.add (Int.sub y (Int.mul (Int.tdiv y 400) 400)) 399) 400)) 364) 0) = true ∧ Q (AV.agg (List.cons (AV.int .i8 0) (List.cons (AV.int .i64 (Int.add (Int.sub (Int.add (Int.add (Int.mul (Int.tdiv y 400) 146097) (Int.mul 365 (Int.sub y (Int.mul (Int.tdiv y 400) 400)))) (Int.tdiv (Int.add (Int.sub y (Int.mul (Int.tdiv y 400) 400)) 3) 4)) (Int.tdiv (Int.add (Int.sub y (Int.mul (Int.tdiv y 400) 400)) 99) 100)) (Int.tdiv (Int.add (Int.sub y (Int.mul (Int.tdiv y 400) 400)) 399) 400))) (List.cons (AV.int .i8 0) (List.cons (AV.int .i64 (Int.add (Int.add (Int.add (Int.sub (Int.add (Int.add (Int.mul (Int.tdiv y 400) 146097) (Int.mul 365 (Int.sub y (Int.mul (Int.tdiv y 400) 400)))) (Int.tdiv (Int.add (Int.sub y (Int.mul (Int.tdiv y 400) 400)) 3) 4)) (Int.tdiv (Int.add (Int.sub y (Int.mul (Int.tdiv y 400) 400)) 99) 100)) (Int.tdiv (Int.add (Int.sub y (Int.mul (Int.tdiv y 400) 400)) 399) 400)) 364) 0)) List.nil)))))))))))))))))))))))))))))))))))))))))))))) := by kernel_rfl
theorem r14n (J : Nat → Value) (cs : List AV) (fb : AObj) (i : Nat) (hi : i ≤ 10000) {Q : VQ → Prop} : askA Q (rT M2 noL [] 14 0 40 [3,4,5] [.nilslice, .slice 15 0 10000 (.rest 0), .int .i64 (Int.ofNat i)] J ⟨2, [.cells cs true (some 3), fb], []⟩) (.b (.e (.t (.b (.e (.t (.b (.e (.t (.b (.e (.b (.b (.b (.b (.e (.e (.e (.e (.e (.t .z)))))) .z) .z) .z) .z)) .z))) .z))) .z))) .z) = ((Bool.not (intLe 10000 (Int.ofNat i)) = true → (natLt i 10000 = true ∧ ((isKA .i64 (List.getD cs (HAdd.hAdd (HAdd.hAdd 0 (HMul.hMul i 3)) 0) (AV.tuple List.nil)) = true → (natLt i 10000 = true ∧ ((isKA .i64 (List.getD cs (HAdd.hAdd (HAdd.hAdd 0 (HMul.hMul i 3)) 1) (AV.tuple List.nil)) = true → (natLt i 10000 = true ∧ ((isKA .i64 (List.getD cs (HAdd.hAdd (HAdd.hAdd 0 (HMul.hMul i 3)) 2) (AV.tuple List.nil)) = true → ((intLe 0 (intOf (List.getD cs (HAdd.hAdd (HAdd.hAdd 0 (HMul.hMul i 3)) 0) (AV.tuple List.nil))) = true → ((intLe (intOf (List.getD cs (HAdd.hAdd (HAdd.hAdd 0 (HMul.hMul i 3)) 0) (AV.tuple List.nil))) 9999 = true → ((intEq (intOf (List.getD cs (HAdd.hAdd (HAdd.hAdd 0 (HMul.hMul i 3)) 1) (AV.tuple List.nil))) 0 = true → ((intEq (intOf (List.getD cs (HAdd.hAdd (HAdd.hAdd 0 (HMul.hMul i 3)) 2) (AV.tuple List.nil))) 0 = true → (inR .i64 (Int.add (Int.ofNat i) 1) = true ∧ Q (Prod.mk AX.normal (Prod.mk (List.cons (AV.slice 17 0 1 (Cap.rest 0)) (List.cons (AV.slice 15 0 10000 (Cap.rest 0)) (List.cons (AV.int .i64 (Int.add (Int.ofNat i) 1)) List.nil))) { n := 4, os := List.cons (AObj.cells (List.cons (AV.int .i8 0) (List.cons (AV.int .i64 (stY (intOf (List.getD cs (HAdd.hAdd (HAdd.hAdd 0 (HMul.hMul i 3)) 0) (AV.tuple List.nil))))) (List.cons (AV.int .i8 0) (List.cons (AV.int .i64 (enY (intOf (List.getD cs (HAdd.hAdd (HAdd.hAdd 0 (HMul.hMul i 3)) 0) (AV.tuple List.nil))))) List.nil)))) Bool.true (Option.some 4)) (List.cons (AObj.cells (List.cons (AV.int .i8 0) (List.cons (AV.int .i64 (stY (intOf (List.getD cs (HAdd.hAdd (HAdd.hAdd 0 (HMul.hMul i 3)) 0) (AV.tuple List.nil))))) (List.cons (AV.int .i8 0) (List.cons (AV.int .i64 (enY (intOf (List.getD cs (HAdd.hAdd (HAdd.hAdd 0 (HMul.hMul i 3)) 0) (AV.tuple List.nil))))) List.nil)))) Bool.true Option.none) (List.cons (AObj.cells cs Bool.true (Option.some 3)) (List.cons fb List.nil))), le := List.nil })))) ∧ (intEq (intOf (List.getD cs (HAdd.hAdd (HAdd.hAdd 0 (HMul.hMul i 3)) 2) (AV.tuple List.nil))) 0 = false → False))) ∧ (intEq (intOf (List.getD cs (HAdd.hAdd (HAdd.hAdd 0 (HMul.hMul i 3)) 1) (AV.tuple List.nil))) 0 = false → False))) ∧ (intLe (intOf (List.getD cs (HAdd.hAdd (HAdd.hAdd 0 (HMul.hMul i 3)) 0) (AV.tuple List.nil))) 9999 = false → False))) ∧ (intLe 0 (intOf (List.getD cs (HAdd.hAdd (HAdd.hAdd 0 (HMul.hMul i 3)) 0) (AV.tuple List.nil))) = false → False))) ∧ (isKA .i64 (List.getD cs (HAdd.hAdd (HAdd.hAdd 0 (HMul.hMul i 3)) 2) (AV.tuple List.nil)) = false → False)))) ∧ (isKA .i64 (List.getD cs (HAdd.hAdd (HAdd.hAdd 0 (HMul.hMul i 3)) 1) (AV.tuple List.nil)) = false → False)))) ∧ (isKA .i64 (List.getD cs (HAdd.hAdd (HAdd.hAdd 0 (HMul.hMul i 3)) 0) (AV.tuple List.nil)) = false → False)))) ∧ (Bool.not (intLe 10000 (Int.ofNat i)) = false → Q (Prod.mk (AX.exit 0) (Prod.mk (List.cons AV.nilslice (List.cons (AV.slice 15 0 10000 (Cap.rest 0)) (List.cons (AV.int .i64 (Int.ofNat i)) List.nil))) { n := 2, os := List.cons (AObj.cells cs Bool.true (Option.some 3)) (List.cons fb List.nil), le := List.nil })))) := by kernel_rfl
theorem r14s (J : Nat → Value) (cs rs : List AV) (fb : AObj) (i n : Nat) (hi : i ≤ 10000) (hn : n ≤ 10000) {Q : VQ → Prop} : askA Q (rT M2 noL [] 14 0 40 [3,4,5] [.slice 16 0 n (.rest 0), .slice 15 0 10000 (.rest 0), .int .i64 (Int.ofNat i)] J ⟨3, [.cells rs true (some 4), .cells cs true (some 3), fb], []⟩) (.b (.e (.t (.b (.e (.t (.b (.e (.t (.b (.e (.b (.b (.b (.b (.e (.t (.e (.e (.e (.e (.b (.t .z) .z))))))) .z) .z) .z) .z)) .z))) .z))) .z))) .z) = ((Bool.not (intLe 10000 (Int.ofNat i)) = true → (natLt i 10000 = true ∧ ((isKA .i64 (List.getD cs (HAdd.hAdd (HAdd.hAdd 0 (HMul.hMul i 3)) 0) (AV.tuple List.nil)) = true → (natLt i 10000 = true ∧ ((isKA .i64 (List.getD cs (HAdd.hAdd (HAdd.hAdd 0 (HMul.hMul i 3)) 1) (AV.tuple List.nil)) = true → (natLt i 10000 = true ∧ ((isKA .i64 (List.getD cs (HAdd.hAdd (HAdd.hAdd 0 (HMul.hMul i 3)) 2) (AV.tuple List.nil)) = true → ((intLe 0 (intOf (List.getD cs (HAdd.hAdd (HAdd.hAdd 0 (HMul.hMul i 3)) 0) (AV.tuple List.nil))) = true → ((intLe (intOf (List.getD cs (HAdd.hAdd (HAdd.hAdd 0 (HMul.hMul i 3)) 0) (AV.tuple List.nil))) 9999 = true → ((intEq (intOf (List.getD cs (HAdd.hAdd (HAdd.hAdd 0 (HMul.hMul i 3)) 1) (AV.tuple List.nil))) 0 = true → ((intEq (intOf (List.getD cs (HAdd.hAdd (HAdd.hAdd 0 (HMul.hMul i 3)) 2) (AV.tuple List.nil))) 0 = true → (Bool.and (Bool.and (Nat.ble (HAdd.hAdd n 1) 1000000) Bool.true) Bool.true = true ∧ ((Bool.and Bool.true (Nat.beq (List.length rs) (HMul.hMul n 4)) = true → (inR .i64 (Int.add (Int.ofNat i) 1) = true ∧ Q (Prod.mk AX.normal (Prod.mk (List.cons (AV.slice 18 0 (HAdd.hAdd n 1) (Cap.rest 0)) (List.cons (AV.slice 15 0 10000 (Cap.rest 0)) (List.cons (AV.int .i64 (Int.add (Int.ofNat i) 1)) List.nil))) { n := 5, os := List.cons (AObj.cells (HAppend.hAppend rs (List.cons (AV.int .i8 0) (List.cons (AV.int .i64 (stY (intOf (List.getD cs (HAdd.hAdd (HAdd.hAdd 0 (HMul.hMul i 3)) 0) (AV.tuple List.nil))))) (List.cons (AV.int .i8 0) (List.cons (AV.int .i64 (enY (intOf (List.getD cs (HAdd.hAdd (HAdd.hAdd 0 (HMul.hMul i 3)) 0) (AV.tuple List.nil))))) List.nil))))) Bool.true (Option.some 4)) (List.cons (AObj.cells (List.cons (AV.int .i8 0) (List.cons (AV.int .i64 (stY (intOf (List.getD cs (HAdd.hAdd (HAdd.hAdd 0 (HMul.hMul i 3)) 0) (AV.tuple List.nil))))) (List.cons (AV.int .i8 0) (List.cons (AV.int .i64 (enY (intOf (List.getD cs (HAdd.hAdd (HAdd.hAdd 0 (HMul.hMul i 3)) 0) (AV.tuple List.nil))))) List.nil)))) Bool.true Option.none) (List.cons AObj.dead (List.cons (AObj.cells cs Bool.true (Option.some 3)) (List.cons fb List.nil)))), le := List.nil })))) ∧ (Bool.and Bool.true (Nat.beq (List.length rs) (HMul.hMul n 4)) = false → False)))) ∧ (intEq (intOf (List.getD cs (HAdd.hAdd (HAdd.hAdd 0 (HMul.hMul i 3)) 2) (AV.tuple List.nil))) 0 = false → False))) ∧ (intEq (intOf (List.getD cs (HAdd.hAdd (HAdd.hAdd 0 (HMul.hMul i 3)) 1) (AV.tuple List.nil))) 0 = false → False))) ∧ (intLe (intOf (List.getD cs (HAdd.hAdd (HAdd.hAdd 0 (HMul.hMul i 3)) 0) (AV.tuple List.nil))) 9999 = false → False))) ∧ (intLe 0 (intOf (List.getD cs (HAdd.hAdd (HAdd.hAdd 0 (HMul.hMul i 3)) 0) (AV.tuple List.nil))) = false → False))) ∧ (isKA .i64 (List.getD cs (HAdd.hAdd (HAdd.hAdd 0 (HMul.hMul i 3)) 2) (AV.tuple List.nil)) = false → False)))) ∧ (isKA .i64 (List.getD cs (HAdd.hAdd (HAdd.hAdd 0 (HMul.hMul i 3)) 1) (AV.tuple List.nil)) = false → False)))) ∧ (isKA .i64 (List.getD cs (HAdd.hAdd (HAdd.hAdd 0 (HMul.hMul i 3)) 0) (AV.tuple List.nil)) = false → False)))) ∧ (Bool.not (intLe 10000 (Int.ofNat i)) = false → Q (Prod.mk (AX.exit 0) (Prod.mk (List.cons (AV.slice 16 0 n (Cap.rest 0)) (List.cons (AV.slice 15 0 10000 (Cap.rest 0)) (List.cons (AV.int .i64 (Int.ofNat i)) List.nil))) { n := 3, os := List.cons (AObj.cells rs Bool.true (Option.some 4)) (List.cons (AObj.cells cs Bool.true (Option.some 3)) (List.cons fb List.nil)), le := List.nil })))) := by kernel_rfl
theorem b14  {Q : EQ → Prop} : askA Q (bT M2 L14 [] 14 [.agg fL]) (.e (.e (.e (.e (.e (.e (.e (.e (.e (.e (.e (.e (.e (.e (.e (.e (.e (.e (.e (.e (.e (.e (.e (.b (.e .z) .z)))))))))))))))))))))))) = ((isCiv (civL 10000) = true → (∀ J1 : Nat → Value, Q (Prod.mk (AV.slice 16 0 10000 (Cap.rest 0)) { n := 3, os := List.cons (AObj.cells (runL 10000) Bool.true (Option.some 4)) (List.cons (AObj.cells (civL 10000) Bool.true (Option.some 3)) (List.cons (AObj.cells (List.cons (AV.int .u8 2) (List.cons AV.nilslice (List.cons (AV.bool Bool.false) (List.cons (AV.bool Bool.false) (List.cons (AV.str (List.cons (UInt8.ofNat 88) (List.cons (UInt8.ofNat 88) (List.cons (UInt8.ofNat 88) (List.cons (UInt8.ofNat 88) List.nil))))) (List.cons (AV.int .i64 0) (List.cons (AV.int .i64 0) (List.cons (AV.str List.nil) (List.cons (AV.str List.nil) (List.cons (AV.int .u8 0) (List.cons (AV.int .u8 0) (List.cons (AV.int .u8 0) (List.cons (AV.int .u8 0) (List.cons (AV.int .i8 0) (List.cons (AV.int .i64 0) (List.cons (AV.int .i8 0) (List.cons (AV.int .i64 0) List.nil))))))))))))))))) Bool.true Option.none) List.nil)), le := List.nil }))) ∧ (isCiv (civL 10000) = false → False)) := by kernel_rfl
theorem body34 : bodyOf tab 34 = some (fnOf 34, codeOf 34) := by kernel_rfl
theorem body14 : bodyOf tab 14 = some (fnOf 14, codeOf 14) := by kernel_rfl
theorem loops14 : (loopsOf (codeOf 14)).map (·.1) = [0] := by kernel_rfl
theorem M2_ok : SumsOK Tryz.prog cfg M2 := by
  refine sums_addP M1_ok fun args t v he hv => ?_
  unfold s34 at he
  split at he
  · rename_i y m d
    cases he
    obtain ⟨h1, hv⟩ := asrts_run hv
    obtain ⟨h2, hv⟩ := asrts_run hv
    obtain ⟨h3, hv⟩ := asrts_run hv
    obtain ⟨h4, hv⟩ := asrts_run hv
    rw [q_le_t] at h1 h2
    rw [q_eq_t] at h3 h4
    subst h3 h4
    cases hv
    refine fpOK sums_nil (L := noL) body34 (by simp) lok_none (wp_gen fun Q' hQ => askA_wp ((b34 y ⟨h1, h2⟩).mpr ?_)) (by simp [idsA, idsL])
    have z : ∀ k : Int, y.tmod k = 0 ↔ y % k = 0 := fun k => by rw [← Int.dvd_iff_tmod_eq_zero, ← Int.dvd_iff_emod_eq_zero]
    have yes : (y % 4 = 0 ∧ (y % 100 ≠ 0 ∨ y % 400 = 0)) → lpY y = 1 := fun h => by
      have : (intEq (y % 4) 0 && (!(intEq (y % 100) 0) || intEq (y % 400) 0)) = true := by
        rw [Bool.and_eq_true, Bool.or_eq_true, q_eq_t, q_eq_t, Bool.not_eq_true', q_eq_f]; exact h
      unfold lpY; rw [this]; rfl
    have no : ¬ (y % 4 = 0 ∧ (y % 100 ≠ 0 ∨ y % 400 = 0)) → lpY y = 0 := fun h => by
      have : (intEq (y % 4) 0 && (!(intEq (y % 100) 0) || intEq (y % 400) 0)) = false := by
        rw [← Bool.not_eq_true, Bool.and_eq_true, Bool.or_eq_true, q_eq_t, q_eq_t, Bool.not_eq_true', q_eq_f]; exact h
      unfold lpY; rw [this]; rfl
    have fin : ∀ a b : Int, a = stY y → b = enY y → Q' (.agg [.int .i8 0, .int .i64 a, .int .i8 0, .int .i64 b]) := fun a b e1 e2 => hQ _ (by rw [e1, e2])
    clear hQ
    simp only [q_all, reduceCtorEq, loK, hiK, ne_eq, z]
    have t0 : y.tdiv 400 = y / 400 := Int.tdiv_eq_ediv_of_nonneg h1
    rw [t0]
    have t1 : (y - y / 400 * 400 + 3).tdiv 4 = (y - y / 400 * 400 + 3) / 4 := Int.tdiv_eq_ediv_of_nonneg (by omega)
    have t2 : (y - y / 400 * 400 + 99).tdiv 100 = (y - y / 400 * 400 + 99) / 100 := Int.tdiv_eq_ediv_of_nonneg (by omega)
    have t3 : (y - y / 400 * 400 + 399).tdiv 400 = (y - y / 400 * 400 + 399) / 400 := Int.tdiv_eq_ediv_of_nonneg (by omega)
    have t4 : 0 ≤ y.tmod 400 := Int.tmod_nonneg _ h1
    rw [t1, t2, t3]
    (repeat' first | exact trivial | refine ⟨?_, ?_⟩ | intro) <;> first | omega | (refine fin _ _ rfl ?_; rw [enY, yes (by omega)]; rfl) | (refine fin _ _ rfl ?_; rw [enY, no (by omega)]; rfl)
  · cases he
theorem civL_at {i : Nat} {d : AV} : ∀ {n : Nat}, i < n → (civL n).getD (i * 3) d = .int .i64 (i : Int) ∧ (civL n).getD (i * 3 + 1) d = .int .i64 0 ∧ (civL n).getD (i * 3 + 2) d = .int .i64 0
  | 0, h => by omega
  | n + 1, h => by
    by_cases e : i < n
    · obtain ⟨a, b, c⟩ := civL_at (d := d) e
      have hl := civL_len n
      simp only [civL, List.getD_eq_getElem?_getD] at a b c ⊢
      rw [List.getElem?_append_left (by omega), List.getElem?_append_left (by omega), List.getElem?_append_left (by omega)]
      exact ⟨a, b, c⟩
    · obtain rfl : i = n := by omega
      have hl := civL_len i
      simp only [civL, List.getD_eq_getElem?_getD]
      rw [List.getElem?_append_right (by omega), List.getElem?_append_right (by omega), List.getElem?_append_right (by omega), hl, show i * 3 - i * 3 = 0 by omega, show i * 3 + 1 - i * 3 = 1 by omega, show i * 3 + 2 - i * 3 = 2 by omega]
      exact ⟨rfl, rfl, rfl⟩
theorem runL_ids : ∀ n, idsL (runL n) = []
  | 0 => rfl
  | n + 1 => by rw [runL, idsL_app, runL_ids n]; rfl
theorem runL_len : ∀ n, (runL n).length = n * 4
  | 0 => rfl
  | n + 1 => by rw [runL, List.length_append, runL_len n]; simp; omega
def ownR2 (fs : List AV) (i : Nat) : Own := ownR (civL 10000) (.cells fs true none) i
theorem ownR_n (cs : List AV) (fb : AObj) : ∀ i, 2 ≤ (ownR cs fb i).n
  | 0 => Nat.le_refl _
  | n + 1 => by show 2 ≤ 3; decide
theorem lv14 : LoopVOK Tryz.prog (cfgS cfg M2) (Cw cfg []) (lb 14 0) 40 [3,4,5] v14 := by
  intro vs o t Q hv hq J
  unfold v14 at hv
  split at hv
  · rename_i n i cs fs
    cases hv
    obtain ⟨h1, hq1⟩ := asrts_wp hq
    obtain ⟨h2, hq2⟩ := asrts_wp hq1
    obtain ⟨h3, hq3⟩ := asrts_wp hq2
    obtain ⟨h4, hq4⟩ := asrts_wp hq3
    clear hq hq1 hq2 hq3
    rw [q_beq_t] at h1
    rw [q_eq_t] at h2
    rw [isCiv_iff] at h3
    rw [noIds_iff] at h4
    subst h1 h2
    have hq : Q (.exit 0, [.slice 16 0 10000 (.rest 0), .slice 15 0 10000 (.rest 0), .int .i64 10000], ⟨3, [.cells (runL 10000) true (some 4), .cells cs true (some 3), .cells fs true none], []⟩) := hq4
    have hat : ∀ {i : Nat}, i < 10000 → cs.getD (i * 3) (.tuple []) = .int .i64 (i : Int) ∧ cs.getD (i * 3 + 1) (.tuple []) = .int .i64 0 ∧ cs.getD (i * 3 + 2) (.tuple []) = .int .i64 0 := fun h => by rw [h3]; exact civL_at h
    have hids : idsL cs = [] := by rw [h3]; exact civL_ids _
    clear h3 hq4
    refine lvOK M2_ok rfl rfl lok_none (ι := {i : Nat // i ≤ 10000}) (fun x => [outR x.1, .slice 15 0 10000 (.rest 0), .int .i64 (x.1 : Int)]) (fun x => ownR cs (.cells fs true none) x.1) (fun x => 10000 - x.1) 2 (fun x => ownR_n _ _ x.1) (fun x J => ?_) (Nat.le_refl _) (fun J => Wk.refl ⟨⟨0, Nat.zero_le _⟩, J, rfl⟩) J
    obtain ⟨i, hi⟩ := x
    dsimp only
    have blB : ∀ z ∈ [.cells cs true (some 3), .cells fs true none], LowO (14 + 2) z := fun z hz => by
      simp only [List.mem_cons, List.not_mem_nil, or_false] at hz
      rcases hz with rfl | rfl
      · exact low_plain hids
      · exact low_plain h4
    have xl : ∀ n, LowO (14 + 2) (.cells (runL n) true (some 4)) := fun n => low_plain (runL_ids n)
    cases i with
    | zero =>
      refine wp_gen fun Q' hQ => askA_wp ((r14n J cs (.cells fs true none) 0 (by omega)).mpr ?_)
      obtain ⟨a0, a1, a2⟩ := hat (i := 0) (by omega)
      have go : Q' (.normal, [.slice 17 0 1 (.rest 0), .slice 15 0 10000 (.rest 0), .int .i64 1], ⟨4, [.cells [.int .i8 0, .int .i64 (stY 0), .int .i8 0, .int .i64 (enY 0)] true (some 4), .cells [.int .i8 0, .int .i64 (stY 0), .int .i8 0, .int .i64 (enY 0)] true none, .cells cs true (some 3), .cells fs true none], []⟩) :=
        hQ (.normal, _, _) ⟨⟨1, by omega⟩, by dsimp only; omega, vw_lastN (x := .cells (runL 1) true (some 4)) (mid := [.cells [.int .i8 0, .int .i64 (stY 0), .int .i8 0, .int .i64 (enY 0)] true none]) (B := [.cells cs true (some 3), .cells fs true none]) rfl rfl rfl blB (xl 1) rfl⟩
      clear hQ hq hat
      simp only [Nat.zero_mul, Nat.zero_add, Nat.add_zero] at a0 a1 a2 ⊢
      rw [a0, a1, a2]
      simp only [q_all, reduceCtorEq, loK, hiK, ne_eq]
      (repeat' first | exact trivial | refine ⟨?_, ?_⟩ | intro) <;> first | omega | rfl | exact go | (rename_i h; exact absurd h (by decide))
    | succ k =>
      refine wp_gen fun Q' hQ => askA_wp ((r14s J cs (runL (k + 1)) (.cells fs true none) (k + 1) (k + 1) (by omega) (by omega)).mpr ?_)
      have hl := runL_len (k + 1)
      have go : k + 1 < 10000 → Q' (.normal, [.slice 18 0 (k + 1 + 1) (.rest 0), .slice 15 0 10000 (.rest 0), .int .i64 (((k + 1 : Nat) : Int) + 1)], ⟨5, [.cells (runL (k + 1) ++ [.int .i8 0, .int .i64 (stY ((k + 1 : Nat) : Int)), .int .i8 0, .int .i64 (enY ((k + 1 : Nat) : Int))]) true (some 4), .cells [.int .i8 0, .int .i64 (stY ((k + 1 : Nat) : Int)), .int .i8 0, .int .i64 (enY ((k + 1 : Nat) : Int))] true none, .dead, .cells cs true (some 3), .cells fs true none], []⟩) := fun hk =>
        hQ (.normal, _, _) ⟨⟨k + 2, by omega⟩, by dsimp only; omega, vw_lastN (x := .cells (runL (k + 2)) true (some 4)) (mid := [.cells [.int .i8 0, .int .i64 (stY ((k + 1 : Nat) : Int)), .int .i8 0, .int .i64 (enY ((k + 1 : Nat) : Int))] true none, .dead]) (B := [.cells cs true (some 3), .cells fs true none]) rfl rfl rfl blB (xl _) rfl⟩
      have fin : ¬ k + 1 < 10000 → Q' (.exit 0, [.slice 16 0 (k + 1) (.rest 0), .slice 15 0 10000 (.rest 0), .int .i64 ((k + 1 : Nat) : Int)], ⟨3, [.cells (runL (k + 1)) true (some 4), .cells cs true (some 3), .cells fs true none], []⟩) := fun hk => by
        have e : k + 1 = 10000 := by omega
        exact hQ (.exit 0, _, _) ⟨_, _, VW.of_eq (by rw [e]; rfl) (by rw [e]), hq⟩
      clear hQ hq
      generalize runL (k + 1) = rv at *
      by_cases hk : k + 1 < 10000
      · obtain ⟨a0, a1, a2⟩ := hat hk
        have go := go hk
        clear hat fin
        simp only [Nat.zero_add, Nat.add_zero, Bool.and_true, Bool.true_and] at a0 a1 a2 ⊢
        rw [a0, a1, a2]
        have i0 : intOf (.int .i64 ((k + 1 : Nat) : Int)) = ((k + 1 : Nat) : Int) := rfl
        have i1 : intOf (.int .i64 0) = 0 := rfl
        have ka : ∀ n : Int, isKA .i64 (.int .i64 n) = true := fun n => rfl
        simp only [i0, i1, ka]
        simp only [q_all, reduceCtorEq, loK, hiK, ne_eq]
        (repeat' first | exact trivial | refine ⟨?_, ?_⟩ | intro) <;> first | omega | exact go | (exfalso; simp_all; done)
      · have fin := fin hk
        clear hat go
        generalize cs.getD _ _ = g0
        simp only [q_all, reduceCtorEq, loK, hiK, ne_eq]
        (repeat' first | exact trivial | refine ⟨?_, ?_⟩ | intro) <;> first | omega | exact fin | (exfalso; omega)
  · cases hv
theorem M3_ok : SumsOK Tryz.prog cfg M3 := by
  refine sums_addG M2_ok (win_ok good0.lv ro0 fun args ws t r he hr => ?_)
  unfold w14 at he
  split at he
  · rename_i k s e g mo da x y z p a b c d
    cases he
    obtain ⟨k0, hr⟩ := asrts_run hr
    obtain ⟨k1, hr⟩ := asrts_run hr
    obtain ⟨k2, hr⟩ := asrts_run hr
    obtain ⟨k3, hr⟩ := asrts_run hr
    obtain ⟨k4, hr⟩ := asrts_run hr
    obtain ⟨k5, hr⟩ := asrts_run hr
    obtain ⟨k6, hr⟩ := asrts_run hr
    obtain ⟨k7, hr⟩ := asrts_run hr
    obtain ⟨k8, hr⟩ := asrts_run hr
    obtain ⟨j1, hr⟩ := asrts_run hr
    obtain ⟨j2, hr⟩ := asrts_run hr
    obtain ⟨j3, hr⟩ := asrts_run hr
    obtain ⟨j4, hr⟩ := asrts_run hr
    obtain ⟨j5, hr⟩ := asrts_run hr
    rw [q_eq_t] at k0 k2 k3 k6 k7 k8 j1 j2 j3 j4 j5
    rw [bytesEq_beq, beq_iff_eq] at k1 k4 k5
    subst k0 k1 k2 k3 k4 k5 k6 k7 k8 j1 j2 j3 j4 j5
    have hr : Tr.run (.ret (.slice 14 0 10000 (.rest 0), [.cells (runL 10000) true (some 4)])) = some r := hr
    cases hr
    refine ⟨?_, fun x hx => ?_⟩
    · refine fwOK M2_ok (L := L14) body14 (by simp) (lok_at loops14 fun i hi e he st Q hw => ?_) (wp_gen fun Q' hQ => askA_wp (b14.mpr ?_))
      · have hi : i = 0 := by simp at hi; omega
        subst hi
        cases he
        exact loopE_ok (base0.good M2_ok) (by decide) rfl lv14 hw
      · have hc : isCiv (civL 10000) = true := isCiv_iff.2 rfl
        refine ⟨fun _ _ => hQ _ (EndW.last (k := 2) rfl rfl (low_plain (runL_ids _)) rfl), fun h => ?_⟩
        rw [hc] at h; cases h
    · simp only [List.mem_singleton] at hx
      subst hx
      exact low_plain (runL_ids _)
  · cases he
end Go.Ev
