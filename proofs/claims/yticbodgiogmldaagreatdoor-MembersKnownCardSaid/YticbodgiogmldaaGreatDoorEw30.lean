/- The program's levels, its functions of plain values, and the functions that are known. -/
import Derived.Test.YticbodgiogmldaaGreatDoorEw29
import Derived.Test.YticbodgiogmldaaGreatDoorEw31
import Derived.KernelRfl
set_option linter.all false
namespace Go.Ev
open Go Go.Proofs
def i64 (n : Int) : AV := .int .i64 n
def g0 : Own := ⟨14, [
  .dead, .dead,
  .cells [i64 4, i64 1, i64 100, i64 (-1), i64 400, i64 1] false none,
  .dead, .dead, .dead, .dead, .dead,
  .cells [.slice 11 0 3 (.known 3)] false none,
  .cells [.iface 319 (.ptr 13 0)] false (some 1),
  .cells [.iface 319 (.ptr 12 0)] false (some 1),
  .cells ([3,3, 6,3, 9,3, 12,3, 3,3, 6,3, 9,3, 12,3, 9,3, 12,3, 3,3, 6,3, 1,3, 4,3, 7,3, 10,3, 1,4, 5,4, 9,4, 1,6, 7,6].map i64) false none,
  .cells ([31,28,31,30,31,30,31,31,30,31,30,31].map i64) false none,
  .dead], []⟩
def C0 : Ctx := ⟨[(0, g0)], 14⟩
def lend (f : Nat) : List Nat := bif (Nat.beq f 140 || Nat.beq f 188 || Nat.beq f 240 || Nat.beq f 96) then [0] else bif (Nat.beq f 135 || Nat.beq f 136 || Nat.beq f 137) then [1] else []
def canonMask : Nat := 257264397109305404226653614088732155765310367190940777771872553754178495673951541780913409965944
def canon (f : Nat) : Bool := Nat.testBit canonMask f
def addO (a b : Int) (o : Own) : Option (AV × Own) := ok (intLe (-9223372036854775808) (a + b) && intLe (a + b) 9223372036854775807) (some (.tuple [outI .i64 (a + b), i64 0], o))
def add : List AV → Own → Option (AV × Own)
  | [.int k a, .int l b], o => ok (sameK k .i64 && sameK l .i64) (addO a b o)
  | _, _ => none
def idxByte (c : Int) : List UInt8 → Nat → Int
  | [], _ => -1
  | b :: s, k => bif intEq (.ofNat b.toNat) c then .ofNat k else idxByte c s (k + 1)
def ixb : List AV → Own → Option (AV × Own)
  | [.str s, .int k (.ofNat c)], o => ok (sameK k .u8 && natLt c 256) (some (outI .i64 (idxByte (.ofNat c) s 0), o))
  | _, _ => none
def cln : List AV → Own → Option (AV × Own)
  | [.str s], o => ok (Nat.ble s.length 1000000) (some (.str s, o))
  | _, _ => none
def orc (f : Nat) (C : Ctx) (args : List AV) (o : Own) : Option (AV × Own) :=
  bif Nat.beq f 190 then add args o else bif Nat.beq f 251 then ixb args o else bif Nat.beq f 256 then cln args o else none
def cfg : Cfg := ⟨11, lend, canon, orc, g0⟩
noncomputable def run (f : Nat) (args : List AV) : Option (AV × Own) := callA tab cfg false (codeA tab cfg 10000) C0 f args ⟨0, [], []⟩
def isI (n : Int) : Option (AV × Own) → Bool
  | some (.int _ m, _) => intEq m n
  | _ => false
def isB : Option (AV × Own) → Bool
  | some (.bool b, _) => b
  | _ => false
def isS : Option (AV × Own) → Bool
  | some _ => true
  | _ => false
end Go.Ev
