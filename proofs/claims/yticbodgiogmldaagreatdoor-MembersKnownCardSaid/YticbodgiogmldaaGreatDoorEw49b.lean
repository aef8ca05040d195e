/- circalaw26.MembersKnown: the witness. -/
import Derived.Test.YticbodgiogmldaaGreatDoorEw49a
import Derived.Deep.DeepWitnessRowRef
set_option linter.all false
namespace Go.Proofs.YticbodgiogmldaaGreatDoor.fnMembersKnown
open Go.ChangeShapes Go.WideShapes Go.ChangeAt Go.RowKit
set_option maxRecDepth 100000

/-- The cells that a datum of numbers stands for. -/
def flat : Nat → DataW Unit → List Value
  | 0, _ => []
  | d + 1, .agg xs => xs.flatMap (flat d)
  | _, .lit (.int k n) => [.int k n]
  | _, _ => []
def setC (h : Array Obj) (b : Nat) (c : List Value) : Array Obj := h.modify b fun
  | .cells _ t frozen => .cells c.toArray t frozen
  | o => o
def tabs (B : Nat) : List (Nat × List Value) := [(9, [.int .u8 (0), .int .u8 (1), .int .u8 (28), .int .u8 (2), .int .u8 (29), .int .u8 (14), .int .u8 (24), .int .u8 (3), .int .u8 (30), .int .u8 (22), .int .u8 (20), .int .u8 (15), .int .u8 (25), .int .u8 (17), .int .u8 (4), .int .u8 (8), .int .u8 (31), .int .u8 (27), .int .u8 (13), .int .u8 (23), .int .u8 (21), .int .u8 (19), .int .u8 (16), .int .u8 (7), .int .u8 (26), .int .u8 (12), .int .u8 (18), .int .u8 (6), .int .u8 (11), .int .u8 (5), .int .u8 (10), .int .u8 (9)]),
  (10, [.int .u8 (0), .int .u8 (1), .int .u8 (56), .int .u8 (2), .int .u8 (57), .int .u8 (49), .int .u8 (28), .int .u8 (3), .int .u8 (61), .int .u8 (58), .int .u8 (42), .int .u8 (50), .int .u8 (38), .int .u8 (29), .int .u8 (17), .int .u8 (4), .int .u8 (62), .int .u8 (47), .int .u8 (59), .int .u8 (36), .int .u8 (45), .int .u8 (43), .int .u8 (51), .int .u8 (22), .int .u8 (53), .int .u8 (39), .int .u8 (33), .int .u8 (30), .int .u8 (24), .int .u8 (18), .int .u8 (12), .int .u8 (5), .int .u8 (63), .int .u8 (55), .int .u8 (48), .int .u8 (27), .int .u8 (60), .int .u8 (41), .int .u8 (37), .int .u8 (16), .int .u8 (46), .int .u8 (35), .int .u8 (44), .int .u8 (21), .int .u8 (52), .int .u8 (32), .int .u8 (23), .int .u8 (11), .int .u8 (54), .int .u8 (26), .int .u8 (40), .int .u8 (15), .int .u8 (34), .int .u8 (20), .int .u8 (31), .int .u8 (10), .int .u8 (25), .int .u8 (14), .int .u8 (19), .int .u8 (9), .int .u8 (13), .int .u8 (8), .int .u8 (7), .int .u8 (6)]),
  (8, [.int .u64 (1), .int .u64 (10), .int .u64 (100), .int .u64 (1000), .int .u64 (10000), .int .u64 (100000), .int .u64 (1000000), .int .u64 (10000000), .int .u64 (100000000), .int .u64 (1000000000), .int .u64 (10000000000), .int .u64 (100000000000), .int .u64 (1000000000000), .int .u64 (10000000000000), .int .u64 (100000000000000), .int .u64 (1000000000000000), .int .u64 (10000000000000000), .int .u64 (100000000000000000), .int .u64 (1000000000000000000), .int .u64 (10000000000000000000)]),
  (7, [.int .u8 (128), .int .u8 (191), .int .u8 (160), .int .u8 (191), .int .u8 (128), .int .u8 (159), .int .u8 (144), .int .u8 (191), .int .u8 (128), .int .u8 (143), .int .u8 (0), .int .u8 (0), .int .u8 (0), .int .u8 (0), .int .u8 (0), .int .u8 (0), .int .u8 (0), .int .u8 (0), .int .u8 (0), .int .u8 (0), .int .u8 (0), .int .u8 (0), .int .u8 (0), .int .u8 (0), .int .u8 (0), .int .u8 (0), .int .u8 (0), .int .u8 (0), .int .u8 (0), .int .u8 (0), .int .u8 (0), .int .u8 (0)]),
  (4, [.iface 319 (.pointer (some ⟨B + 0, 0, none⟩))]),
  (3, [.iface 319 (.pointer (some ⟨B + 1, 0, none⟩))]),
  (5, [.slice (some ⟨B + 2, 0, none⟩) 3 3]),
  (1, [.int .i64 (31), .int .i64 (28), .int .i64 (31), .int .i64 (30), .int .i64 (31), .int .i64 (30), .int .i64 (31), .int .i64 (31), .int .i64 (30), .int .i64 (31), .int .i64 (30), .int .i64 (31)]),
  (2, [.int .i64 (3), .int .i64 (3), .int .i64 (6), .int .i64 (3), .int .i64 (9), .int .i64 (3), .int .i64 (12), .int .i64 (3), .int .i64 (3), .int .i64 (3), .int .i64 (6), .int .i64 (3), .int .i64 (9), .int .i64 (3), .int .i64 (12), .int .i64 (3), .int .i64 (9), .int .i64 (3), .int .i64 (12), .int .i64 (3), .int .i64 (3), .int .i64 (3), .int .i64 (6), .int .i64 (3), .int .i64 (1), .int .i64 (3), .int .i64 (4), .int .i64 (3), .int .i64 (7), .int .i64 (3), .int .i64 (10), .int .i64 (3), .int .i64 (1), .int .i64 (4), .int .i64 (5), .int .i64 (4), .int .i64 (9), .int .i64 (4), .int .i64 (1), .int .i64 (6), .int .i64 (7), .int .i64 (6)]),
  (6, flat 9 Go.Pinned.utf8First)]
def more (B : Nat) : List Obj := [.cells #[.string ⟨#[118, 97, 108, 117, 101, 32, 111, 117, 116, 32, 111, 102, 32, 114, 97, 110, 103, 101]⟩] 321 (0, 0), .cells #[.string ⟨#[105, 110, 118, 97, 108, 105, 100, 32, 115, 121, 110, 116, 97, 120]⟩] 321 (0, 0), .cells #[.int .i64 (4), .int .i64 (1), .int .i64 (100), .int .i64 (-1), .int .i64 (400), .int .i64 (1)] 315 (0, 0)]
noncomputable def laidHeap (h : Array Obj) : Array Obj := ((tabs h.size).foldl (fun h p => setC h p.1 p.2) h) ++ (more h.size).toArray
/-- A world for the witness: the settled one, the listed variables holding what their initialisers lay. -/
noncomputable def laidWorld (os : Os) : World := { World.holding Tryz.prog os ⟨#[], #[], []⟩ with heap := laidHeap (World.holding Tryz.prog os ⟨#[], #[], []⟩).heap }
theorem laid_met (os : Os) : laidMet Tryz.prog Rows.membersKnownRow.laid ((laidWorld os).forCall (fun _ _ => 0) ⟨#[], #[], []⟩).memory :=
  laidMet_of_run' 8 (by kernel_rfl) (by kernel_rfl)
theorem reads (os : Os) {H : Type} (enc : TypeId × Value → H) : ∃ places, DataW.whole enc Tryz.prog ((laidWorld os).forCall (fun _ _ => 0) ⟨#[], #[], []⟩).memory Tryz.f3.params.toList Rows.membersKnownSpec.vars false (#[] : Array Value).toList 8 = some ([], [], places) :=
  ⟨[], by kernel_rfl⟩

theorem shaped (os : Os) : ((laidWorld os).forCall (fun _ _ => 0) ⟨#[], #[], []⟩).variablesRefB Tryz.checked.prog = true := by kernel_rfl
theorem restB (os : Os) : (((laidWorld os).forCall (fun _ _ => 0) ⟨#[], #[], []⟩).heap.toList.drop Tryz.checked.prog.globals.size).take ((begin Tryz.checked.prog (fun _ _ => 0) default).world.heap.size - Tryz.checked.prog.globals.size) =
      (begin Tryz.checked.prog (fun _ _ => 0) default).world.heap.toList.drop Tryz.checked.prog.globals.size := by kernel_rfl
theorem argsB (os : Os) : Input.okWideB Tryz.checked.prog ((laidWorld os).forCall (fun _ _ => 0) ⟨#[], #[], []⟩) 3 ⟨#[], #[], []⟩ = true := by kernel_rfl
end Go.Proofs.YticbodgiogmldaaGreatDoor.fnMembersKnown
