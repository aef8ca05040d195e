/- All that is known of the seat's program beside what it computes: the base of the layers. -/
import Derived.Test.YticbodgiogmldaaGreatDoorEe3
set_option linter.all false
set_option maxRecDepth 100000
namespace Go.Ev
open Go Go.Proofs
theorem cnt_run (s : List UInt8) (n : Int) (hn : (ByteArray.mk ⟨s⟩).foldl (fun (n : Int) x => if x == (88 : UInt8) then n + 1 else n) ((0 : Nat) : Int) = n) (w : World) : (callFunc 260 #[.string ⟨⟨s⟩⟩, .int .u8 88]).run Tryz.prog w = .ok (.value (.int .i64 n)) w := by
  have h1 : Extern.findNext Tryz.f260 = none := by kernel_rfl
  have h2 : Extern.find Tryz.f260 = some Extern.BytealgCount.count := by kernel_rfl
  have h3 : Tryz.f260.body.isNone = true := by kernel_rfl
  have h4 : (Tryz.f260.name == "runtime.NumGoroutine") = false := by kernel_rfl
  rw [run_callFunc_extern Tryz.func260 h4 h3 h1 h2]
  have hb : (Extern.Bytes.asByte (.int .u8 88)).run Tryz.prog w = .ok (88 : UInt8) w := rfl
  have hx : ∀ x y, Extern.BytealgCount.count #[x, y] = (do
      let b ← Extern.Bytes.bytesOf x
      let c ← Extern.Bytes.asByte y
      pure (Go.goInt (b.foldl (fun n x => if x == c then n + 1 else n) (0 : Nat)))) := fun _ _ => rfl
  rw [hx]
  simp only [Extern.Bytes.bytesOf, Sem.run_bind, Sem.run_pure, Result.andThen_ok, hb, hn]
  rfl
theorem cnt_fact {cfg : Cfg} {s : List UInt8} {n : Int} (hn : (ByteArray.mk ⟨s⟩).foldl (fun (n : Int) x => if x == (88 : UInt8) then n + 1 else n) ((0 : Nat) : Int) = n) : Fact Tryz.prog cfg 260 [.str s, .int .u8 88] (.int .i64 n) := fun C D m o w hi hok =>
  .inr ⟨.int .i64 (n : Int), w, by simpa [concL, conc] using cnt_run s n hn w, by simp [conc], okV_none (by simp [idsA]), Ext.refl hi, ⟨fun _ _ => rfl, fun i h1 h2 => absurd h1 h2⟩⟩
noncomputable def memo0 : Memo := (.node none .nil (.node none (.node none .nil (.node none (.node none (.node none (.node none (.node none (.node (some [([.str [88, 88, 88, 88], .int .u8 88], .int .i64 4), ([.str [48, 48, 48, 88], .int .u8 88], .int .i64 1)]) .nil .nil) .nil) .nil) .nil) .nil) .nil)) .nil))
noncomputable def cfg0 : Cfg := cfgM (cfgX cfg M4) memo0
theorem memo0_ok : TbAll (fun f l => ∀ e ∈ l, Fact Tryz.prog (cfgX cfg M4) f e.1 e.2) (fun i => i) memo0 := ⟨none_all, trivial, ⟨none_all, ⟨none_all, trivial, ⟨none_all, ⟨none_all, ⟨none_all, ⟨none_all, ⟨none_all, ⟨(some_all (fact_cons (cnt_fact rfl) (fact_cons (cnt_fact rfl) fact_nil))), trivial, trivial⟩, trivial⟩, trivial⟩, trivial⟩, trivial⟩, trivial⟩⟩, trivial⟩⟩
theorem goodB : Good Tryz.prog tab cfg0 := (Good.sums good0 M4_ok).memo fun f l h => memo0_ok.get f l h
end Go.Ev
