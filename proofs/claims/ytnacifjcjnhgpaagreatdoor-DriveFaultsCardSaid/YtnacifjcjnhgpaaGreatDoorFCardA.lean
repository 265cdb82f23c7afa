import Derived.Test.YtnacifjcjnhgpaaGreatDoorCards
import Derived.ProofKit
import Derived.JoinedOf
set_option linter.all false
set_option maxRecDepth 100000
set_option maxHeartbeats 400000000
namespace Go.Proofs.YtnacifjcjnhgpaaGreatDoor
open Go
theorem goesBy_none {P : Program} (h : P.funcs.any Func.goes = false) (c : OpenClaim) (hs : c.start = .entering) : false = c.goesBy P := by
  have hg : ∀ g : Nat, (P.funcs[g]?).any Func.goes = false := fun g => by
    rw [Array.any_eq_false] at h
    cases hq : P.funcs[g]? with
    | none => rfl
    | some x =>
      obtain ⟨hl, he⟩ := Array.getElem?_eq_some_iff.1 hq
      have := h g hl
      rw [he] at this
      simpa using this
  have hf : ∀ f, P.goes f = false := fun f => by
    unfold Program.goes
    rw [h]
    simp [hg]
  unfold OpenClaim.goesBy Program.goesAt Program.goesFrom
  rw [hs]
  cases P.funcNamed c.func with
  | none => rfl
  | some f => simp [hf]
theorem goes0 : Tryz.prog.funcs.any Func.goes = false := by kernel_rfl
theorem driveFaults_goes : false = Rows.driveFaultsRow.goesBy Tryz.prog := goesBy_none goes0 _ rfl
theorem driveFaults_wf : Rows.driveFaultsRow.wfByText (OpenSpec.ofChange Rows.driveFaultsSpec) = true := by kernel_rfl
theorem driveFaults_named : Tryz.prog.funcNamed "wainwright/wainwrightlaw26.DriveFaults" = some 3 := by kernel_rfl
theorem main_is : Tryz.prog.mainIs = some (true, "b57536e429c890eb0efe131a643641463df10259e21664776dd6fc9dd2edc740".toList) := by kernel_rfl
theorem looks_are : true = Tryz.prog.looks [] := by kernel_rfl
end Go.Proofs.YtnacifjcjnhgpaaGreatDoor
