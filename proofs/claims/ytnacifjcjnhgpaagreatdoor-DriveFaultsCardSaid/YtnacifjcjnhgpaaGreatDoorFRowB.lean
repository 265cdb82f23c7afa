import Derived.Test.YtnacifjcjnhgpaaGreatDoorFRow
import Derived.Test.YtnacifjcjnhgpaaGreatDoorFFacts
set_option linter.all false
set_option maxRecDepth 100000
set_option maxHeartbeats 400000000
namespace Go.Proofs.YtnacifjcjnhgpaaGreatDoor
open Go Go.Am Go.ChangeShapes Go.WideShapes Go.ChangeAt Go.RowKit
theorem driveFaults_row_holds (hlaw : ∀ (a : Int) (b : Int), ∃ h', CallOk Tryz.prog 3 [.int .i64 a, .int .i64 b] Heap.empty (.ret (.bool true)) h') : Rows.DriveFaultsSaid :=
  OpenClaim.holds_of_wide 3 Tryz.f3 rfl rfl rfl rfl rfl rfl rfl ⟨rfl, rfl, rfl, rfl, rfl⟩ rfl rfl rfl rfl rfl (by as_aux_lemma => kernel_rfl) Tryz.func3 driveFaults_closed
    (of_decide_eq_true (by as_aux_lemma => kernel_rfl)) (by unfold Func.isWrapper; first | (rw [if_pos (by decide +kernel)]; kernel_rfl) | (rw [if_neg (by decide +kernel)]; exact ⟨rfl, rfl⟩))
    (fun os started H enc _ => driveFaults_lifted hlaw os started H enc)
end Go.Proofs.YtnacifjcjnhgpaaGreatDoor
