import Derived.Test.YtpcijpelimgnmaaGreatDoorCRow
import Derived.Test.YtpcijpelimgnmaaGreatDoorCFacts
set_option linter.all false
set_option maxRecDepth 100000
set_option maxHeartbeats 400000000
namespace Go.Proofs.YtpcijpelimgnmaaGreatDoor
open Go Go.Am Go.ChangeShapes Go.WideShapes Go.ChangeAt Go.RowKit
theorem driveSecond_row_holds (hlaw : ∀ (a : Int) (b : Bool), ∃ h', CallOk Tryz.prog 3 [.int .i64 a, .bool b] Heap.empty (.ret (.bool true)) h') : Rows.DriveSecondSaid :=
  OpenClaim.holds_of_wide 3 Tryz.f3 rfl rfl rfl rfl rfl rfl rfl ⟨rfl, rfl, rfl, rfl, rfl⟩ rfl rfl rfl rfl rfl (by as_aux_lemma => kernel_rfl) Tryz.func3 driveSecond_closed
    (of_decide_eq_true (by as_aux_lemma => kernel_rfl)) (by unfold Func.isWrapper; first | (rw [if_pos (by decide +kernel)]; kernel_rfl) | (rw [if_neg (by decide +kernel)]; exact ⟨rfl, rfl⟩))
    (fun os started H enc _ => driveSecond_lifted hlaw os started H enc)
end Go.Proofs.YtpcijpelimgnmaaGreatDoor
