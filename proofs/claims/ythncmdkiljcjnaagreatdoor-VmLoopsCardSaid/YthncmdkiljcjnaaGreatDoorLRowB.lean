import Derived.Test.YthncmdkiljcjnaaGreatDoorLRow
import Derived.Test.YthncmdkiljcjnaaGreatDoorLFacts
set_option linter.all false
set_option maxRecDepth 100000
set_option maxHeartbeats 400000000
namespace Go.Proofs.YthncmdkiljcjnaaGreatDoor
open Go Go.Am Go.ChangeShapes Go.WideShapes Go.ChangeAt Go.RowKit
theorem vmLoops_row_holds (hlaw : ∀ (n ask : Int), ∃ h', CallOk Tryz.prog 5 [.int .i64 n, .int .i64 ask] Heap.empty (.ret (.bool true)) h') : Rows.VmLoopsSaid :=
  OpenClaim.holds_of_wide 5 Tryz.f5 rfl rfl rfl rfl rfl rfl rfl ⟨rfl, rfl, rfl, rfl, rfl⟩ rfl rfl rfl rfl rfl (by as_aux_lemma => kernel_rfl) Tryz.func5 vmLoops_closed
    (of_decide_eq_true (by as_aux_lemma => kernel_rfl)) (by unfold Func.isWrapper; first | (rw [if_pos (by decide +kernel)]; kernel_rfl) | (rw [if_neg (by decide +kernel)]; exact ⟨rfl, rfl⟩))
    (fun os started H enc _ => vmLoops_lifted hlaw os started H enc)
end Go.Proofs.YthncmdkiljcjnaaGreatDoor
