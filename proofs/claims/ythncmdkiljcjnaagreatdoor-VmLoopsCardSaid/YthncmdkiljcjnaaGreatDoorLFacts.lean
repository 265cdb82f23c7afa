import Derived.Test.YthncmdkiljcjnaaGreatDoorRows
import Derived.JoinedOf
set_option linter.all false
set_option maxRecDepth 100000
set_option maxHeartbeats 400000000
namespace Go.Proofs.YthncmdkiljcjnaaGreatDoor
open Go
theorem bandI {a b : Bool} (ha : a = true) (hb : b = true) : (a && b) = true := by rw [ha, hb]; rfl
theorem vmLoops_closed : joinedFacts Tryz.prog 5 Tryz.f5 Rows.vmLoopsSpec Rows.vmLoopsRow = true := by
  unfold joinedFacts
  repeat' (with_reducible apply bandI)
  all_goals (as_aux_lemma => kernel_rfl)
end Go.Proofs.YthncmdkiljcjnaaGreatDoor
