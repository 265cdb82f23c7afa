import Derived.Test.YtnacifjcjnhgpaaGreatDoorRows
import Derived.JoinedOf
set_option linter.all false
set_option maxRecDepth 100000
set_option maxHeartbeats 400000000
namespace Go.Proofs.YtnacifjcjnhgpaaGreatDoor
open Go
theorem bandI {a b : Bool} (ha : a = true) (hb : b = true) : (a && b) = true := by rw [ha, hb]; rfl
theorem driveFaults_closed : joinedFacts Tryz.prog 3 Tryz.f3 Rows.driveFaultsSpec Rows.driveFaultsRow = true := by
  unfold joinedFacts
  repeat' (with_reducible apply bandI)
  all_goals (as_aux_lemma => kernel_rfl)
end Go.Proofs.YtnacifjcjnhgpaaGreatDoor
