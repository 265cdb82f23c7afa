import Derived.Test.YtpcijpelimgnmaaGreatDoorRows
import Derived.JoinedOf
set_option linter.all false
set_option maxRecDepth 100000
set_option maxHeartbeats 400000000
namespace Go.Proofs.YtpcijpelimgnmaaGreatDoor
open Go
theorem bandI {a b : Bool} (ha : a = true) (hb : b = true) : (a && b) = true := by rw [ha, hb]; rfl
theorem driveScopes_closed : joinedFacts Tryz.prog 4 Tryz.f4 Rows.driveScopesSpec Rows.driveScopesRow = true := by
  unfold joinedFacts
  repeat' (with_reducible apply bandI)
  all_goals (as_aux_lemma => kernel_rfl)
end Go.Proofs.YtpcijpelimgnmaaGreatDoor
