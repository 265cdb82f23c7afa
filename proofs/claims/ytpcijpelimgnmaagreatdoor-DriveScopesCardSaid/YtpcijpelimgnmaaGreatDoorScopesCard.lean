/- What is proved: the law DriveScopes answers true for every pair of numbers (variables of targets: who sees which). Conditions: the listed package-level variables hold what the program's text lays (tied by the given tie). -/
import Derived.Test.YtpcijpelimgnmaaGreatDoorSRowB
import Derived.Test.YtpcijpelimgnmaaGreatDoorSCardA
import Derived.Test.YtpcijpelimgnmaaGreatDoorSMem
set_option linter.all false
set_option maxRecDepth 100000
set_option maxHeartbeats 400000000
namespace Go.Proofs.YtpcijpelimgnmaaGreatDoor
open Go
theorem driveScopes_card_holds : Rows.DriveScopesCardSaid :=
  Claim7.holds_tied_plain_at .later [] [.data, .data, .data, .data, .handle, .sentinel, .sentinel, .pinned] true (true, "6f9237cd995dfab840b099ef0c4028cb23e475114885a67826396f9edf201be4") true
    (driveScopes_row_holds Go.Am.law) (fun _ h => by cases h) driveScopes_wf (fun _ h => by cases h) driveScopes_row_tie rfl ⟨rfl, rfl⟩ main_is rfl
    (fun f fn hf hfn => by
      obtain rfl : f = 4 := Option.some.inj (driveScopes_named.symm.trans hf) |>.symm
      obtain rfl : fn = Tryz.f4 := (Option.some.inj (Tryz.func4.symm.trans hfn)).symm
      exact ⟨looks_are, fun j t ht => by
        rw [Tryz.params4] at ht
        have h3 : t = 3 := by
          rcases j with _ | _ | j
          · simpa using ht.symm
          · simpa using ht.symm
          · simp at ht
        subst h3
        exact (show Tryz.prog.wantsStandIn 3 = false by as_aux_lemma => kernel_rfl)⟩)
    driveScopes_goes
end Go.Proofs.YtpcijpelimgnmaaGreatDoor
