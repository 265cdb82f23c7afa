/- What is proved: the law DriveSecond answers true for every number and truth (the second expansion). Conditions: the listed package-level variables hold what the program's text lays (tied by the given tie). -/
import Derived.Test.YtpcijpelimgnmaaGreatDoorCRowB
import Derived.Test.YtpcijpelimgnmaaGreatDoorCCardA
import Derived.Test.YtpcijpelimgnmaaGreatDoorCMem
set_option linter.all false
set_option maxRecDepth 100000
set_option maxHeartbeats 400000000
namespace Go.Proofs.YtpcijpelimgnmaaGreatDoor
open Go
theorem driveSecond_card_holds : Rows.DriveSecondCardSaid :=
  Claim7.holds_tied_plain_at .later [] [.data, .data, .data, .data, .handle, .sentinel, .sentinel, .pinned] true (true, "6f9237cd995dfab840b099ef0c4028cb23e475114885a67826396f9edf201be4") true
    (driveSecond_row_holds Go.Am.law) (fun _ h => by cases h) driveSecond_wf (fun _ h => by cases h) driveSecond_row_tie rfl ⟨rfl, rfl⟩ main_is rfl
    (fun f fn hf hfn => by
      obtain rfl : f = 3 := Option.some.inj (driveSecond_named.symm.trans hf) |>.symm
      obtain rfl : fn = Tryz.f3 := (Option.some.inj (Tryz.func3.symm.trans hfn)).symm
      exact ⟨looks_are, fun j t ht => by
        rw [Tryz.params3] at ht
        have h3 : t = 3 ∨ t = 4 := by
          rcases j with _ | _ | j
          · exact .inl (by simpa using ht.symm)
          · exact .inr (by simpa using ht.symm)
          · simp at ht
        rcases h3 with rfl | rfl
        · exact (show Tryz.prog.wantsStandIn 3 = false by as_aux_lemma => kernel_rfl)
        · exact (show Tryz.prog.wantsStandIn 4 = false by as_aux_lemma => kernel_rfl)⟩)
    driveSecond_goes
end Go.Proofs.YtpcijpelimgnmaaGreatDoor
