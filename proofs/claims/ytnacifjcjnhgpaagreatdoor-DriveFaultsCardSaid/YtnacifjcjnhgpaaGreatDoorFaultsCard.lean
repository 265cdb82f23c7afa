/- What is proved: the law DriveFaults answers true for every pair of numbers (what may not be, behind so many lines: its error, its file, its line). Conditions: the listed package-level variables hold what the program's text lays (tied by the given tie). -/
import Derived.Test.YtnacifjcjnhgpaaGreatDoorFRowB
import Derived.Test.YtnacifjcjnhgpaaGreatDoorFCardA
import Derived.Test.YtnacifjcjnhgpaaGreatDoorFMem
set_option linter.all false
set_option maxRecDepth 100000
set_option maxHeartbeats 400000000
namespace Go.Proofs.YtnacifjcjnhgpaaGreatDoor
open Go
theorem driveFaults_card_holds : Rows.DriveFaultsCardSaid :=
  Claim7.holds_tied_plain_at .later [] [.data, .data, .data, .data, .handle, .sentinel, .sentinel, .pinned] true (true, "b57536e429c890eb0efe131a643641463df10259e21664776dd6fc9dd2edc740") true
    (driveFaults_row_holds Go.Am.law) (fun _ h => by cases h) driveFaults_wf (fun _ h => by cases h) driveFaults_row_tie rfl ⟨rfl, rfl⟩ main_is rfl
    (fun f fn hf hfn => by
      obtain rfl : f = 3 := Option.some.inj (driveFaults_named.symm.trans hf) |>.symm
      obtain rfl : fn = Tryz.f3 := (Option.some.inj (Tryz.func3.symm.trans hfn)).symm
      exact ⟨looks_are, fun j t ht => by
        rw [Tryz.params3] at ht
        have h3 : t = 3 := by
          rcases j with _ | _ | j
          · simpa using ht.symm
          · simpa using ht.symm
          · simp at ht
        subst h3
        exact (show Tryz.prog.wantsStandIn 3 = false by as_aux_lemma => kernel_rfl)⟩)
    driveFaults_goes
end Go.Proofs.YtnacifjcjnhgpaaGreatDoor
