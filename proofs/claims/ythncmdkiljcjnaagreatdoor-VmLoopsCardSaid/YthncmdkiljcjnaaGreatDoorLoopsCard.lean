/- What is proved: the law VmLoops answers true for every pair of numbers (foreach over so many words, let of so many names). Conditions: the listed package-level variables hold what the program's text lays (tied by the given tie). -/
import Derived.Test.YthncmdkiljcjnaaGreatDoorLRowB
import Derived.Test.YthncmdkiljcjnaaGreatDoorLMem
import Derived.Test.YthncmdkiljcjnaaGreatDoorLAll
set_option linter.all false
set_option maxRecDepth 100000
set_option maxHeartbeats 400000000
namespace Go.Am
open Go Go.Proofs
theorem law5 (n ask : Int) : ∃ h', CallOk Tryz.prog 5 [.int .i64 n, .int .i64 ask] Heap.empty (.ret (.bool true)) h' := by
  obtain ⟨k, hk, ek⟩ := placeF_lt n 30 (by decide)
  obtain ⟨j, hj, ej⟩ := placeF_lt ask 5 (by decide)
  obtain ⟨t21, t22, t23, t65, h21, h22, h23, h65, hr⟩ := k5_all k j hk hj
  obtain ⟨h', hr⟩ := isT_true hr
  refine ⟨h', ?_⟩
  have hE := EnT_ok t21 t22 t23 t65 h21 h22 h23 h65
  have hrun := run5 t21 t22 t23 t65 n ask k j ek ej
  rw [hr] at hrun
  exact ev_ok hE (fns_ok (EnT t21 t22 t23 t65) rfl) (fun rec hr => regd_ok hE (by kernel_rfl) hr) 1000 5 _ _ _ _ hrun
end Go.Am
namespace Go.Proofs.YthncmdkiljcjnaaGreatDoor
open Go
theorem vmLoops_card_holds : Rows.VmLoopsCardSaid :=
  Claim7.holds_tied_plain_at .later [] [.data, .data, .data, .data, .handle, .sentinel, .sentinel, .pinned] true (true, "8d3ba3126d72c788bede28d6a9182b9f521b3ff2a7dfb8f2ce93714ebb88e771") true
    (vmLoops_row_holds Go.Am.law5) (fun _ h => by cases h) (by as_aux_lemma => kernel_rfl) (fun _ h => by cases h) vmLoops_row_tie rfl ⟨rfl, rfl⟩ (by as_aux_lemma => kernel_rfl) rfl
    (fun f fn hf hfn => by
      obtain rfl : f = 5 := Option.some.inj ((show Tryz.prog.funcNamed "wainwright/wainwrightlaw21.VmLoops" = some 5 by as_aux_lemma => kernel_rfl).symm.trans hf) |>.symm
      obtain rfl : fn = Tryz.f5 := (Option.some.inj (Tryz.func5.symm.trans hfn)).symm
      exact ⟨by as_aux_lemma => kernel_rfl, fun j t ht => by
        rw [Tryz.params5] at ht
        have h3 : t = 3 := by
          rcases j with _ | _ | j
          · simpa using ht.symm
          · simpa using ht.symm
          · simp at ht
        subst h3
        exact (show Tryz.prog.wantsStandIn 3 = false by as_aux_lemma => kernel_rfl)⟩)
    (by as_aux_lemma => kernel_rfl)
end Go.Proofs.YthncmdkiljcjnaaGreatDoor
