import Derived.Test.YthncmdkiljcjnaaGreatDoorRowB
import Derived.Test.YthncmdkiljcjnaaGreatDoorEnv
import Derived.Test.YthncmdkiljcjnaaGreatDoorCaseAll
set_option linter.all false
set_option maxRecDepth 100000
set_option maxHeartbeats 400000000
namespace Go.Am
open Go Go.Proofs
theorem law3 (n ask : Int) : ∃ h', CallOk Tryz.prog 3 [.int .i64 n, .int .i64 ask] Heap.empty (.ret (.bool true)) h' := by
  obtain ⟨k, hk, ek⟩ := placeF_lt n 12 (by decide)
  obtain ⟨j, hj, ej⟩ := placeF_lt ask 14 (by decide)
  obtain ⟨h', hr⟩ := isT_true (c3_all k j hk hj)
  refine ⟨h', ?_⟩
  have hrun := run3 n ask k j ek ej
  rw [hr] at hrun
  exact ev_ok En4_ok (fns_ok En4 rfl) (fun rec hr => regd_ok En4_ok (by kernel_rfl) hr) 1000 3 _ _ _ _ hrun
end Go.Am
namespace Go.Proofs.YthncmdkiljcjnaaGreatDoor
open Go
theorem vmCalls_card_holds : Rows.VmCallsCardSaid :=
  Claim7.holds_tied_plain_at .later [] [.data, .data, .data, .data, .handle, .sentinel, .sentinel, .pinned] true (true, "8d3ba3126d72c788bede28d6a9182b9f521b3ff2a7dfb8f2ce93714ebb88e771") true
    (vmCalls_row_holds Go.Am.law3) (fun _ h => by cases h) (by as_aux_lemma => kernel_rfl) (fun _ h => by cases h) vmCalls_row_tie rfl ⟨rfl, rfl⟩ (by as_aux_lemma => kernel_rfl) rfl
    (fun f fn hf hfn => by
      obtain rfl : f = 3 := Option.some.inj ((show Tryz.prog.funcNamed "wainwright/wainwrightlaw21.VmCalls" = some 3 by as_aux_lemma => kernel_rfl).symm.trans hf) |>.symm
      obtain rfl : fn = Tryz.f3 := (Option.some.inj (Tryz.func3.symm.trans hfn)).symm
      exact ⟨by as_aux_lemma => kernel_rfl, fun j t ht => by
        rw [Tryz.params3] at ht
        have h3 : t = 3 := by
          rcases j with _ | _ | j
          · simpa using ht.symm
          · simpa using ht.symm
          · simp at ht
        subst h3
        exact (show Tryz.prog.wantsStandIn 3 = false by as_aux_lemma => kernel_rfl)⟩)
    (by as_aux_lemma => kernel_rfl)
end Go.Proofs.YthncmdkiljcjnaaGreatDoor
