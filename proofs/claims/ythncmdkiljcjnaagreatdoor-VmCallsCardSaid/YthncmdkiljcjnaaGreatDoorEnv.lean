import Derived.Test.YthncmdkiljcjnaaGreatDoorEntA
import Derived.Test.YthncmdkiljcjnaaGreatDoorEntB
import Derived.Test.YthncmdkiljcjnaaGreatDoorPur
import Derived.Test.YthncmdkiljcjnaaGreatDoorChkOk
set_option linter.all false
set_option maxRecDepth 100000
namespace Go.Am
open Go Go.Proofs

theorem pur_cons {P : Program} {f k : Nat} {g g' : List AV → Option ARes} {rest : Option (List AV → Option ARes)} (hk : PurOk P k g') (hr : rest = some g → PurOk P f g) :
    (bif Nat.beq f k then some g' else rest) = some g → PurOk P f g := by
  intro h
  cases hb : Nat.beq f k with
  | false => rw [hb] at h; exact hr h
  | true => rw [hb] at h; cases h; rw [Nat.eq_of_beq_eq_true hb]; exact hk
theorem entry {E : Env} (hE : EnvOk Tryz.prog E) (hf : E.fns = Tr.get fnNo fnTr) {n f : Nat} {args : List AV} {r : ARes} (h : sealR (ev E n f args Heap.empty) = some r) : MemoOk Tryz.prog f args r :=
  memo_of_run (fun r' h' he => ev_ok hE (fns_ok E hf) (fun rec hr => regd_ok hE (by kernel_rfl) hr) n f args Heap.empty r' h' he) h
theorem mem_cons' {α : Type} {p : α → Prop} {a : α} {l : List α} (h : p a) (hl : ∀ x ∈ l, p x) : ∀ x ∈ a :: l, p x := fun x hx => by
  rcases List.mem_cons.1 hx with rfl | hx
  · exact h
  · exact hl x hx
theorem En1_ok : EnvOk Tryz.prog En1 where
  pur := fun f g => pur_cons gIdx_ok (pur_cons gJoin_ok (fun h => by cases h))
  sum := fun f g h => by cases h
theorem tab40_ok : PurOk Tryz.prog 40 (memoG tab40) := memoG_ok (mem_cons' (entry En1_ok rfl e40_0) (mem_cons' (entry En1_ok rfl e40_1) (mem_cons' (entry En1_ok rfl e40_2) (mem_cons' (entry En1_ok rfl e40_3) (mem_cons' (entry En1_ok rfl e40_4) (mem_cons' (entry En1_ok rfl e40_5) (fun x hx => by cases hx)))))))
theorem En2_ok : EnvOk Tryz.prog En2 where
  pur := fun f g => pur_cons gIdx_ok (pur_cons gJoin_ok (pur_cons tab40_ok (fun h => by cases h)))
  sum := fun f g h => by cases h
theorem tab21_ok : PurOk Tryz.prog 21 (memoG tab21) := memoG_ok (mem_cons' (entry En2_ok rfl e21_0) (mem_cons' (entry En2_ok rfl e21_1) (mem_cons' (entry En2_ok rfl e21_2) (mem_cons' (entry En2_ok rfl e21_3) (mem_cons' (entry En2_ok rfl e21_4) (mem_cons' (entry En2_ok rfl e21_5) (mem_cons' (entry En2_ok rfl e21_6) (mem_cons' (entry En2_ok rfl e21_7) (mem_cons' (entry En2_ok rfl e21_8) (mem_cons' (entry En2_ok rfl e21_9) (mem_cons' (entry En2_ok rfl e21_10) (mem_cons' (entry En2_ok rfl e21_11) (mem_cons' (entry En2_ok rfl e21_12) (mem_cons' (entry En2_ok rfl e21_13) (mem_cons' (entry En2_ok rfl e21_14) (mem_cons' (entry En2_ok rfl e21_15) (mem_cons' (entry En2_ok rfl e21_16) (mem_cons' (entry En2_ok rfl e21_17) (mem_cons' (entry En2_ok rfl e21_18) (mem_cons' (entry En2_ok rfl e21_19) (mem_cons' (entry En2_ok rfl e21_20) (mem_cons' (entry En2_ok rfl e21_21) (mem_cons' (entry En2_ok rfl e21_22) (mem_cons' (entry En2_ok rfl e21_23) (mem_cons' (entry En2_ok rfl e21_24) (mem_cons' (entry En2_ok rfl e21_25) (mem_cons' (entry En2_ok rfl e21_26) (mem_cons' (entry En2_ok rfl e21_27) (mem_cons' (entry En2_ok rfl e21_28) (mem_cons' (entry En2_ok rfl e21_29) (mem_cons' (entry En2_ok rfl e21_30) (mem_cons' (entry En2_ok rfl e21_31) (fun x hx => by cases hx)))))))))))))))))))))))))))))))))
theorem tab22_ok : PurOk Tryz.prog 22 (memoG tab22) := memoG_ok (mem_cons' (entry En2_ok rfl e22_0) (mem_cons' (entry En2_ok rfl e22_1) (mem_cons' (entry En2_ok rfl e22_2) (mem_cons' (entry En2_ok rfl e22_3) (mem_cons' (entry En2_ok rfl e22_4) (mem_cons' (entry En2_ok rfl e22_5) (mem_cons' (entry En2_ok rfl e22_6) (mem_cons' (entry En2_ok rfl e22_7) (mem_cons' (entry En2_ok rfl e22_8) (mem_cons' (entry En2_ok rfl e22_9) (mem_cons' (entry En2_ok rfl e22_10) (mem_cons' (entry En2_ok rfl e22_11) (mem_cons' (entry En2_ok rfl e22_12) (mem_cons' (entry En2_ok rfl e22_13) (mem_cons' (entry En2_ok rfl e22_14) (mem_cons' (entry En2_ok rfl e22_15) (mem_cons' (entry En2_ok rfl e22_16) (mem_cons' (entry En2_ok rfl e22_17) (mem_cons' (entry En2_ok rfl e22_18) (mem_cons' (entry En2_ok rfl e22_19) (mem_cons' (entry En2_ok rfl e22_20) (mem_cons' (entry En2_ok rfl e22_21) (mem_cons' (entry En2_ok rfl e22_22) (mem_cons' (entry En2_ok rfl e22_23) (mem_cons' (entry En2_ok rfl e22_24) (mem_cons' (entry En2_ok rfl e22_25) (mem_cons' (entry En2_ok rfl e22_26) (mem_cons' (entry En2_ok rfl e22_27) (mem_cons' (entry En2_ok rfl e22_28) (mem_cons' (entry En2_ok rfl e22_29) (mem_cons' (entry En2_ok rfl e22_30) (mem_cons' (entry En2_ok rfl e22_31) (fun x hx => by cases hx)))))))))))))))))))))))))))))))))
theorem tab23_ok : PurOk Tryz.prog 23 (memoG tab23) := memoG_ok (mem_cons' (entry En2_ok rfl e23_0) (mem_cons' (entry En2_ok rfl e23_1) (mem_cons' (entry En2_ok rfl e23_2) (mem_cons' (entry En2_ok rfl e23_3) (mem_cons' (entry En2_ok rfl e23_4) (mem_cons' (entry En2_ok rfl e23_5) (mem_cons' (entry En2_ok rfl e23_6) (mem_cons' (entry En2_ok rfl e23_7) (mem_cons' (entry En2_ok rfl e23_8) (mem_cons' (entry En2_ok rfl e23_9) (mem_cons' (entry En2_ok rfl e23_10) (mem_cons' (entry En2_ok rfl e23_11) (mem_cons' (entry En2_ok rfl e23_12) (mem_cons' (entry En2_ok rfl e23_13) (mem_cons' (entry En2_ok rfl e23_14) (mem_cons' (entry En2_ok rfl e23_15) (mem_cons' (entry En2_ok rfl e23_16) (mem_cons' (entry En2_ok rfl e23_17) (mem_cons' (entry En2_ok rfl e23_18) (mem_cons' (entry En2_ok rfl e23_19) (mem_cons' (entry En2_ok rfl e23_20) (mem_cons' (entry En2_ok rfl e23_21) (mem_cons' (entry En2_ok rfl e23_22) (mem_cons' (entry En2_ok rfl e23_23) (mem_cons' (entry En2_ok rfl e23_24) (mem_cons' (entry En2_ok rfl e23_25) (mem_cons' (entry En2_ok rfl e23_26) (mem_cons' (entry En2_ok rfl e23_27) (mem_cons' (entry En2_ok rfl e23_28) (mem_cons' (entry En2_ok rfl e23_29) (mem_cons' (entry En2_ok rfl e23_30) (mem_cons' (entry En2_ok rfl e23_31) (fun x hx => by cases hx)))))))))))))))))))))))))))))))))
theorem tab65_ok : PurOk Tryz.prog 65 (memoG tab65) := memoG_ok (mem_cons' (entry En2_ok rfl e65_0) (fun x hx => by cases hx))
theorem En3_ok : EnvOk Tryz.prog En3 where
  pur := fun f g => pur_cons gIdx_ok (pur_cons gJoin_ok (pur_cons tab40_ok (pur_cons tab21_ok (pur_cons tab22_ok (pur_cons tab23_ok (pur_cons tab65_ok (fun h => by cases h)))))))
  sum := fun f g h => by cases h
theorem tab11_ok : PurOk Tryz.prog 11 (memoG tab11) := memoG_ok (mem_cons' (entry En3_ok rfl e11_0) (fun x hx => by cases hx))
theorem En4_ok : EnvOk Tryz.prog En4 where
  pur := fun f g => pur_cons gIdx_ok (pur_cons gJoin_ok (pur_cons tab40_ok (pur_cons tab21_ok (pur_cons tab22_ok (pur_cons tab23_ok (pur_cons tab65_ok (pur_cons tab11_ok (pur_cons gPlace_ok (fun h => by cases h)))))))))
  sum := fun f g h => by cases h
end Go.Am
