import Derived.Test.YtnacifjcjnhgpaaGreatDoorFEntA
import Derived.Test.YtnacifjcjnhgpaaGreatDoorFEntB
import Derived.Test.YtnacifjcjnhgpaaGreatDoorFEntC
import Derived.Test.YtnacifjcjnhgpaaGreatDoorFEntD
import Derived.Test.YtnacifjcjnhgpaaGreatDoorFChkB
import Derived.Test.YtnacifjcjnhgpaaGreatDoorDvB
import Derived.Test.YtnacifjcjnhgpaaGreatDoorFCasA
import Derived.Test.YtnacifjcjnhgpaaGreatDoorFCasB
import Derived.Test.YtnacifjcjnhgpaaGreatDoorFCasC
import Derived.Test.YtnacifjcjnhgpaaGreatDoorFCasD
import Derived.Test.YtnacifjcjnhgpaaGreatDoorFCasE
import Derived.Test.YtnacifjcjnhgpaaGreatDoorFCasF
import Derived.Test.YtnacifjcjnhgpaaGreatDoorFCasG
import Derived.Test.YtnacifjcjnhgpaaGreatDoorFCasH
set_option linter.all false
set_option maxRecDepth 100000
namespace Go.Am
open Go Go.Proofs
theorem pur_cons {P : Program} {f k : Nat} {g g' : List AV → Option ARes} {rest : Option (List AV → Option ARes)} (hk : PurOk P k g') (hr : rest = some g → PurOk P f g) :
    (bif Nat.beq f k then some g' else rest) = some g → PurOk P f g := by
  intro h
  cases hb : Nat.beq f k with
  | false => rw [hb] at h; exact hr h
  | true => rw [hb] at h; cases h; rw [Nat.eq_of_beq_eq_true hb]; exact hk
abbrev SumG := List AV → Heap → Option (ARes × Heap)
def SumOk (P : Program) (f : Nat) (g : SumG) : Prop := ∀ args h r h', g args h = some (r, h') → CallOk P f args h r h'
theorem sum_cons {P : Program} {f k : Nat} {g g' : SumG} {rest : Option SumG} (hk : SumOk P k g') (hr : rest = some g → SumOk P f g) :
    (bif Nat.beq f k then some g' else rest) = some g → SumOk P f g := by
  intro h
  cases hb : Nat.beq f k with
  | false => rw [hb] at h; exact hr h
  | true => rw [hb] at h; cases h; rw [Nat.eq_of_beq_eq_true hb]; exact hk
theorem entry {E : Env} (hE : EnvOk Tryz.prog E) (hf : E.fns = Tr.get fnNo fnTr) {n f : Nat} {args : List AV} {r : ARes} (h : sealR (ev E n f args Heap.empty) = some r) : MemoOk Tryz.prog f args r :=
  memo_of_run (fun r' h' he => ev_ok hE (fns_ok E hf) (fun rec hr => regd_ok hE (by kernel_rfl) hr) n f args Heap.empty r' h' he) h
theorem mem_cons' {α : Type} {p : α → Prop} {a : α} {l : List α} (h : p a) (hl : ∀ x ∈ l, p x) : ∀ x ∈ a :: l, p x := fun x hx => by
  rcases List.mem_cons.1 hx with rfl | hx
  · exact h
  · exact hl x hx
theorem mem_nil' {α : Type} {p : α → Prop} : ∀ x ∈ ([] : List α), p x := fun x hx => by cases hx
theorem EnA_ok {t97 t123 t113 t194 t84 t54 t55 t56 t115 t132 t135 t136 t25 t69 t140 t124 t9 t302 t200 t204 t202 t206 : List (List AV × ARes)} (h97 : ∀ p ∈ t97, MemoOk Tryz.prog 97 p.1 p.2) (h123 : ∀ p ∈ t123, MemoOk Tryz.prog 123 p.1 p.2) (h113 : ∀ p ∈ t113, MemoOk Tryz.prog 113 p.1 p.2) (h194 : ∀ p ∈ t194, MemoOk Tryz.prog 194 p.1 p.2) (h84 : ∀ p ∈ t84, MemoOk Tryz.prog 84 p.1 p.2) (h54 : ∀ p ∈ t54, MemoOk Tryz.prog 54 p.1 p.2) (h55 : ∀ p ∈ t55, MemoOk Tryz.prog 55 p.1 p.2) (h56 : ∀ p ∈ t56, MemoOk Tryz.prog 56 p.1 p.2) (h115 : ∀ p ∈ t115, MemoOk Tryz.prog 115 p.1 p.2) (h132 : ∀ p ∈ t132, MemoOk Tryz.prog 132 p.1 p.2) (h135 : ∀ p ∈ t135, MemoOk Tryz.prog 135 p.1 p.2) (h136 : ∀ p ∈ t136, MemoOk Tryz.prog 136 p.1 p.2) (h25 : ∀ p ∈ t25, MemoOk Tryz.prog 25 p.1 p.2) (h69 : ∀ p ∈ t69, MemoOk Tryz.prog 69 p.1 p.2) (h140 : ∀ p ∈ t140, MemoOk Tryz.prog 140 p.1 p.2) (h124 : ∀ p ∈ t124, MemoOk Tryz.prog 124 p.1 p.2) (h9 : ∀ p ∈ t9, MemoOk Tryz.prog 9 p.1 p.2) (h302 : ∀ p ∈ t302, MemoOk Tryz.prog 302 p.1 p.2) (h200 : ∀ p ∈ t200, MemoOk Tryz.prog 200 p.1 p.2) (h204 : ∀ p ∈ t204, MemoOk Tryz.prog 204 p.1 p.2) (h202 : ∀ p ∈ t202, MemoOk Tryz.prog 202 p.1 p.2) (h206 : ∀ p ∈ t206, MemoOk Tryz.prog 206 p.1 p.2) : EnvOk Tryz.prog (EnA t97 t123 t113 t194 t84 t54 t55 t56 t115 t132 t135 t136 t25 t69 t140 t124 t9 t302 t200 t204 t202 t206) where
  pur := fun f g => pur_cons gIdx_ok (pur_cons gJoin_ok (pur_cons gPlace_ok (pur_cons gTold_ok (pur_cons gCount_ok (pur_cons gIndex1_ok (pur_cons (memoG_ok h97) (pur_cons (memoG_ok h123) (pur_cons (memoG_ok h113) (pur_cons (memoG_ok h194) (pur_cons (memoG_ok h84) (pur_cons (memoG_ok h54) (pur_cons (memoG_ok h55) (pur_cons (memoG_ok h56) (pur_cons (memoG_ok h115) (pur_cons (memoG_ok h132) (pur_cons (memoG_ok h135) (pur_cons (memoG_ok h136) (pur_cons (memoG_ok h25) (pur_cons (memoG_ok h69) (pur_cons (memoG_ok h140) (pur_cons (memoG_ok h124) (pur_cons (memoG_ok h9) (pur_cons (memoG_ok h302) (pur_cons (memoG_ok h200) (pur_cons (memoG_ok h204) (pur_cons (memoG_ok h202) (pur_cons (memoG_ok h206) (fun h => by cases h))))))))))))))))))))))))))))
  sum := fun f g => sum_cons gCopy_ok2 (sum_cons gBStr_ok2 (sum_cons gAll_ok (fun h => by cases h)))
theorem m69_0 : MemoOk Tryz.prog 69 p69_0.1 p69_0.2 := entry (EnA_ok (mem_nil') (mem_nil') (mem_nil') (mem_nil') (mem_nil') (mem_nil') (mem_nil') (mem_nil') (mem_nil') (mem_nil') (mem_nil') (mem_nil') (mem_nil') (mem_nil') (mem_nil') (mem_nil') (mem_nil') (mem_nil') (mem_nil') (mem_nil') (mem_nil') (mem_nil')) rfl e69_0
theorem m113_0 : MemoOk Tryz.prog 113 p113_0.1 p113_0.2 := entry (EnA_ok (mem_nil') (mem_nil') (mem_nil') (mem_nil') (mem_nil') (mem_nil') (mem_nil') (mem_nil') (mem_nil') (mem_nil') (mem_nil') (mem_nil') (mem_nil') (mem_nil') (mem_nil') (mem_nil') (mem_nil') (mem_nil') (mem_nil') (mem_nil') (mem_nil') (mem_nil')) rfl e113_0
theorem m115_0 : MemoOk Tryz.prog 115 p115_0.1 p115_0.2 := entry (EnA_ok (mem_nil') (mem_nil') (mem_cons' m113_0 (mem_nil')) (mem_nil') (mem_nil') (mem_nil') (mem_nil') (mem_nil') (mem_nil') (mem_nil') (mem_nil') (mem_nil') (mem_nil') (mem_nil') (mem_nil') (mem_nil') (mem_nil') (mem_nil') (mem_nil') (mem_nil') (mem_nil') (mem_nil')) rfl e115_0
theorem m123_0 : MemoOk Tryz.prog 123 p123_0.1 p123_0.2 := entry (EnA_ok (mem_nil') (mem_nil') (mem_nil') (mem_nil') (mem_nil') (mem_nil') (mem_nil') (mem_nil') (mem_nil') (mem_nil') (mem_nil') (mem_nil') (mem_nil') (mem_nil') (mem_nil') (mem_nil') (mem_nil') (mem_nil') (mem_nil') (mem_nil') (mem_nil') (mem_nil')) rfl e123_0
theorem m194_0 : MemoOk Tryz.prog 194 p194_0.1 p194_0.2 := entry (EnA_ok (mem_nil') (mem_nil') (mem_nil') (mem_nil') (mem_nil') (mem_nil') (mem_nil') (mem_nil') (mem_nil') (mem_nil') (mem_nil') (mem_nil') (mem_nil') (mem_nil') (mem_nil') (mem_nil') (mem_nil') (mem_nil') (mem_nil') (mem_nil') (mem_nil') (mem_nil')) rfl e194_0
theorem m124_0 : MemoOk Tryz.prog 124 p124_0.1 p124_0.2 := entry (EnA_ok (mem_nil') (mem_nil') (mem_cons' m113_0 (mem_nil')) (mem_cons' m194_0 (mem_nil')) (mem_nil') (mem_nil') (mem_nil') (mem_nil') (mem_nil') (mem_nil') (mem_nil') (mem_nil') (mem_nil') (mem_nil') (mem_nil') (mem_nil') (mem_nil') (mem_nil') (mem_nil') (mem_nil') (mem_nil') (mem_nil')) rfl e124_0
theorem m132_0 : MemoOk Tryz.prog 132 p132_0.1 p132_0.2 := entry (EnA_ok (mem_nil') (mem_nil') (mem_nil') (mem_nil') (mem_nil') (mem_nil') (mem_nil') (mem_nil') (mem_nil') (mem_nil') (mem_nil') (mem_nil') (mem_nil') (mem_nil') (mem_nil') (mem_nil') (mem_nil') (mem_nil') (mem_nil') (mem_nil') (mem_nil') (mem_nil')) rfl e132_0
theorem m135_0 : MemoOk Tryz.prog 135 p135_0.1 p135_0.2 := entry (EnA_ok (mem_nil') (mem_nil') (mem_nil') (mem_nil') (mem_nil') (mem_nil') (mem_nil') (mem_nil') (mem_nil') (mem_nil') (mem_nil') (mem_nil') (mem_nil') (mem_nil') (mem_nil') (mem_nil') (mem_nil') (mem_nil') (mem_nil') (mem_nil') (mem_nil') (mem_nil')) rfl e135_0
theorem m136_0 : MemoOk Tryz.prog 136 p136_0.1 p136_0.2 := entry (EnA_ok (mem_nil') (mem_nil') (mem_nil') (mem_nil') (mem_nil') (mem_nil') (mem_nil') (mem_nil') (mem_nil') (mem_nil') (mem_nil') (mem_nil') (mem_nil') (mem_nil') (mem_nil') (mem_nil') (mem_nil') (mem_nil') (mem_nil') (mem_nil') (mem_nil') (mem_nil')) rfl e136_0
theorem m54_0 : MemoOk Tryz.prog 54 p54_0.1 p54_0.2 := entry (EnA_ok (mem_nil') (mem_nil') (mem_nil') (mem_nil') (mem_nil') (mem_nil') (mem_nil') (mem_nil') (mem_nil') (mem_nil') (mem_nil') (mem_nil') (mem_nil') (mem_nil') (mem_nil') (mem_nil') (mem_nil') (mem_nil') (mem_nil') (mem_nil') (mem_nil') (mem_nil')) rfl e54_0
theorem m55_0 : MemoOk Tryz.prog 55 p55_0.1 p55_0.2 := entry (EnA_ok (mem_nil') (mem_nil') (mem_nil') (mem_nil') (mem_nil') (mem_nil') (mem_nil') (mem_nil') (mem_nil') (mem_nil') (mem_nil') (mem_nil') (mem_nil') (mem_nil') (mem_nil') (mem_nil') (mem_nil') (mem_nil') (mem_nil') (mem_nil') (mem_nil') (mem_nil')) rfl e55_0
theorem m56_0 : MemoOk Tryz.prog 56 p56_0.1 p56_0.2 := entry (EnA_ok (mem_nil') (mem_nil') (mem_nil') (mem_nil') (mem_nil') (mem_nil') (mem_nil') (mem_nil') (mem_nil') (mem_nil') (mem_nil') (mem_nil') (mem_nil') (mem_nil') (mem_nil') (mem_nil') (mem_nil') (mem_nil') (mem_nil') (mem_nil') (mem_nil') (mem_nil')) rfl e56_0
theorem m140_0 : MemoOk Tryz.prog 140 p140_0.1 p140_0.2 := entry (EnA_ok (mem_nil') (mem_nil') (mem_nil') (mem_nil') (mem_nil') (mem_nil') (mem_nil') (mem_nil') (mem_nil') (mem_nil') (mem_cons' m135_0 (mem_nil')) (mem_nil') (mem_nil') (mem_nil') (mem_nil') (mem_nil') (mem_nil') (mem_nil') (mem_nil') (mem_nil') (mem_nil') (mem_nil')) rfl e140_0
theorem m69_1 : MemoOk Tryz.prog 69 p69_1.1 p69_1.2 := entry (EnA_ok (mem_nil') (mem_nil') (mem_nil') (mem_nil') (mem_nil') (mem_nil') (mem_nil') (mem_nil') (mem_nil') (mem_nil') (mem_nil') (mem_nil') (mem_nil') (mem_nil') (mem_nil') (mem_nil') (mem_nil') (mem_nil') (mem_nil') (mem_nil') (mem_nil') (mem_nil')) rfl e69_1
theorem m113_1 : MemoOk Tryz.prog 113 p113_1.1 p113_1.2 := entry (EnA_ok (mem_nil') (mem_nil') (mem_nil') (mem_nil') (mem_nil') (mem_nil') (mem_nil') (mem_nil') (mem_nil') (mem_nil') (mem_nil') (mem_nil') (mem_nil') (mem_nil') (mem_nil') (mem_nil') (mem_nil') (mem_nil') (mem_nil') (mem_nil') (mem_nil') (mem_nil')) rfl e113_1
theorem m115_1 : MemoOk Tryz.prog 115 p115_1.1 p115_1.2 := entry (EnA_ok (mem_nil') (mem_nil') (mem_cons' m113_1 (mem_nil')) (mem_nil') (mem_nil') (mem_nil') (mem_nil') (mem_nil') (mem_nil') (mem_nil') (mem_nil') (mem_nil') (mem_nil') (mem_nil') (mem_nil') (mem_nil') (mem_nil') (mem_nil') (mem_nil') (mem_nil') (mem_nil') (mem_nil')) rfl e115_1
theorem m123_1 : MemoOk Tryz.prog 123 p123_1.1 p123_1.2 := entry (EnA_ok (mem_nil') (mem_nil') (mem_nil') (mem_nil') (mem_nil') (mem_nil') (mem_nil') (mem_nil') (mem_nil') (mem_nil') (mem_nil') (mem_nil') (mem_nil') (mem_nil') (mem_nil') (mem_nil') (mem_nil') (mem_nil') (mem_nil') (mem_nil') (mem_nil') (mem_nil')) rfl e123_1
theorem m194_1 : MemoOk Tryz.prog 194 p194_1.1 p194_1.2 := entry (EnA_ok (mem_nil') (mem_nil') (mem_nil') (mem_nil') (mem_nil') (mem_nil') (mem_nil') (mem_nil') (mem_nil') (mem_nil') (mem_nil') (mem_nil') (mem_nil') (mem_nil') (mem_nil') (mem_nil') (mem_nil') (mem_nil') (mem_nil') (mem_nil') (mem_nil') (mem_nil')) rfl e194_1
theorem m124_1 : MemoOk Tryz.prog 124 p124_1.1 p124_1.2 := entry (EnA_ok (mem_nil') (mem_nil') (mem_cons' m113_1 (mem_nil')) (mem_cons' m194_1 (mem_nil')) (mem_nil') (mem_nil') (mem_nil') (mem_nil') (mem_nil') (mem_nil') (mem_nil') (mem_nil') (mem_nil') (mem_nil') (mem_nil') (mem_nil') (mem_nil') (mem_nil') (mem_nil') (mem_nil') (mem_nil') (mem_nil')) rfl e124_1
theorem m123_2 : MemoOk Tryz.prog 123 p123_2.1 p123_2.2 := entry (EnA_ok (mem_nil') (mem_nil') (mem_nil') (mem_nil') (mem_nil') (mem_nil') (mem_nil') (mem_nil') (mem_nil') (mem_nil') (mem_nil') (mem_nil') (mem_nil') (mem_nil') (mem_nil') (mem_nil') (mem_nil') (mem_nil') (mem_nil') (mem_nil') (mem_nil') (mem_nil')) rfl e123_2
theorem m113_2 : MemoOk Tryz.prog 113 p113_2.1 p113_2.2 := entry (EnA_ok (mem_nil') (mem_nil') (mem_nil') (mem_nil') (mem_nil') (mem_nil') (mem_nil') (mem_nil') (mem_nil') (mem_nil') (mem_nil') (mem_nil') (mem_nil') (mem_nil') (mem_nil') (mem_nil') (mem_nil') (mem_nil') (mem_nil') (mem_nil') (mem_nil') (mem_nil')) rfl e113_2
theorem m132_1 : MemoOk Tryz.prog 132 p132_1.1 p132_1.2 := entry (EnA_ok (mem_nil') (mem_cons' m123_2 (mem_nil')) (mem_cons' m113_2 (mem_nil')) (mem_nil') (mem_nil') (mem_nil') (mem_nil') (mem_nil') (mem_nil') (mem_nil') (mem_nil') (mem_nil') (mem_nil') (mem_nil') (mem_nil') (mem_nil') (mem_nil') (mem_nil') (mem_nil') (mem_nil') (mem_nil') (mem_nil')) rfl e132_1
theorem m123_3 : MemoOk Tryz.prog 123 p123_3.1 p123_3.2 := entry (EnA_ok (mem_nil') (mem_nil') (mem_nil') (mem_nil') (mem_nil') (mem_nil') (mem_nil') (mem_nil') (mem_nil') (mem_nil') (mem_nil') (mem_nil') (mem_nil') (mem_nil') (mem_nil') (mem_nil') (mem_nil') (mem_nil') (mem_nil') (mem_nil') (mem_nil') (mem_nil')) rfl e123_3
theorem m54_1 : MemoOk Tryz.prog 54 p54_1.1 p54_1.2 := entry (EnA_ok (mem_nil') (mem_nil') (mem_nil') (mem_nil') (mem_nil') (mem_nil') (mem_nil') (mem_nil') (mem_nil') (mem_nil') (mem_nil') (mem_nil') (mem_nil') (mem_nil') (mem_nil') (mem_nil') (mem_nil') (mem_nil') (mem_nil') (mem_nil') (mem_nil') (mem_nil')) rfl e54_1
theorem m55_1 : MemoOk Tryz.prog 55 p55_1.1 p55_1.2 := entry (EnA_ok (mem_nil') (mem_nil') (mem_nil') (mem_nil') (mem_nil') (mem_nil') (mem_nil') (mem_nil') (mem_nil') (mem_nil') (mem_nil') (mem_nil') (mem_nil') (mem_nil') (mem_nil') (mem_nil') (mem_nil') (mem_nil') (mem_nil') (mem_nil') (mem_nil') (mem_nil')) rfl e55_1
theorem m56_1 : MemoOk Tryz.prog 56 p56_1.1 p56_1.2 := entry (EnA_ok (mem_nil') (mem_nil') (mem_nil') (mem_nil') (mem_nil') (mem_nil') (mem_nil') (mem_nil') (mem_nil') (mem_nil') (mem_nil') (mem_nil') (mem_nil') (mem_nil') (mem_nil') (mem_nil') (mem_nil') (mem_nil') (mem_nil') (mem_nil') (mem_nil') (mem_nil')) rfl e56_1
theorem m69_2 : MemoOk Tryz.prog 69 p69_2.1 p69_2.2 := entry (EnA_ok (mem_nil') (mem_nil') (mem_nil') (mem_nil') (mem_nil') (mem_nil') (mem_nil') (mem_nil') (mem_nil') (mem_nil') (mem_nil') (mem_nil') (mem_nil') (mem_nil') (mem_nil') (mem_nil') (mem_nil') (mem_nil') (mem_nil') (mem_nil') (mem_nil') (mem_nil')) rfl e69_2
theorem m113_3 : MemoOk Tryz.prog 113 p113_3.1 p113_3.2 := entry (EnA_ok (mem_nil') (mem_nil') (mem_nil') (mem_nil') (mem_nil') (mem_nil') (mem_nil') (mem_nil') (mem_nil') (mem_nil') (mem_nil') (mem_nil') (mem_nil') (mem_nil') (mem_nil') (mem_nil') (mem_nil') (mem_nil') (mem_nil') (mem_nil') (mem_nil') (mem_nil')) rfl e113_3
theorem m115_2 : MemoOk Tryz.prog 115 p115_2.1 p115_2.2 := entry (EnA_ok (mem_nil') (mem_nil') (mem_cons' m113_3 (mem_nil')) (mem_nil') (mem_nil') (mem_nil') (mem_nil') (mem_nil') (mem_nil') (mem_nil') (mem_nil') (mem_nil') (mem_nil') (mem_nil') (mem_nil') (mem_nil') (mem_nil') (mem_nil') (mem_nil') (mem_nil') (mem_nil') (mem_nil')) rfl e115_2
theorem m123_4 : MemoOk Tryz.prog 123 p123_4.1 p123_4.2 := entry (EnA_ok (mem_nil') (mem_nil') (mem_nil') (mem_nil') (mem_nil') (mem_nil') (mem_nil') (mem_nil') (mem_nil') (mem_nil') (mem_nil') (mem_nil') (mem_nil') (mem_nil') (mem_nil') (mem_nil') (mem_nil') (mem_nil') (mem_nil') (mem_nil') (mem_nil') (mem_nil')) rfl e123_4
theorem m194_2 : MemoOk Tryz.prog 194 p194_2.1 p194_2.2 := entry (EnA_ok (mem_nil') (mem_nil') (mem_nil') (mem_nil') (mem_nil') (mem_nil') (mem_nil') (mem_nil') (mem_nil') (mem_nil') (mem_nil') (mem_nil') (mem_nil') (mem_nil') (mem_nil') (mem_nil') (mem_nil') (mem_nil') (mem_nil') (mem_nil') (mem_nil') (mem_nil')) rfl e194_2
theorem m124_2 : MemoOk Tryz.prog 124 p124_2.1 p124_2.2 := entry (EnA_ok (mem_nil') (mem_nil') (mem_cons' m113_3 (mem_nil')) (mem_cons' m194_2 (mem_nil')) (mem_nil') (mem_nil') (mem_nil') (mem_nil') (mem_nil') (mem_nil') (mem_nil') (mem_nil') (mem_nil') (mem_nil') (mem_nil') (mem_nil') (mem_nil') (mem_nil') (mem_nil') (mem_nil') (mem_nil') (mem_nil')) rfl e124_2
theorem m132_2 : MemoOk Tryz.prog 132 p132_2.1 p132_2.2 := entry (EnA_ok (mem_nil') (mem_nil') (mem_nil') (mem_nil') (mem_nil') (mem_nil') (mem_nil') (mem_nil') (mem_nil') (mem_nil') (mem_nil') (mem_nil') (mem_nil') (mem_nil') (mem_nil') (mem_nil') (mem_nil') (mem_nil') (mem_nil') (mem_nil') (mem_nil') (mem_nil')) rfl e132_2
theorem m135_1 : MemoOk Tryz.prog 135 p135_1.1 p135_1.2 := entry (EnA_ok (mem_nil') (mem_nil') (mem_nil') (mem_nil') (mem_nil') (mem_nil') (mem_nil') (mem_nil') (mem_nil') (mem_nil') (mem_nil') (mem_nil') (mem_nil') (mem_nil') (mem_nil') (mem_nil') (mem_nil') (mem_nil') (mem_nil') (mem_nil') (mem_nil') (mem_nil')) rfl e135_1
theorem m132_3 : MemoOk Tryz.prog 132 p132_3.1 p132_3.2 := entry (EnA_ok (mem_nil') (mem_nil') (mem_nil') (mem_nil') (mem_nil') (mem_nil') (mem_nil') (mem_nil') (mem_nil') (mem_nil') (mem_nil') (mem_nil') (mem_nil') (mem_nil') (mem_nil') (mem_nil') (mem_nil') (mem_nil') (mem_nil') (mem_nil') (mem_nil') (mem_nil')) rfl e132_3
theorem m136_1 : MemoOk Tryz.prog 136 p136_1.1 p136_1.2 := entry (EnA_ok (mem_nil') (mem_nil') (mem_nil') (mem_nil') (mem_nil') (mem_nil') (mem_nil') (mem_nil') (mem_nil') (mem_nil') (mem_nil') (mem_nil') (mem_nil') (mem_nil') (mem_nil') (mem_nil') (mem_nil') (mem_nil') (mem_nil') (mem_nil') (mem_nil') (mem_nil')) rfl e136_1
theorem m97_0 : MemoOk Tryz.prog 97 p97_0.1 p97_0.2 := entry (EnA_ok (mem_nil') (mem_nil') (mem_nil') (mem_nil') (mem_nil') (mem_nil') (mem_nil') (mem_nil') (mem_nil') (mem_nil') (mem_nil') (mem_nil') (mem_nil') (mem_nil') (mem_nil') (mem_nil') (mem_nil') (mem_nil') (mem_nil') (mem_nil') (mem_nil') (mem_nil')) rfl e97_0
theorem m113_4 : MemoOk Tryz.prog 113 p113_4.1 p113_4.2 := entry (EnA_ok (mem_nil') (mem_nil') (mem_nil') (mem_nil') (mem_nil') (mem_nil') (mem_nil') (mem_nil') (mem_nil') (mem_nil') (mem_nil') (mem_nil') (mem_nil') (mem_nil') (mem_nil') (mem_nil') (mem_nil') (mem_nil') (mem_nil') (mem_nil') (mem_nil') (mem_nil')) rfl e113_4
theorem m54_2 : MemoOk Tryz.prog 54 p54_2.1 p54_2.2 := entry (EnA_ok (mem_cons' m97_0 (mem_nil')) (mem_nil') (mem_cons' m113_4 (mem_nil')) (mem_nil') (mem_nil') (mem_nil') (mem_nil') (mem_nil') (mem_nil') (mem_nil') (mem_nil') (mem_nil') (mem_nil') (mem_nil') (mem_nil') (mem_nil') (mem_nil') (mem_nil') (mem_nil') (mem_nil') (mem_nil') (mem_nil')) rfl e54_2
theorem m55_2 : MemoOk Tryz.prog 55 p55_2.1 p55_2.2 := entry (EnA_ok (mem_nil') (mem_nil') (mem_nil') (mem_nil') (mem_nil') (mem_nil') (mem_nil') (mem_nil') (mem_nil') (mem_nil') (mem_nil') (mem_nil') (mem_nil') (mem_nil') (mem_nil') (mem_nil') (mem_nil') (mem_nil') (mem_nil') (mem_nil') (mem_nil') (mem_nil')) rfl e55_2
theorem m56_2 : MemoOk Tryz.prog 56 p56_2.1 p56_2.2 := entry (EnA_ok (mem_nil') (mem_nil') (mem_nil') (mem_nil') (mem_nil') (mem_nil') (mem_nil') (mem_nil') (mem_nil') (mem_nil') (mem_nil') (mem_nil') (mem_nil') (mem_nil') (mem_nil') (mem_nil') (mem_nil') (mem_nil') (mem_nil') (mem_nil') (mem_nil') (mem_nil')) rfl e56_2
theorem m54_3 : MemoOk Tryz.prog 54 p54_3.1 p54_3.2 := entry (EnA_ok (mem_nil') (mem_nil') (mem_nil') (mem_nil') (mem_nil') (mem_nil') (mem_nil') (mem_nil') (mem_nil') (mem_nil') (mem_nil') (mem_nil') (mem_nil') (mem_nil') (mem_nil') (mem_nil') (mem_nil') (mem_nil') (mem_nil') (mem_nil') (mem_nil') (mem_nil')) rfl e54_3
theorem m55_3 : MemoOk Tryz.prog 55 p55_3.1 p55_3.2 := entry (EnA_ok (mem_nil') (mem_nil') (mem_nil') (mem_nil') (mem_nil') (mem_nil') (mem_nil') (mem_nil') (mem_nil') (mem_nil') (mem_nil') (mem_nil') (mem_nil') (mem_nil') (mem_nil') (mem_nil') (mem_nil') (mem_nil') (mem_nil') (mem_nil') (mem_nil') (mem_nil')) rfl e55_3
theorem m56_3 : MemoOk Tryz.prog 56 p56_3.1 p56_3.2 := entry (EnA_ok (mem_nil') (mem_nil') (mem_nil') (mem_nil') (mem_nil') (mem_nil') (mem_nil') (mem_nil') (mem_nil') (mem_nil') (mem_nil') (mem_nil') (mem_nil') (mem_nil') (mem_nil') (mem_nil') (mem_nil') (mem_nil') (mem_nil') (mem_nil') (mem_nil') (mem_nil')) rfl e56_3
theorem m123_5 : MemoOk Tryz.prog 123 p123_5.1 p123_5.2 := entry (EnA_ok (mem_nil') (mem_nil') (mem_nil') (mem_nil') (mem_nil') (mem_nil') (mem_nil') (mem_nil') (mem_nil') (mem_nil') (mem_nil') (mem_nil') (mem_nil') (mem_nil') (mem_nil') (mem_nil') (mem_nil') (mem_nil') (mem_nil') (mem_nil') (mem_nil') (mem_nil')) rfl e123_5
theorem m135_2 : MemoOk Tryz.prog 135 p135_2.1 p135_2.2 := entry (EnA_ok (mem_nil') (mem_nil') (mem_nil') (mem_nil') (mem_nil') (mem_nil') (mem_nil') (mem_nil') (mem_nil') (mem_nil') (mem_nil') (mem_nil') (mem_nil') (mem_nil') (mem_nil') (mem_nil') (mem_nil') (mem_nil') (mem_nil') (mem_nil') (mem_nil') (mem_nil')) rfl e135_2
theorem m113_5 : MemoOk Tryz.prog 113 p113_5.1 p113_5.2 := entry (EnA_ok (mem_nil') (mem_nil') (mem_nil') (mem_nil') (mem_nil') (mem_nil') (mem_nil') (mem_nil') (mem_nil') (mem_nil') (mem_nil') (mem_nil') (mem_nil') (mem_nil') (mem_nil') (mem_nil') (mem_nil') (mem_nil') (mem_nil') (mem_nil') (mem_nil') (mem_nil')) rfl e113_5
theorem m194_3 : MemoOk Tryz.prog 194 p194_3.1 p194_3.2 := entry (EnA_ok (mem_nil') (mem_nil') (mem_nil') (mem_nil') (mem_nil') (mem_nil') (mem_nil') (mem_nil') (mem_nil') (mem_nil') (mem_nil') (mem_nil') (mem_nil') (mem_nil') (mem_nil') (mem_nil') (mem_nil') (mem_nil') (mem_nil') (mem_nil') (mem_nil') (mem_nil')) rfl e194_3
theorem m84_0 : MemoOk Tryz.prog 84 p84_0.1 p84_0.2 := entry (EnA_ok (mem_nil') (mem_nil') (mem_cons' m113_5 (mem_cons' m113_4 (mem_nil'))) (mem_cons' m194_3 (mem_nil')) (mem_nil') (mem_nil') (mem_nil') (mem_nil') (mem_nil') (mem_nil') (mem_nil') (mem_nil') (mem_nil') (mem_nil') (mem_nil') (mem_nil') (mem_nil') (mem_nil') (mem_nil') (mem_nil') (mem_nil') (mem_nil')) rfl e84_0
theorem m135_3 : MemoOk Tryz.prog 135 p135_3.1 p135_3.2 := entry (EnA_ok (mem_nil') (mem_nil') (mem_nil') (mem_nil') (mem_nil') (mem_nil') (mem_nil') (mem_nil') (mem_nil') (mem_nil') (mem_nil') (mem_nil') (mem_nil') (mem_nil') (mem_nil') (mem_nil') (mem_nil') (mem_nil') (mem_nil') (mem_nil') (mem_nil') (mem_nil')) rfl e135_3
theorem m25_0 : MemoOk Tryz.prog 25 p25_0.1 p25_0.2 := entry (EnA_ok (mem_nil') (mem_nil') (mem_nil') (mem_nil') (mem_nil') (mem_nil') (mem_nil') (mem_nil') (mem_nil') (mem_nil') (mem_nil') (mem_nil') (mem_nil') (mem_nil') (mem_nil') (mem_nil') (mem_nil') (mem_nil') (mem_nil') (mem_nil') (mem_nil') (mem_nil')) rfl e25_0
theorem m194_4 : MemoOk Tryz.prog 194 p194_4.1 p194_4.2 := entry (EnA_ok (mem_nil') (mem_nil') (mem_nil') (mem_nil') (mem_nil') (mem_nil') (mem_nil') (mem_nil') (mem_nil') (mem_nil') (mem_nil') (mem_nil') (mem_nil') (mem_nil') (mem_nil') (mem_nil') (mem_nil') (mem_nil') (mem_nil') (mem_nil') (mem_nil') (mem_nil')) rfl e194_4
theorem m84_1 : MemoOk Tryz.prog 84 p84_1.1 p84_1.2 := entry (EnA_ok (mem_nil') (mem_nil') (mem_cons' m113_2 (mem_cons' m113_4 (mem_nil'))) (mem_cons' m194_4 (mem_nil')) (mem_nil') (mem_nil') (mem_nil') (mem_nil') (mem_nil') (mem_nil') (mem_nil') (mem_nil') (mem_nil') (mem_nil') (mem_nil') (mem_nil') (mem_nil') (mem_nil') (mem_nil') (mem_nil') (mem_nil') (mem_nil')) rfl e84_1
theorem m140_1 : MemoOk Tryz.prog 140 p140_1.1 p140_1.2 := entry (EnA_ok (mem_nil') (mem_nil') (mem_nil') (mem_nil') (mem_cons' m84_0 (mem_cons' m84_1 (mem_nil'))) (mem_nil') (mem_nil') (mem_nil') (mem_nil') (mem_nil') (mem_cons' m135_2 (mem_cons' m135_3 (mem_nil'))) (mem_nil') (mem_cons' m25_0 (mem_nil')) (mem_nil') (mem_nil') (mem_nil') (mem_nil') (mem_nil') (mem_nil') (mem_nil') (mem_nil') (mem_nil')) rfl e140_1
theorem m9_0 : MemoOk Tryz.prog 9 p9_0.1 p9_0.2 := entry (EnA_ok (mem_nil') (mem_cons' m123_1 (mem_cons' m123_3 (mem_cons' m123_4 (mem_cons' m123_5 (mem_cons' m123_0 (mem_nil')))))) (mem_nil') (mem_nil') (mem_nil') (mem_cons' m54_1 (mem_cons' m54_2 (mem_cons' m54_3 (mem_cons' m54_0 (mem_nil'))))) (mem_cons' m55_1 (mem_cons' m55_2 (mem_cons' m55_3 (mem_cons' m55_0 (mem_nil'))))) (mem_cons' m56_1 (mem_cons' m56_2 (mem_cons' m56_3 (mem_cons' m56_0 (mem_nil'))))) (mem_cons' m115_1 (mem_cons' m115_2 (mem_cons' m115_0 (mem_nil')))) (mem_cons' m132_1 (mem_cons' m132_2 (mem_cons' m132_3 (mem_cons' m132_0 (mem_nil'))))) (mem_cons' m135_1 (mem_cons' m135_0 (mem_nil'))) (mem_cons' m136_1 (mem_cons' m136_0 (mem_nil'))) (mem_nil') (mem_cons' m69_1 (mem_cons' m69_2 (mem_cons' m69_0 (mem_nil')))) (mem_cons' m140_1 (mem_cons' m140_0 (mem_nil'))) (mem_cons' m124_1 (mem_cons' m124_2 (mem_cons' m124_0 (mem_nil')))) (mem_nil') (mem_nil') (mem_nil') (mem_nil') (mem_nil') (mem_nil')) rfl e9_0
theorem m69_3 : MemoOk Tryz.prog 69 p69_3.1 p69_3.2 := entry (EnA_ok (mem_nil') (mem_nil') (mem_nil') (mem_nil') (mem_nil') (mem_nil') (mem_nil') (mem_nil') (mem_nil') (mem_nil') (mem_nil') (mem_nil') (mem_nil') (mem_nil') (mem_nil') (mem_nil') (mem_nil') (mem_nil') (mem_nil') (mem_nil') (mem_nil') (mem_nil')) rfl e69_3
theorem m115_3 : MemoOk Tryz.prog 115 p115_3.1 p115_3.2 := entry (EnA_ok (mem_nil') (mem_nil') (mem_cons' m113_4 (mem_nil')) (mem_nil') (mem_nil') (mem_nil') (mem_nil') (mem_nil') (mem_nil') (mem_nil') (mem_nil') (mem_nil') (mem_nil') (mem_nil') (mem_nil') (mem_nil') (mem_nil') (mem_nil') (mem_nil') (mem_nil') (mem_nil') (mem_nil')) rfl e115_3
theorem m123_6 : MemoOk Tryz.prog 123 p123_6.1 p123_6.2 := entry (EnA_ok (mem_nil') (mem_nil') (mem_nil') (mem_nil') (mem_nil') (mem_nil') (mem_nil') (mem_nil') (mem_nil') (mem_nil') (mem_nil') (mem_nil') (mem_nil') (mem_nil') (mem_nil') (mem_nil') (mem_nil') (mem_nil') (mem_nil') (mem_nil') (mem_nil') (mem_nil')) rfl e123_6
theorem m69_4 : MemoOk Tryz.prog 69 p69_4.1 p69_4.2 := entry (EnA_ok (mem_nil') (mem_nil') (mem_nil') (mem_nil') (mem_nil') (mem_nil') (mem_nil') (mem_nil') (mem_nil') (mem_nil') (mem_nil') (mem_nil') (mem_nil') (mem_nil') (mem_nil') (mem_nil') (mem_nil') (mem_nil') (mem_nil') (mem_nil') (mem_nil') (mem_nil')) rfl e69_4
theorem m69_5 : MemoOk Tryz.prog 69 p69_5.1 p69_5.2 := entry (EnA_ok (mem_nil') (mem_nil') (mem_nil') (mem_nil') (mem_nil') (mem_nil') (mem_nil') (mem_nil') (mem_nil') (mem_nil') (mem_nil') (mem_nil') (mem_nil') (mem_nil') (mem_nil') (mem_nil') (mem_nil') (mem_nil') (mem_nil') (mem_nil') (mem_nil') (mem_nil')) rfl e69_5
theorem m113_6 : MemoOk Tryz.prog 113 p113_6.1 p113_6.2 := entry (EnA_ok (mem_nil') (mem_nil') (mem_nil') (mem_nil') (mem_nil') (mem_nil') (mem_nil') (mem_nil') (mem_nil') (mem_nil') (mem_nil') (mem_nil') (mem_nil') (mem_nil') (mem_nil') (mem_nil') (mem_nil') (mem_nil') (mem_nil') (mem_nil') (mem_nil') (mem_nil')) rfl e113_6
theorem m115_4 : MemoOk Tryz.prog 115 p115_4.1 p115_4.2 := entry (EnA_ok (mem_nil') (mem_nil') (mem_cons' m113_6 (mem_nil')) (mem_nil') (mem_nil') (mem_nil') (mem_nil') (mem_nil') (mem_nil') (mem_nil') (mem_nil') (mem_nil') (mem_nil') (mem_nil') (mem_nil') (mem_nil') (mem_nil') (mem_nil') (mem_nil') (mem_nil') (mem_nil') (mem_nil')) rfl e115_4
theorem m123_7 : MemoOk Tryz.prog 123 p123_7.1 p123_7.2 := entry (EnA_ok (mem_nil') (mem_nil') (mem_nil') (mem_nil') (mem_nil') (mem_nil') (mem_nil') (mem_nil') (mem_nil') (mem_nil') (mem_nil') (mem_nil') (mem_nil') (mem_nil') (mem_nil') (mem_nil') (mem_nil') (mem_nil') (mem_nil') (mem_nil') (mem_nil') (mem_nil')) rfl e123_7
theorem m194_5 : MemoOk Tryz.prog 194 p194_5.1 p194_5.2 := entry (EnA_ok (mem_nil') (mem_nil') (mem_nil') (mem_nil') (mem_nil') (mem_nil') (mem_nil') (mem_nil') (mem_nil') (mem_nil') (mem_nil') (mem_nil') (mem_nil') (mem_nil') (mem_nil') (mem_nil') (mem_nil') (mem_nil') (mem_nil') (mem_nil') (mem_nil') (mem_nil')) rfl e194_5
theorem m124_3 : MemoOk Tryz.prog 124 p124_3.1 p124_3.2 := entry (EnA_ok (mem_nil') (mem_nil') (mem_cons' m113_6 (mem_nil')) (mem_cons' m194_5 (mem_nil')) (mem_nil') (mem_nil') (mem_nil') (mem_nil') (mem_nil') (mem_nil') (mem_nil') (mem_nil') (mem_nil') (mem_nil') (mem_nil') (mem_nil') (mem_nil') (mem_nil') (mem_nil') (mem_nil') (mem_nil') (mem_nil')) rfl e124_3
theorem m132_4 : MemoOk Tryz.prog 132 p132_4.1 p132_4.2 := entry (EnA_ok (mem_nil') (mem_nil') (mem_nil') (mem_nil') (mem_nil') (mem_nil') (mem_nil') (mem_nil') (mem_nil') (mem_nil') (mem_nil') (mem_nil') (mem_nil') (mem_nil') (mem_nil') (mem_nil') (mem_nil') (mem_nil') (mem_nil') (mem_nil') (mem_nil') (mem_nil')) rfl e132_4
theorem m135_4 : MemoOk Tryz.prog 135 p135_4.1 p135_4.2 := entry (EnA_ok (mem_nil') (mem_nil') (mem_nil') (mem_nil') (mem_nil') (mem_nil') (mem_nil') (mem_nil') (mem_nil') (mem_nil') (mem_nil') (mem_nil') (mem_nil') (mem_nil') (mem_nil') (mem_nil') (mem_nil') (mem_nil') (mem_nil') (mem_nil') (mem_nil') (mem_nil')) rfl e135_4
theorem m136_2 : MemoOk Tryz.prog 136 p136_2.1 p136_2.2 := entry (EnA_ok (mem_nil') (mem_nil') (mem_nil') (mem_nil') (mem_nil') (mem_nil') (mem_nil') (mem_nil') (mem_nil') (mem_nil') (mem_nil') (mem_nil') (mem_nil') (mem_nil') (mem_nil') (mem_nil') (mem_nil') (mem_nil') (mem_nil') (mem_nil') (mem_nil') (mem_nil')) rfl e136_2
theorem m54_4 : MemoOk Tryz.prog 54 p54_4.1 p54_4.2 := entry (EnA_ok (mem_nil') (mem_nil') (mem_nil') (mem_nil') (mem_nil') (mem_nil') (mem_nil') (mem_nil') (mem_nil') (mem_nil') (mem_nil') (mem_nil') (mem_nil') (mem_nil') (mem_nil') (mem_nil') (mem_nil') (mem_nil') (mem_nil') (mem_nil') (mem_nil') (mem_nil')) rfl e54_4
theorem m69_6 : MemoOk Tryz.prog 69 p69_6.1 p69_6.2 := entry (EnA_ok (mem_nil') (mem_nil') (mem_nil') (mem_nil') (mem_nil') (mem_nil') (mem_nil') (mem_nil') (mem_nil') (mem_nil') (mem_nil') (mem_nil') (mem_nil') (mem_nil') (mem_nil') (mem_nil') (mem_nil') (mem_nil') (mem_nil') (mem_nil') (mem_nil') (mem_nil')) rfl e69_6
theorem m113_7 : MemoOk Tryz.prog 113 p113_7.1 p113_7.2 := entry (EnA_ok (mem_nil') (mem_nil') (mem_nil') (mem_nil') (mem_nil') (mem_nil') (mem_nil') (mem_nil') (mem_nil') (mem_nil') (mem_nil') (mem_nil') (mem_nil') (mem_nil') (mem_nil') (mem_nil') (mem_nil') (mem_nil') (mem_nil') (mem_nil') (mem_nil') (mem_nil')) rfl e113_7
theorem m115_5 : MemoOk Tryz.prog 115 p115_5.1 p115_5.2 := entry (EnA_ok (mem_nil') (mem_nil') (mem_cons' m113_7 (mem_nil')) (mem_nil') (mem_nil') (mem_nil') (mem_nil') (mem_nil') (mem_nil') (mem_nil') (mem_nil') (mem_nil') (mem_nil') (mem_nil') (mem_nil') (mem_nil') (mem_nil') (mem_nil') (mem_nil') (mem_nil') (mem_nil') (mem_nil')) rfl e115_5
theorem m123_8 : MemoOk Tryz.prog 123 p123_8.1 p123_8.2 := entry (EnA_ok (mem_nil') (mem_nil') (mem_nil') (mem_nil') (mem_nil') (mem_nil') (mem_nil') (mem_nil') (mem_nil') (mem_nil') (mem_nil') (mem_nil') (mem_nil') (mem_nil') (mem_nil') (mem_nil') (mem_nil') (mem_nil') (mem_nil') (mem_nil') (mem_nil') (mem_nil')) rfl e123_8
theorem m194_6 : MemoOk Tryz.prog 194 p194_6.1 p194_6.2 := entry (EnA_ok (mem_nil') (mem_nil') (mem_nil') (mem_nil') (mem_nil') (mem_nil') (mem_nil') (mem_nil') (mem_nil') (mem_nil') (mem_nil') (mem_nil') (mem_nil') (mem_nil') (mem_nil') (mem_nil') (mem_nil') (mem_nil') (mem_nil') (mem_nil') (mem_nil') (mem_nil')) rfl e194_6
theorem m124_4 : MemoOk Tryz.prog 124 p124_4.1 p124_4.2 := entry (EnA_ok (mem_nil') (mem_nil') (mem_cons' m113_7 (mem_nil')) (mem_cons' m194_6 (mem_nil')) (mem_nil') (mem_nil') (mem_nil') (mem_nil') (mem_nil') (mem_nil') (mem_nil') (mem_nil') (mem_nil') (mem_nil') (mem_nil') (mem_nil') (mem_nil') (mem_nil') (mem_nil') (mem_nil') (mem_nil') (mem_nil')) rfl e124_4
theorem m113_8 : MemoOk Tryz.prog 113 p113_8.1 p113_8.2 := entry (EnA_ok (mem_nil') (mem_nil') (mem_nil') (mem_nil') (mem_nil') (mem_nil') (mem_nil') (mem_nil') (mem_nil') (mem_nil') (mem_nil') (mem_nil') (mem_nil') (mem_nil') (mem_nil') (mem_nil') (mem_nil') (mem_nil') (mem_nil') (mem_nil') (mem_nil') (mem_nil')) rfl e113_8
theorem m132_5 : MemoOk Tryz.prog 132 p132_5.1 p132_5.2 := entry (EnA_ok (mem_nil') (mem_cons' m123_2 (mem_nil')) (mem_cons' m113_8 (mem_nil')) (mem_nil') (mem_nil') (mem_nil') (mem_nil') (mem_nil') (mem_nil') (mem_nil') (mem_nil') (mem_nil') (mem_nil') (mem_nil') (mem_nil') (mem_nil') (mem_nil') (mem_nil') (mem_nil') (mem_nil') (mem_nil') (mem_nil')) rfl e132_5
theorem m113_9 : MemoOk Tryz.prog 113 p113_9.1 p113_9.2 := entry (EnA_ok (mem_nil') (mem_nil') (mem_nil') (mem_nil') (mem_nil') (mem_nil') (mem_nil') (mem_nil') (mem_nil') (mem_nil') (mem_nil') (mem_nil') (mem_nil') (mem_nil') (mem_nil') (mem_nil') (mem_nil') (mem_nil') (mem_nil') (mem_nil') (mem_nil') (mem_nil')) rfl e113_9
theorem m115_6 : MemoOk Tryz.prog 115 p115_6.1 p115_6.2 := entry (EnA_ok (mem_nil') (mem_nil') (mem_cons' m113_9 (mem_nil')) (mem_nil') (mem_nil') (mem_nil') (mem_nil') (mem_nil') (mem_nil') (mem_nil') (mem_nil') (mem_nil') (mem_nil') (mem_nil') (mem_nil') (mem_nil') (mem_nil') (mem_nil') (mem_nil') (mem_nil') (mem_nil') (mem_nil')) rfl e115_6
theorem m123_9 : MemoOk Tryz.prog 123 p123_9.1 p123_9.2 := entry (EnA_ok (mem_nil') (mem_nil') (mem_nil') (mem_nil') (mem_nil') (mem_nil') (mem_nil') (mem_nil') (mem_nil') (mem_nil') (mem_nil') (mem_nil') (mem_nil') (mem_nil') (mem_nil') (mem_nil') (mem_nil') (mem_nil') (mem_nil') (mem_nil') (mem_nil') (mem_nil')) rfl e123_9
theorem m69_7 : MemoOk Tryz.prog 69 p69_7.1 p69_7.2 := entry (EnA_ok (mem_nil') (mem_nil') (mem_nil') (mem_nil') (mem_nil') (mem_nil') (mem_nil') (mem_nil') (mem_nil') (mem_nil') (mem_nil') (mem_nil') (mem_nil') (mem_nil') (mem_nil') (mem_nil') (mem_nil') (mem_nil') (mem_nil') (mem_nil') (mem_nil') (mem_nil')) rfl e69_7
theorem m113_10 : MemoOk Tryz.prog 113 p113_10.1 p113_10.2 := entry (EnA_ok (mem_nil') (mem_nil') (mem_nil') (mem_nil') (mem_nil') (mem_nil') (mem_nil') (mem_nil') (mem_nil') (mem_nil') (mem_nil') (mem_nil') (mem_nil') (mem_nil') (mem_nil') (mem_nil') (mem_nil') (mem_nil') (mem_nil') (mem_nil') (mem_nil') (mem_nil')) rfl e113_10
theorem m115_7 : MemoOk Tryz.prog 115 p115_7.1 p115_7.2 := entry (EnA_ok (mem_nil') (mem_cons' m123_6 (mem_nil')) (mem_cons' m113_10 (mem_nil')) (mem_nil') (mem_nil') (mem_nil') (mem_nil') (mem_nil') (mem_nil') (mem_nil') (mem_nil') (mem_nil') (mem_nil') (mem_nil') (mem_nil') (mem_nil') (mem_nil') (mem_nil') (mem_nil') (mem_nil') (mem_nil') (mem_nil')) rfl e115_7
theorem m69_8 : MemoOk Tryz.prog 69 p69_8.1 p69_8.2 := entry (EnA_ok (mem_nil') (mem_nil') (mem_nil') (mem_nil') (mem_nil') (mem_nil') (mem_nil') (mem_nil') (mem_nil') (mem_nil') (mem_nil') (mem_nil') (mem_nil') (mem_nil') (mem_nil') (mem_nil') (mem_nil') (mem_nil') (mem_nil') (mem_nil') (mem_nil') (mem_nil')) rfl e69_8
theorem m113_11 : MemoOk Tryz.prog 113 p113_11.1 p113_11.2 := entry (EnA_ok (mem_nil') (mem_nil') (mem_nil') (mem_nil') (mem_nil') (mem_nil') (mem_nil') (mem_nil') (mem_nil') (mem_nil') (mem_nil') (mem_nil') (mem_nil') (mem_nil') (mem_nil') (mem_nil') (mem_nil') (mem_nil') (mem_nil') (mem_nil') (mem_nil') (mem_nil')) rfl e113_11
theorem m115_8 : MemoOk Tryz.prog 115 p115_8.1 p115_8.2 := entry (EnA_ok (mem_nil') (mem_cons' m123_6 (mem_nil')) (mem_cons' m113_11 (mem_nil')) (mem_nil') (mem_nil') (mem_nil') (mem_nil') (mem_nil') (mem_nil') (mem_nil') (mem_nil') (mem_nil') (mem_nil') (mem_nil') (mem_nil') (mem_nil') (mem_nil') (mem_nil') (mem_nil') (mem_nil') (mem_nil') (mem_nil')) rfl e115_8
theorem m69_9 : MemoOk Tryz.prog 69 p69_9.1 p69_9.2 := entry (EnA_ok (mem_nil') (mem_nil') (mem_nil') (mem_nil') (mem_nil') (mem_nil') (mem_nil') (mem_nil') (mem_nil') (mem_nil') (mem_nil') (mem_nil') (mem_nil') (mem_nil') (mem_nil') (mem_nil') (mem_nil') (mem_nil') (mem_nil') (mem_nil') (mem_nil') (mem_nil')) rfl e69_9
theorem m113_12 : MemoOk Tryz.prog 113 p113_12.1 p113_12.2 := entry (EnA_ok (mem_nil') (mem_nil') (mem_nil') (mem_nil') (mem_nil') (mem_nil') (mem_nil') (mem_nil') (mem_nil') (mem_nil') (mem_nil') (mem_nil') (mem_nil') (mem_nil') (mem_nil') (mem_nil') (mem_nil') (mem_nil') (mem_nil') (mem_nil') (mem_nil') (mem_nil')) rfl e113_12
theorem m194_7 : MemoOk Tryz.prog 194 p194_7.1 p194_7.2 := entry (EnA_ok (mem_nil') (mem_nil') (mem_nil') (mem_nil') (mem_nil') (mem_nil') (mem_nil') (mem_nil') (mem_nil') (mem_nil') (mem_nil') (mem_nil') (mem_nil') (mem_nil') (mem_nil') (mem_nil') (mem_nil') (mem_nil') (mem_nil') (mem_nil') (mem_nil') (mem_nil')) rfl e194_7
theorem m113_13 : MemoOk Tryz.prog 113 p113_13.1 p113_13.2 := entry (EnA_ok (mem_nil') (mem_nil') (mem_nil') (mem_nil') (mem_nil') (mem_nil') (mem_nil') (mem_nil') (mem_nil') (mem_nil') (mem_nil') (mem_nil') (mem_nil') (mem_nil') (mem_nil') (mem_nil') (mem_nil') (mem_nil') (mem_nil') (mem_nil') (mem_nil') (mem_nil')) rfl e113_13
theorem m113_14 : MemoOk Tryz.prog 113 p113_14.1 p113_14.2 := entry (EnA_ok (mem_nil') (mem_nil') (mem_nil') (mem_nil') (mem_nil') (mem_nil') (mem_nil') (mem_nil') (mem_nil') (mem_nil') (mem_nil') (mem_nil') (mem_nil') (mem_nil') (mem_nil') (mem_nil') (mem_nil') (mem_nil') (mem_nil') (mem_nil') (mem_nil') (mem_nil')) rfl e113_14
theorem m115_9 : MemoOk Tryz.prog 115 p115_9.1 p115_9.2 := entry (EnA_ok (mem_nil') (mem_nil') (mem_cons' m113_12 (mem_cons' m113_13 (mem_cons' m113_14 (mem_nil')))) (mem_cons' m194_7 (mem_nil')) (mem_nil') (mem_nil') (mem_nil') (mem_nil') (mem_nil') (mem_nil') (mem_nil') (mem_nil') (mem_nil') (mem_nil') (mem_nil') (mem_nil') (mem_nil') (mem_nil') (mem_nil') (mem_nil') (mem_nil') (mem_nil')) rfl e115_9
theorem m69_10 : MemoOk Tryz.prog 69 p69_10.1 p69_10.2 := entry (EnA_ok (mem_nil') (mem_nil') (mem_nil') (mem_nil') (mem_nil') (mem_nil') (mem_nil') (mem_nil') (mem_nil') (mem_nil') (mem_nil') (mem_nil') (mem_nil') (mem_nil') (mem_nil') (mem_nil') (mem_nil') (mem_nil') (mem_nil') (mem_nil') (mem_nil') (mem_nil')) rfl e69_10
theorem m113_15 : MemoOk Tryz.prog 113 p113_15.1 p113_15.2 := entry (EnA_ok (mem_nil') (mem_nil') (mem_nil') (mem_nil') (mem_nil') (mem_nil') (mem_nil') (mem_nil') (mem_nil') (mem_nil') (mem_nil') (mem_nil') (mem_nil') (mem_nil') (mem_nil') (mem_nil') (mem_nil') (mem_nil') (mem_nil') (mem_nil') (mem_nil') (mem_nil')) rfl e113_15
theorem m115_10 : MemoOk Tryz.prog 115 p115_10.1 p115_10.2 := entry (EnA_ok (mem_nil') (mem_nil') (mem_cons' m113_15 (mem_nil')) (mem_nil') (mem_nil') (mem_nil') (mem_nil') (mem_nil') (mem_nil') (mem_nil') (mem_nil') (mem_nil') (mem_nil') (mem_nil') (mem_nil') (mem_nil') (mem_nil') (mem_nil') (mem_nil') (mem_nil') (mem_nil') (mem_nil')) rfl e115_10
theorem m123_10 : MemoOk Tryz.prog 123 p123_10.1 p123_10.2 := entry (EnA_ok (mem_nil') (mem_nil') (mem_nil') (mem_nil') (mem_nil') (mem_nil') (mem_nil') (mem_nil') (mem_nil') (mem_nil') (mem_nil') (mem_nil') (mem_nil') (mem_nil') (mem_nil') (mem_nil') (mem_nil') (mem_nil') (mem_nil') (mem_nil') (mem_nil') (mem_nil')) rfl e123_10
theorem m194_8 : MemoOk Tryz.prog 194 p194_8.1 p194_8.2 := entry (EnA_ok (mem_nil') (mem_nil') (mem_nil') (mem_nil') (mem_nil') (mem_nil') (mem_nil') (mem_nil') (mem_nil') (mem_nil') (mem_nil') (mem_nil') (mem_nil') (mem_nil') (mem_nil') (mem_nil') (mem_nil') (mem_nil') (mem_nil') (mem_nil') (mem_nil') (mem_nil')) rfl e194_8
theorem m124_5 : MemoOk Tryz.prog 124 p124_5.1 p124_5.2 := entry (EnA_ok (mem_nil') (mem_nil') (mem_cons' m113_15 (mem_nil')) (mem_cons' m194_8 (mem_nil')) (mem_nil') (mem_nil') (mem_nil') (mem_nil') (mem_nil') (mem_nil') (mem_nil') (mem_nil') (mem_nil') (mem_nil') (mem_nil') (mem_nil') (mem_nil') (mem_nil') (mem_nil') (mem_nil') (mem_nil') (mem_nil')) rfl e124_5
theorem m113_16 : MemoOk Tryz.prog 113 p113_16.1 p113_16.2 := entry (EnA_ok (mem_nil') (mem_nil') (mem_nil') (mem_nil') (mem_nil') (mem_nil') (mem_nil') (mem_nil') (mem_nil') (mem_nil') (mem_nil') (mem_nil') (mem_nil') (mem_nil') (mem_nil') (mem_nil') (mem_nil') (mem_nil') (mem_nil') (mem_nil') (mem_nil') (mem_nil')) rfl e113_16
theorem m194_9 : MemoOk Tryz.prog 194 p194_9.1 p194_9.2 := entry (EnA_ok (mem_nil') (mem_nil') (mem_nil') (mem_nil') (mem_nil') (mem_nil') (mem_nil') (mem_nil') (mem_nil') (mem_nil') (mem_nil') (mem_nil') (mem_nil') (mem_nil') (mem_nil') (mem_nil') (mem_nil') (mem_nil') (mem_nil') (mem_nil') (mem_nil') (mem_nil')) rfl e194_9
theorem m124_6 : MemoOk Tryz.prog 124 p124_6.1 p124_6.2 := entry (EnA_ok (mem_nil') (mem_nil') (mem_cons' m113_16 (mem_nil')) (mem_cons' m194_9 (mem_nil')) (mem_nil') (mem_nil') (mem_nil') (mem_nil') (mem_nil') (mem_nil') (mem_nil') (mem_nil') (mem_nil') (mem_nil') (mem_nil') (mem_nil') (mem_nil') (mem_nil') (mem_nil') (mem_nil') (mem_nil') (mem_nil')) rfl e124_6
theorem m123_11 : MemoOk Tryz.prog 123 p123_11.1 p123_11.2 := entry (EnA_ok (mem_nil') (mem_nil') (mem_nil') (mem_nil') (mem_nil') (mem_nil') (mem_nil') (mem_nil') (mem_nil') (mem_nil') (mem_nil') (mem_nil') (mem_nil') (mem_nil') (mem_nil') (mem_nil') (mem_nil') (mem_nil') (mem_nil') (mem_nil') (mem_nil') (mem_nil')) rfl e123_11
theorem m69_11 : MemoOk Tryz.prog 69 p69_11.1 p69_11.2 := entry (EnA_ok (mem_nil') (mem_nil') (mem_nil') (mem_nil') (mem_nil') (mem_nil') (mem_nil') (mem_nil') (mem_nil') (mem_nil') (mem_nil') (mem_nil') (mem_nil') (mem_nil') (mem_nil') (mem_nil') (mem_nil') (mem_nil') (mem_nil') (mem_nil') (mem_nil') (mem_nil')) rfl e69_11
theorem m113_17 : MemoOk Tryz.prog 113 p113_17.1 p113_17.2 := entry (EnA_ok (mem_nil') (mem_nil') (mem_nil') (mem_nil') (mem_nil') (mem_nil') (mem_nil') (mem_nil') (mem_nil') (mem_nil') (mem_nil') (mem_nil') (mem_nil') (mem_nil') (mem_nil') (mem_nil') (mem_nil') (mem_nil') (mem_nil') (mem_nil') (mem_nil') (mem_nil')) rfl e113_17
theorem m115_11 : MemoOk Tryz.prog 115 p115_11.1 p115_11.2 := entry (EnA_ok (mem_nil') (mem_nil') (mem_cons' m113_17 (mem_nil')) (mem_nil') (mem_nil') (mem_nil') (mem_nil') (mem_nil') (mem_nil') (mem_nil') (mem_nil') (mem_nil') (mem_nil') (mem_nil') (mem_nil') (mem_nil') (mem_nil') (mem_nil') (mem_nil') (mem_nil') (mem_nil') (mem_nil')) rfl e115_11
theorem m123_12 : MemoOk Tryz.prog 123 p123_12.1 p123_12.2 := entry (EnA_ok (mem_nil') (mem_nil') (mem_nil') (mem_nil') (mem_nil') (mem_nil') (mem_nil') (mem_nil') (mem_nil') (mem_nil') (mem_nil') (mem_nil') (mem_nil') (mem_nil') (mem_nil') (mem_nil') (mem_nil') (mem_nil') (mem_nil') (mem_nil') (mem_nil') (mem_nil')) rfl e123_12
theorem m194_10 : MemoOk Tryz.prog 194 p194_10.1 p194_10.2 := entry (EnA_ok (mem_nil') (mem_nil') (mem_nil') (mem_nil') (mem_nil') (mem_nil') (mem_nil') (mem_nil') (mem_nil') (mem_nil') (mem_nil') (mem_nil') (mem_nil') (mem_nil') (mem_nil') (mem_nil') (mem_nil') (mem_nil') (mem_nil') (mem_nil') (mem_nil') (mem_nil')) rfl e194_10
theorem m124_7 : MemoOk Tryz.prog 124 p124_7.1 p124_7.2 := entry (EnA_ok (mem_nil') (mem_nil') (mem_cons' m113_17 (mem_nil')) (mem_cons' m194_10 (mem_nil')) (mem_nil') (mem_nil') (mem_nil') (mem_nil') (mem_nil') (mem_nil') (mem_nil') (mem_nil') (mem_nil') (mem_nil') (mem_nil') (mem_nil') (mem_nil') (mem_nil') (mem_nil') (mem_nil') (mem_nil') (mem_nil')) rfl e124_7
theorem m69_12 : MemoOk Tryz.prog 69 p69_12.1 p69_12.2 := entry (EnA_ok (mem_nil') (mem_nil') (mem_nil') (mem_nil') (mem_nil') (mem_nil') (mem_nil') (mem_nil') (mem_nil') (mem_nil') (mem_nil') (mem_nil') (mem_nil') (mem_nil') (mem_nil') (mem_nil') (mem_nil') (mem_nil') (mem_nil') (mem_nil') (mem_nil') (mem_nil')) rfl e69_12
theorem m113_18 : MemoOk Tryz.prog 113 p113_18.1 p113_18.2 := entry (EnA_ok (mem_nil') (mem_nil') (mem_nil') (mem_nil') (mem_nil') (mem_nil') (mem_nil') (mem_nil') (mem_nil') (mem_nil') (mem_nil') (mem_nil') (mem_nil') (mem_nil') (mem_nil') (mem_nil') (mem_nil') (mem_nil') (mem_nil') (mem_nil') (mem_nil') (mem_nil')) rfl e113_18
theorem m115_12 : MemoOk Tryz.prog 115 p115_12.1 p115_12.2 := entry (EnA_ok (mem_nil') (mem_nil') (mem_cons' m113_18 (mem_nil')) (mem_nil') (mem_nil') (mem_nil') (mem_nil') (mem_nil') (mem_nil') (mem_nil') (mem_nil') (mem_nil') (mem_nil') (mem_nil') (mem_nil') (mem_nil') (mem_nil') (mem_nil') (mem_nil') (mem_nil') (mem_nil') (mem_nil')) rfl e115_12
theorem m123_13 : MemoOk Tryz.prog 123 p123_13.1 p123_13.2 := entry (EnA_ok (mem_nil') (mem_nil') (mem_nil') (mem_nil') (mem_nil') (mem_nil') (mem_nil') (mem_nil') (mem_nil') (mem_nil') (mem_nil') (mem_nil') (mem_nil') (mem_nil') (mem_nil') (mem_nil') (mem_nil') (mem_nil') (mem_nil') (mem_nil') (mem_nil') (mem_nil')) rfl e123_13
theorem m194_11 : MemoOk Tryz.prog 194 p194_11.1 p194_11.2 := entry (EnA_ok (mem_nil') (mem_nil') (mem_nil') (mem_nil') (mem_nil') (mem_nil') (mem_nil') (mem_nil') (mem_nil') (mem_nil') (mem_nil') (mem_nil') (mem_nil') (mem_nil') (mem_nil') (mem_nil') (mem_nil') (mem_nil') (mem_nil') (mem_nil') (mem_nil') (mem_nil')) rfl e194_11
theorem m124_8 : MemoOk Tryz.prog 124 p124_8.1 p124_8.2 := entry (EnA_ok (mem_nil') (mem_nil') (mem_cons' m113_18 (mem_nil')) (mem_cons' m194_11 (mem_nil')) (mem_nil') (mem_nil') (mem_nil') (mem_nil') (mem_nil') (mem_nil') (mem_nil') (mem_nil') (mem_nil') (mem_nil') (mem_nil') (mem_nil') (mem_nil') (mem_nil') (mem_nil') (mem_nil') (mem_nil') (mem_nil')) rfl e124_8
theorem m123_14 : MemoOk Tryz.prog 123 p123_14.1 p123_14.2 := entry (EnA_ok (mem_nil') (mem_nil') (mem_nil') (mem_nil') (mem_nil') (mem_nil') (mem_nil') (mem_nil') (mem_nil') (mem_nil') (mem_nil') (mem_nil') (mem_nil') (mem_nil') (mem_nil') (mem_nil') (mem_nil') (mem_nil') (mem_nil') (mem_nil') (mem_nil') (mem_nil')) rfl e123_14
theorem m113_19 : MemoOk Tryz.prog 113 p113_19.1 p113_19.2 := entry (EnA_ok (mem_nil') (mem_nil') (mem_nil') (mem_nil') (mem_nil') (mem_nil') (mem_nil') (mem_nil') (mem_nil') (mem_nil') (mem_nil') (mem_nil') (mem_nil') (mem_nil') (mem_nil') (mem_nil') (mem_nil') (mem_nil') (mem_nil') (mem_nil') (mem_nil') (mem_nil')) rfl e113_19
theorem m132_6 : MemoOk Tryz.prog 132 p132_6.1 p132_6.2 := entry (EnA_ok (mem_nil') (mem_cons' m123_14 (mem_nil')) (mem_cons' m113_19 (mem_nil')) (mem_nil') (mem_nil') (mem_nil') (mem_nil') (mem_nil') (mem_nil') (mem_nil') (mem_nil') (mem_nil') (mem_nil') (mem_nil') (mem_nil') (mem_nil') (mem_nil') (mem_nil') (mem_nil') (mem_nil') (mem_nil') (mem_nil')) rfl e132_6
theorem m54_5 : MemoOk Tryz.prog 54 p54_5.1 p54_5.2 := entry (EnA_ok (mem_nil') (mem_nil') (mem_nil') (mem_nil') (mem_nil') (mem_nil') (mem_nil') (mem_nil') (mem_nil') (mem_nil') (mem_nil') (mem_nil') (mem_nil') (mem_nil') (mem_nil') (mem_nil') (mem_nil') (mem_nil') (mem_nil') (mem_nil') (mem_nil') (mem_nil')) rfl e54_5
theorem m55_4 : MemoOk Tryz.prog 55 p55_4.1 p55_4.2 := entry (EnA_ok (mem_nil') (mem_nil') (mem_nil') (mem_nil') (mem_nil') (mem_nil') (mem_nil') (mem_nil') (mem_nil') (mem_nil') (mem_nil') (mem_nil') (mem_nil') (mem_nil') (mem_nil') (mem_nil') (mem_nil') (mem_nil') (mem_nil') (mem_nil') (mem_nil') (mem_nil')) rfl e55_4
theorem m56_4 : MemoOk Tryz.prog 56 p56_4.1 p56_4.2 := entry (EnA_ok (mem_nil') (mem_nil') (mem_nil') (mem_nil') (mem_nil') (mem_nil') (mem_nil') (mem_nil') (mem_nil') (mem_nil') (mem_nil') (mem_nil') (mem_nil') (mem_nil') (mem_nil') (mem_nil') (mem_nil') (mem_nil') (mem_nil') (mem_nil') (mem_nil') (mem_nil')) rfl e56_4
theorem m69_13 : MemoOk Tryz.prog 69 p69_13.1 p69_13.2 := entry (EnA_ok (mem_nil') (mem_nil') (mem_nil') (mem_nil') (mem_nil') (mem_nil') (mem_nil') (mem_nil') (mem_nil') (mem_nil') (mem_nil') (mem_nil') (mem_nil') (mem_nil') (mem_nil') (mem_nil') (mem_nil') (mem_nil') (mem_nil') (mem_nil') (mem_nil') (mem_nil')) rfl e69_13
theorem m113_20 : MemoOk Tryz.prog 113 p113_20.1 p113_20.2 := entry (EnA_ok (mem_nil') (mem_nil') (mem_nil') (mem_nil') (mem_nil') (mem_nil') (mem_nil') (mem_nil') (mem_nil') (mem_nil') (mem_nil') (mem_nil') (mem_nil') (mem_nil') (mem_nil') (mem_nil') (mem_nil') (mem_nil') (mem_nil') (mem_nil') (mem_nil') (mem_nil')) rfl e113_20
theorem m115_13 : MemoOk Tryz.prog 115 p115_13.1 p115_13.2 := entry (EnA_ok (mem_nil') (mem_nil') (mem_cons' m113_20 (mem_nil')) (mem_nil') (mem_nil') (mem_nil') (mem_nil') (mem_nil') (mem_nil') (mem_nil') (mem_nil') (mem_nil') (mem_nil') (mem_nil') (mem_nil') (mem_nil') (mem_nil') (mem_nil') (mem_nil') (mem_nil') (mem_nil') (mem_nil')) rfl e115_13
theorem m123_15 : MemoOk Tryz.prog 123 p123_15.1 p123_15.2 := entry (EnA_ok (mem_nil') (mem_nil') (mem_nil') (mem_nil') (mem_nil') (mem_nil') (mem_nil') (mem_nil') (mem_nil') (mem_nil') (mem_nil') (mem_nil') (mem_nil') (mem_nil') (mem_nil') (mem_nil') (mem_nil') (mem_nil') (mem_nil') (mem_nil') (mem_nil') (mem_nil')) rfl e123_15
theorem m194_12 : MemoOk Tryz.prog 194 p194_12.1 p194_12.2 := entry (EnA_ok (mem_nil') (mem_nil') (mem_nil') (mem_nil') (mem_nil') (mem_nil') (mem_nil') (mem_nil') (mem_nil') (mem_nil') (mem_nil') (mem_nil') (mem_nil') (mem_nil') (mem_nil') (mem_nil') (mem_nil') (mem_nil') (mem_nil') (mem_nil') (mem_nil') (mem_nil')) rfl e194_12
theorem m124_9 : MemoOk Tryz.prog 124 p124_9.1 p124_9.2 := entry (EnA_ok (mem_nil') (mem_nil') (mem_cons' m113_20 (mem_nil')) (mem_cons' m194_12 (mem_nil')) (mem_nil') (mem_nil') (mem_nil') (mem_nil') (mem_nil') (mem_nil') (mem_nil') (mem_nil') (mem_nil') (mem_nil') (mem_nil') (mem_nil') (mem_nil') (mem_nil') (mem_nil') (mem_nil') (mem_nil') (mem_nil')) rfl e124_9
theorem m132_7 : MemoOk Tryz.prog 132 p132_7.1 p132_7.2 := entry (EnA_ok (mem_nil') (mem_nil') (mem_nil') (mem_nil') (mem_nil') (mem_nil') (mem_nil') (mem_nil') (mem_nil') (mem_nil') (mem_nil') (mem_nil') (mem_nil') (mem_nil') (mem_nil') (mem_nil') (mem_nil') (mem_nil') (mem_nil') (mem_nil') (mem_nil') (mem_nil')) rfl e132_7
theorem m54_6 : MemoOk Tryz.prog 54 p54_6.1 p54_6.2 := entry (EnA_ok (mem_nil') (mem_nil') (mem_nil') (mem_nil') (mem_nil') (mem_nil') (mem_nil') (mem_nil') (mem_nil') (mem_nil') (mem_nil') (mem_nil') (mem_nil') (mem_nil') (mem_nil') (mem_nil') (mem_nil') (mem_nil') (mem_nil') (mem_nil') (mem_nil') (mem_nil')) rfl e54_6
theorem m55_5 : MemoOk Tryz.prog 55 p55_5.1 p55_5.2 := entry (EnA_ok (mem_nil') (mem_nil') (mem_nil') (mem_nil') (mem_nil') (mem_nil') (mem_nil') (mem_nil') (mem_nil') (mem_nil') (mem_nil') (mem_nil') (mem_nil') (mem_nil') (mem_nil') (mem_nil') (mem_nil') (mem_nil') (mem_nil') (mem_nil') (mem_nil') (mem_nil')) rfl e55_5
theorem m56_5 : MemoOk Tryz.prog 56 p56_5.1 p56_5.2 := entry (EnA_ok (mem_nil') (mem_nil') (mem_nil') (mem_nil') (mem_nil') (mem_nil') (mem_nil') (mem_nil') (mem_nil') (mem_nil') (mem_nil') (mem_nil') (mem_nil') (mem_nil') (mem_nil') (mem_nil') (mem_nil') (mem_nil') (mem_nil') (mem_nil') (mem_nil') (mem_nil')) rfl e56_5
theorem m113_21 : MemoOk Tryz.prog 113 p113_21.1 p113_21.2 := entry (EnA_ok (mem_nil') (mem_nil') (mem_nil') (mem_nil') (mem_nil') (mem_nil') (mem_nil') (mem_nil') (mem_nil') (mem_nil') (mem_nil') (mem_nil') (mem_nil') (mem_nil') (mem_nil') (mem_nil') (mem_nil') (mem_nil') (mem_nil') (mem_nil') (mem_nil') (mem_nil')) rfl e113_21
theorem m194_13 : MemoOk Tryz.prog 194 p194_13.1 p194_13.2 := entry (EnA_ok (mem_nil') (mem_nil') (mem_nil') (mem_nil') (mem_nil') (mem_nil') (mem_nil') (mem_nil') (mem_nil') (mem_nil') (mem_nil') (mem_nil') (mem_nil') (mem_nil') (mem_nil') (mem_nil') (mem_nil') (mem_nil') (mem_nil') (mem_nil') (mem_nil') (mem_nil')) rfl e194_13
theorem m84_2 : MemoOk Tryz.prog 84 p84_2.1 p84_2.2 := entry (EnA_ok (mem_nil') (mem_nil') (mem_cons' m113_21 (mem_cons' m113_4 (mem_nil'))) (mem_cons' m194_13 (mem_nil')) (mem_nil') (mem_nil') (mem_nil') (mem_nil') (mem_nil') (mem_nil') (mem_nil') (mem_nil') (mem_nil') (mem_nil') (mem_nil') (mem_nil') (mem_nil') (mem_nil') (mem_nil') (mem_nil') (mem_nil') (mem_nil')) rfl e84_2
theorem m200_0 : MemoOk Tryz.prog 200 p200_0.1 p200_0.2 := entry (EnA_ok (mem_nil') (mem_nil') (mem_nil') (mem_nil') (mem_nil') (mem_nil') (mem_nil') (mem_nil') (mem_nil') (mem_nil') (mem_nil') (mem_nil') (mem_nil') (mem_nil') (mem_nil') (mem_nil') (mem_nil') (mem_nil') (mem_nil') (mem_nil') (mem_nil') (mem_nil')) rfl e200_0
theorem m202_0 : MemoOk Tryz.prog 202 p202_0.1 p202_0.2 := entry (EnA_ok (mem_nil') (mem_nil') (mem_nil') (mem_nil') (mem_nil') (mem_nil') (mem_nil') (mem_nil') (mem_nil') (mem_nil') (mem_nil') (mem_nil') (mem_nil') (mem_nil') (mem_nil') (mem_nil') (mem_nil') (mem_nil') (mem_nil') (mem_nil') (mem_nil') (mem_nil')) rfl e202_0
theorem m206_0 : MemoOk Tryz.prog 206 p206_0.1 p206_0.2 := entry (EnA_ok (mem_nil') (mem_nil') (mem_nil') (mem_nil') (mem_nil') (mem_nil') (mem_nil') (mem_nil') (mem_nil') (mem_nil') (mem_nil') (mem_nil') (mem_nil') (mem_nil') (mem_nil') (mem_nil') (mem_nil') (mem_nil') (mem_nil') (mem_nil') (mem_nil') (mem_nil')) rfl e206_0
theorem m204_0 : MemoOk Tryz.prog 204 p204_0.1 p204_0.2 := entry (EnA_ok (mem_nil') (mem_nil') (mem_nil') (mem_nil') (mem_nil') (mem_nil') (mem_nil') (mem_nil') (mem_nil') (mem_nil') (mem_nil') (mem_nil') (mem_nil') (mem_nil') (mem_nil') (mem_nil') (mem_nil') (mem_nil') (mem_nil') (mem_nil') (mem_nil') (mem_cons' m206_0 (mem_nil'))) rfl e204_0
theorem m69_14 : MemoOk Tryz.prog 69 p69_14.1 p69_14.2 := entry (EnA_ok (mem_nil') (mem_nil') (mem_nil') (mem_nil') (mem_nil') (mem_nil') (mem_nil') (mem_nil') (mem_nil') (mem_nil') (mem_nil') (mem_nil') (mem_nil') (mem_nil') (mem_nil') (mem_nil') (mem_nil') (mem_nil') (mem_nil') (mem_nil') (mem_nil') (mem_nil')) rfl e69_14
theorem m113_22 : MemoOk Tryz.prog 113 p113_22.1 p113_22.2 := entry (EnA_ok (mem_nil') (mem_nil') (mem_nil') (mem_nil') (mem_nil') (mem_nil') (mem_nil') (mem_nil') (mem_nil') (mem_nil') (mem_nil') (mem_nil') (mem_nil') (mem_nil') (mem_nil') (mem_nil') (mem_nil') (mem_nil') (mem_nil') (mem_nil') (mem_nil') (mem_nil')) rfl e113_22
theorem m115_14 : MemoOk Tryz.prog 115 p115_14.1 p115_14.2 := entry (EnA_ok (mem_nil') (mem_nil') (mem_cons' m113_22 (mem_nil')) (mem_nil') (mem_nil') (mem_nil') (mem_nil') (mem_nil') (mem_nil') (mem_nil') (mem_nil') (mem_nil') (mem_nil') (mem_nil') (mem_nil') (mem_nil') (mem_nil') (mem_nil') (mem_nil') (mem_nil') (mem_nil') (mem_nil')) rfl e115_14
theorem m123_16 : MemoOk Tryz.prog 123 p123_16.1 p123_16.2 := entry (EnA_ok (mem_nil') (mem_nil') (mem_nil') (mem_nil') (mem_nil') (mem_nil') (mem_nil') (mem_nil') (mem_nil') (mem_nil') (mem_nil') (mem_nil') (mem_nil') (mem_nil') (mem_nil') (mem_nil') (mem_nil') (mem_nil') (mem_nil') (mem_nil') (mem_nil') (mem_nil')) rfl e123_16
theorem m194_14 : MemoOk Tryz.prog 194 p194_14.1 p194_14.2 := entry (EnA_ok (mem_nil') (mem_nil') (mem_nil') (mem_nil') (mem_nil') (mem_nil') (mem_nil') (mem_nil') (mem_nil') (mem_nil') (mem_nil') (mem_nil') (mem_nil') (mem_nil') (mem_nil') (mem_nil') (mem_nil') (mem_nil') (mem_nil') (mem_nil') (mem_nil') (mem_nil')) rfl e194_14
theorem m124_10 : MemoOk Tryz.prog 124 p124_10.1 p124_10.2 := entry (EnA_ok (mem_nil') (mem_nil') (mem_cons' m113_22 (mem_nil')) (mem_cons' m194_14 (mem_nil')) (mem_nil') (mem_nil') (mem_nil') (mem_nil') (mem_nil') (mem_nil') (mem_nil') (mem_nil') (mem_nil') (mem_nil') (mem_nil') (mem_nil') (mem_nil') (mem_nil') (mem_nil') (mem_nil') (mem_nil') (mem_nil')) rfl e124_10
theorem m132_8 : MemoOk Tryz.prog 132 p132_8.1 p132_8.2 := entry (EnA_ok (mem_nil') (mem_nil') (mem_nil') (mem_nil') (mem_nil') (mem_nil') (mem_nil') (mem_nil') (mem_nil') (mem_nil') (mem_nil') (mem_nil') (mem_nil') (mem_nil') (mem_nil') (mem_nil') (mem_nil') (mem_nil') (mem_nil') (mem_nil') (mem_nil') (mem_nil')) rfl e132_8
theorem m135_5 : MemoOk Tryz.prog 135 p135_5.1 p135_5.2 := entry (EnA_ok (mem_nil') (mem_nil') (mem_nil') (mem_nil') (mem_nil') (mem_nil') (mem_nil') (mem_nil') (mem_nil') (mem_nil') (mem_nil') (mem_nil') (mem_nil') (mem_nil') (mem_nil') (mem_nil') (mem_nil') (mem_nil') (mem_nil') (mem_nil') (mem_nil') (mem_nil')) rfl e135_5
theorem m132_9 : MemoOk Tryz.prog 132 p132_9.1 p132_9.2 := entry (EnA_ok (mem_nil') (mem_nil') (mem_nil') (mem_nil') (mem_nil') (mem_nil') (mem_nil') (mem_nil') (mem_nil') (mem_nil') (mem_nil') (mem_nil') (mem_nil') (mem_nil') (mem_nil') (mem_nil') (mem_nil') (mem_nil') (mem_nil') (mem_nil') (mem_nil') (mem_nil')) rfl e132_9
theorem m136_3 : MemoOk Tryz.prog 136 p136_3.1 p136_3.2 := entry (EnA_ok (mem_nil') (mem_nil') (mem_nil') (mem_nil') (mem_nil') (mem_nil') (mem_nil') (mem_nil') (mem_nil') (mem_nil') (mem_nil') (mem_nil') (mem_nil') (mem_nil') (mem_nil') (mem_nil') (mem_nil') (mem_nil') (mem_nil') (mem_nil') (mem_nil') (mem_nil')) rfl e136_3
theorem m54_7 : MemoOk Tryz.prog 54 p54_7.1 p54_7.2 := entry (EnA_ok (mem_nil') (mem_nil') (mem_nil') (mem_nil') (mem_nil') (mem_nil') (mem_nil') (mem_nil') (mem_nil') (mem_nil') (mem_nil') (mem_nil') (mem_nil') (mem_nil') (mem_nil') (mem_nil') (mem_nil') (mem_nil') (mem_nil') (mem_nil') (mem_nil') (mem_nil')) rfl e54_7
theorem m55_6 : MemoOk Tryz.prog 55 p55_6.1 p55_6.2 := entry (EnA_ok (mem_nil') (mem_nil') (mem_nil') (mem_nil') (mem_nil') (mem_nil') (mem_nil') (mem_nil') (mem_nil') (mem_nil') (mem_nil') (mem_nil') (mem_nil') (mem_nil') (mem_nil') (mem_nil') (mem_nil') (mem_nil') (mem_nil') (mem_nil') (mem_nil') (mem_nil')) rfl e55_6
theorem m56_6 : MemoOk Tryz.prog 56 p56_6.1 p56_6.2 := entry (EnA_ok (mem_nil') (mem_nil') (mem_nil') (mem_nil') (mem_nil') (mem_nil') (mem_nil') (mem_nil') (mem_nil') (mem_nil') (mem_nil') (mem_nil') (mem_nil') (mem_nil') (mem_nil') (mem_nil') (mem_nil') (mem_nil') (mem_nil') (mem_nil') (mem_nil') (mem_nil')) rfl e56_6
theorem m84_3 : MemoOk Tryz.prog 84 p84_3.1 p84_3.2 := entry (EnA_ok (mem_nil') (mem_nil') (mem_cons' m113_4 (mem_nil')) (mem_nil') (mem_nil') (mem_nil') (mem_nil') (mem_nil') (mem_nil') (mem_nil') (mem_nil') (mem_nil') (mem_nil') (mem_nil') (mem_nil') (mem_nil') (mem_nil') (mem_nil') (mem_nil') (mem_nil') (mem_nil') (mem_nil')) rfl e84_3
theorem m140_2 : MemoOk Tryz.prog 140 p140_2.1 p140_2.2 := entry (EnA_ok (mem_nil') (mem_nil') (mem_nil') (mem_nil') (mem_cons' m84_3 (mem_nil')) (mem_nil') (mem_nil') (mem_nil') (mem_nil') (mem_nil') (mem_cons' m135_5 (mem_nil')) (mem_nil') (mem_nil') (mem_nil') (mem_nil') (mem_nil') (mem_nil') (mem_nil') (mem_nil') (mem_nil') (mem_nil') (mem_nil')) rfl e140_2
theorem m69_15 : MemoOk Tryz.prog 69 p69_15.1 p69_15.2 := entry (EnA_ok (mem_nil') (mem_nil') (mem_nil') (mem_nil') (mem_nil') (mem_nil') (mem_nil') (mem_nil') (mem_nil') (mem_nil') (mem_nil') (mem_nil') (mem_nil') (mem_nil') (mem_nil') (mem_nil') (mem_nil') (mem_nil') (mem_nil') (mem_nil') (mem_nil') (mem_nil')) rfl e69_15
theorem m113_23 : MemoOk Tryz.prog 113 p113_23.1 p113_23.2 := entry (EnA_ok (mem_nil') (mem_nil') (mem_nil') (mem_nil') (mem_nil') (mem_nil') (mem_nil') (mem_nil') (mem_nil') (mem_nil') (mem_nil') (mem_nil') (mem_nil') (mem_nil') (mem_nil') (mem_nil') (mem_nil') (mem_nil') (mem_nil') (mem_nil') (mem_nil') (mem_nil')) rfl e113_23
theorem m115_15 : MemoOk Tryz.prog 115 p115_15.1 p115_15.2 := entry (EnA_ok (mem_nil') (mem_nil') (mem_cons' m113_23 (mem_nil')) (mem_nil') (mem_nil') (mem_nil') (mem_nil') (mem_nil') (mem_nil') (mem_nil') (mem_nil') (mem_nil') (mem_nil') (mem_nil') (mem_nil') (mem_nil') (mem_nil') (mem_nil') (mem_nil') (mem_nil') (mem_nil') (mem_nil')) rfl e115_15
theorem m123_17 : MemoOk Tryz.prog 123 p123_17.1 p123_17.2 := entry (EnA_ok (mem_nil') (mem_nil') (mem_nil') (mem_nil') (mem_nil') (mem_nil') (mem_nil') (mem_nil') (mem_nil') (mem_nil') (mem_nil') (mem_nil') (mem_nil') (mem_nil') (mem_nil') (mem_nil') (mem_nil') (mem_nil') (mem_nil') (mem_nil') (mem_nil') (mem_nil')) rfl e123_17
theorem m194_15 : MemoOk Tryz.prog 194 p194_15.1 p194_15.2 := entry (EnA_ok (mem_nil') (mem_nil') (mem_nil') (mem_nil') (mem_nil') (mem_nil') (mem_nil') (mem_nil') (mem_nil') (mem_nil') (mem_nil') (mem_nil') (mem_nil') (mem_nil') (mem_nil') (mem_nil') (mem_nil') (mem_nil') (mem_nil') (mem_nil') (mem_nil') (mem_nil')) rfl e194_15
theorem m124_11 : MemoOk Tryz.prog 124 p124_11.1 p124_11.2 := entry (EnA_ok (mem_nil') (mem_nil') (mem_cons' m113_23 (mem_nil')) (mem_cons' m194_15 (mem_nil')) (mem_nil') (mem_nil') (mem_nil') (mem_nil') (mem_nil') (mem_nil') (mem_nil') (mem_nil') (mem_nil') (mem_nil') (mem_nil') (mem_nil') (mem_nil') (mem_nil') (mem_nil') (mem_nil') (mem_nil') (mem_nil')) rfl e124_11
theorem m132_10 : MemoOk Tryz.prog 132 p132_10.1 p132_10.2 := entry (EnA_ok (mem_nil') (mem_nil') (mem_nil') (mem_nil') (mem_nil') (mem_nil') (mem_nil') (mem_nil') (mem_nil') (mem_nil') (mem_nil') (mem_nil') (mem_nil') (mem_nil') (mem_nil') (mem_nil') (mem_nil') (mem_nil') (mem_nil') (mem_nil') (mem_nil') (mem_nil')) rfl e132_10
theorem m135_6 : MemoOk Tryz.prog 135 p135_6.1 p135_6.2 := entry (EnA_ok (mem_nil') (mem_nil') (mem_nil') (mem_nil') (mem_nil') (mem_nil') (mem_nil') (mem_nil') (mem_nil') (mem_nil') (mem_nil') (mem_nil') (mem_nil') (mem_nil') (mem_nil') (mem_nil') (mem_nil') (mem_nil') (mem_nil') (mem_nil') (mem_nil') (mem_nil')) rfl e135_6
theorem m132_11 : MemoOk Tryz.prog 132 p132_11.1 p132_11.2 := entry (EnA_ok (mem_nil') (mem_nil') (mem_nil') (mem_nil') (mem_nil') (mem_nil') (mem_nil') (mem_nil') (mem_nil') (mem_nil') (mem_nil') (mem_nil') (mem_nil') (mem_nil') (mem_nil') (mem_nil') (mem_nil') (mem_nil') (mem_nil') (mem_nil') (mem_nil') (mem_nil')) rfl e132_11
theorem m136_4 : MemoOk Tryz.prog 136 p136_4.1 p136_4.2 := entry (EnA_ok (mem_nil') (mem_nil') (mem_nil') (mem_nil') (mem_nil') (mem_nil') (mem_nil') (mem_nil') (mem_nil') (mem_nil') (mem_nil') (mem_nil') (mem_nil') (mem_nil') (mem_nil') (mem_nil') (mem_nil') (mem_nil') (mem_nil') (mem_nil') (mem_nil') (mem_nil')) rfl e136_4
theorem m54_8 : MemoOk Tryz.prog 54 p54_8.1 p54_8.2 := entry (EnA_ok (mem_nil') (mem_nil') (mem_nil') (mem_nil') (mem_nil') (mem_nil') (mem_nil') (mem_nil') (mem_nil') (mem_nil') (mem_nil') (mem_nil') (mem_nil') (mem_nil') (mem_nil') (mem_nil') (mem_nil') (mem_nil') (mem_nil') (mem_nil') (mem_nil') (mem_nil')) rfl e54_8
theorem m55_7 : MemoOk Tryz.prog 55 p55_7.1 p55_7.2 := entry (EnA_ok (mem_nil') (mem_nil') (mem_nil') (mem_nil') (mem_nil') (mem_nil') (mem_nil') (mem_nil') (mem_nil') (mem_nil') (mem_nil') (mem_nil') (mem_nil') (mem_nil') (mem_nil') (mem_nil') (mem_nil') (mem_nil') (mem_nil') (mem_nil') (mem_nil') (mem_nil')) rfl e55_7
theorem m56_7 : MemoOk Tryz.prog 56 p56_7.1 p56_7.2 := entry (EnA_ok (mem_nil') (mem_nil') (mem_nil') (mem_nil') (mem_nil') (mem_nil') (mem_nil') (mem_nil') (mem_nil') (mem_nil') (mem_nil') (mem_nil') (mem_nil') (mem_nil') (mem_nil') (mem_nil') (mem_nil') (mem_nil') (mem_nil') (mem_nil') (mem_nil') (mem_nil')) rfl e56_7
theorem m113_24 : MemoOk Tryz.prog 113 p113_24.1 p113_24.2 := entry (EnA_ok (mem_nil') (mem_nil') (mem_nil') (mem_nil') (mem_nil') (mem_nil') (mem_nil') (mem_nil') (mem_nil') (mem_nil') (mem_nil') (mem_nil') (mem_nil') (mem_nil') (mem_nil') (mem_nil') (mem_nil') (mem_nil') (mem_nil') (mem_nil') (mem_nil') (mem_nil')) rfl e113_24
theorem m194_16 : MemoOk Tryz.prog 194 p194_16.1 p194_16.2 := entry (EnA_ok (mem_nil') (mem_nil') (mem_nil') (mem_nil') (mem_nil') (mem_nil') (mem_nil') (mem_nil') (mem_nil') (mem_nil') (mem_nil') (mem_nil') (mem_nil') (mem_nil') (mem_nil') (mem_nil') (mem_nil') (mem_nil') (mem_nil') (mem_nil') (mem_nil') (mem_nil')) rfl e194_16
theorem m113_25 : MemoOk Tryz.prog 113 p113_25.1 p113_25.2 := entry (EnA_ok (mem_nil') (mem_nil') (mem_nil') (mem_nil') (mem_nil') (mem_nil') (mem_nil') (mem_nil') (mem_nil') (mem_nil') (mem_nil') (mem_nil') (mem_nil') (mem_nil') (mem_nil') (mem_nil') (mem_nil') (mem_nil') (mem_nil') (mem_nil') (mem_nil') (mem_nil')) rfl e113_25
theorem m194_17 : MemoOk Tryz.prog 194 p194_17.1 p194_17.2 := entry (EnA_ok (mem_nil') (mem_nil') (mem_nil') (mem_nil') (mem_nil') (mem_nil') (mem_nil') (mem_nil') (mem_nil') (mem_nil') (mem_nil') (mem_nil') (mem_nil') (mem_nil') (mem_nil') (mem_nil') (mem_nil') (mem_nil') (mem_nil') (mem_nil') (mem_nil') (mem_nil')) rfl e194_17
theorem m84_4 : MemoOk Tryz.prog 84 p84_4.1 p84_4.2 := entry (EnA_ok (mem_nil') (mem_nil') (mem_cons' m113_24 (mem_cons' m113_25 (mem_cons' m113_4 (mem_nil')))) (mem_cons' m194_16 (mem_cons' m194_17 (mem_nil'))) (mem_nil') (mem_nil') (mem_nil') (mem_nil') (mem_nil') (mem_nil') (mem_nil') (mem_nil') (mem_nil') (mem_nil') (mem_nil') (mem_nil') (mem_nil') (mem_nil') (mem_nil') (mem_nil') (mem_nil') (mem_nil')) rfl e84_4
theorem m135_7 : MemoOk Tryz.prog 135 p135_7.1 p135_7.2 := entry (EnA_ok (mem_nil') (mem_nil') (mem_nil') (mem_nil') (mem_nil') (mem_nil') (mem_nil') (mem_nil') (mem_nil') (mem_nil') (mem_nil') (mem_nil') (mem_nil') (mem_nil') (mem_nil') (mem_nil') (mem_nil') (mem_nil') (mem_nil') (mem_nil') (mem_nil') (mem_nil')) rfl e135_7
theorem m25_1 : MemoOk Tryz.prog 25 p25_1.1 p25_1.2 := entry (EnA_ok (mem_nil') (mem_nil') (mem_nil') (mem_nil') (mem_nil') (mem_nil') (mem_nil') (mem_nil') (mem_nil') (mem_nil') (mem_nil') (mem_nil') (mem_nil') (mem_nil') (mem_nil') (mem_nil') (mem_nil') (mem_nil') (mem_nil') (mem_nil') (mem_nil') (mem_nil')) rfl e25_1
theorem m25_2 : MemoOk Tryz.prog 25 p25_2.1 p25_2.2 := entry (EnA_ok (mem_nil') (mem_nil') (mem_nil') (mem_nil') (mem_nil') (mem_nil') (mem_nil') (mem_nil') (mem_nil') (mem_nil') (mem_nil') (mem_nil') (mem_nil') (mem_nil') (mem_nil') (mem_nil') (mem_nil') (mem_nil') (mem_nil') (mem_nil') (mem_nil') (mem_nil')) rfl e25_2
theorem m140_3 : MemoOk Tryz.prog 140 p140_3.1 p140_3.2 := entry (EnA_ok (mem_nil') (mem_nil') (mem_nil') (mem_nil') (mem_cons' m84_4 (mem_nil')) (mem_nil') (mem_nil') (mem_nil') (mem_nil') (mem_nil') (mem_cons' m135_6 (mem_cons' m135_7 (mem_nil'))) (mem_nil') (mem_cons' m25_1 (mem_cons' m25_2 (mem_nil'))) (mem_nil') (mem_nil') (mem_nil') (mem_nil') (mem_nil') (mem_nil') (mem_nil') (mem_nil') (mem_nil')) rfl e140_3
theorem m69_16 : MemoOk Tryz.prog 69 p69_16.1 p69_16.2 := entry (EnA_ok (mem_nil') (mem_nil') (mem_nil') (mem_nil') (mem_nil') (mem_nil') (mem_nil') (mem_nil') (mem_nil') (mem_nil') (mem_nil') (mem_nil') (mem_nil') (mem_nil') (mem_nil') (mem_nil') (mem_nil') (mem_nil') (mem_nil') (mem_nil') (mem_nil') (mem_nil')) rfl e69_16
theorem m113_26 : MemoOk Tryz.prog 113 p113_26.1 p113_26.2 := entry (EnA_ok (mem_nil') (mem_nil') (mem_nil') (mem_nil') (mem_nil') (mem_nil') (mem_nil') (mem_nil') (mem_nil') (mem_nil') (mem_nil') (mem_nil') (mem_nil') (mem_nil') (mem_nil') (mem_nil') (mem_nil') (mem_nil') (mem_nil') (mem_nil') (mem_nil') (mem_nil')) rfl e113_26
theorem m115_16 : MemoOk Tryz.prog 115 p115_16.1 p115_16.2 := entry (EnA_ok (mem_nil') (mem_nil') (mem_cons' m113_26 (mem_nil')) (mem_nil') (mem_nil') (mem_nil') (mem_nil') (mem_nil') (mem_nil') (mem_nil') (mem_nil') (mem_nil') (mem_nil') (mem_nil') (mem_nil') (mem_nil') (mem_nil') (mem_nil') (mem_nil') (mem_nil') (mem_nil') (mem_nil')) rfl e115_16
theorem m123_18 : MemoOk Tryz.prog 123 p123_18.1 p123_18.2 := entry (EnA_ok (mem_nil') (mem_nil') (mem_nil') (mem_nil') (mem_nil') (mem_nil') (mem_nil') (mem_nil') (mem_nil') (mem_nil') (mem_nil') (mem_nil') (mem_nil') (mem_nil') (mem_nil') (mem_nil') (mem_nil') (mem_nil') (mem_nil') (mem_nil') (mem_nil') (mem_nil')) rfl e123_18
theorem m194_18 : MemoOk Tryz.prog 194 p194_18.1 p194_18.2 := entry (EnA_ok (mem_nil') (mem_nil') (mem_nil') (mem_nil') (mem_nil') (mem_nil') (mem_nil') (mem_nil') (mem_nil') (mem_nil') (mem_nil') (mem_nil') (mem_nil') (mem_nil') (mem_nil') (mem_nil') (mem_nil') (mem_nil') (mem_nil') (mem_nil') (mem_nil') (mem_nil')) rfl e194_18
theorem m124_12 : MemoOk Tryz.prog 124 p124_12.1 p124_12.2 := entry (EnA_ok (mem_nil') (mem_nil') (mem_cons' m113_26 (mem_nil')) (mem_cons' m194_18 (mem_nil')) (mem_nil') (mem_nil') (mem_nil') (mem_nil') (mem_nil') (mem_nil') (mem_nil') (mem_nil') (mem_nil') (mem_nil') (mem_nil') (mem_nil') (mem_nil') (mem_nil') (mem_nil') (mem_nil') (mem_nil') (mem_nil')) rfl e124_12
theorem m113_27 : MemoOk Tryz.prog 113 p113_27.1 p113_27.2 := entry (EnA_ok (mem_nil') (mem_nil') (mem_nil') (mem_nil') (mem_nil') (mem_nil') (mem_nil') (mem_nil') (mem_nil') (mem_nil') (mem_nil') (mem_nil') (mem_nil') (mem_nil') (mem_nil') (mem_nil') (mem_nil') (mem_nil') (mem_nil') (mem_nil') (mem_nil') (mem_nil')) rfl e113_27
theorem m132_12 : MemoOk Tryz.prog 132 p132_12.1 p132_12.2 := entry (EnA_ok (mem_nil') (mem_cons' m123_2 (mem_nil')) (mem_cons' m113_27 (mem_nil')) (mem_nil') (mem_nil') (mem_nil') (mem_nil') (mem_nil') (mem_nil') (mem_nil') (mem_nil') (mem_nil') (mem_nil') (mem_nil') (mem_nil') (mem_nil') (mem_nil') (mem_nil') (mem_nil') (mem_nil') (mem_nil') (mem_nil')) rfl e132_12
theorem m97_1 : MemoOk Tryz.prog 97 p97_1.1 p97_1.2 := entry (EnA_ok (mem_nil') (mem_nil') (mem_nil') (mem_nil') (mem_nil') (mem_nil') (mem_nil') (mem_nil') (mem_nil') (mem_nil') (mem_nil') (mem_nil') (mem_nil') (mem_nil') (mem_nil') (mem_nil') (mem_nil') (mem_nil') (mem_nil') (mem_nil') (mem_nil') (mem_nil')) rfl e97_1
theorem m113_28 : MemoOk Tryz.prog 113 p113_28.1 p113_28.2 := entry (EnA_ok (mem_nil') (mem_nil') (mem_nil') (mem_nil') (mem_nil') (mem_nil') (mem_nil') (mem_nil') (mem_nil') (mem_nil') (mem_nil') (mem_nil') (mem_nil') (mem_nil') (mem_nil') (mem_nil') (mem_nil') (mem_nil') (mem_nil') (mem_nil') (mem_nil') (mem_nil')) rfl e113_28
theorem m54_9 : MemoOk Tryz.prog 54 p54_9.1 p54_9.2 := entry (EnA_ok (mem_cons' m97_1 (mem_nil')) (mem_nil') (mem_cons' m113_28 (mem_nil')) (mem_nil') (mem_nil') (mem_nil') (mem_nil') (mem_nil') (mem_nil') (mem_nil') (mem_nil') (mem_nil') (mem_nil') (mem_nil') (mem_nil') (mem_nil') (mem_nil') (mem_nil') (mem_nil') (mem_nil') (mem_nil') (mem_nil')) rfl e54_9
theorem m55_8 : MemoOk Tryz.prog 55 p55_8.1 p55_8.2 := entry (EnA_ok (mem_cons' m97_1 (mem_nil')) (mem_nil') (mem_nil') (mem_nil') (mem_nil') (mem_nil') (mem_nil') (mem_nil') (mem_nil') (mem_nil') (mem_nil') (mem_nil') (mem_nil') (mem_nil') (mem_nil') (mem_nil') (mem_nil') (mem_nil') (mem_nil') (mem_nil') (mem_nil') (mem_nil')) rfl e55_8
theorem m56_8 : MemoOk Tryz.prog 56 p56_8.1 p56_8.2 := entry (EnA_ok (mem_cons' m97_1 (mem_nil')) (mem_nil') (mem_nil') (mem_nil') (mem_nil') (mem_nil') (mem_nil') (mem_nil') (mem_nil') (mem_nil') (mem_nil') (mem_nil') (mem_nil') (mem_nil') (mem_nil') (mem_nil') (mem_nil') (mem_nil') (mem_nil') (mem_nil') (mem_nil') (mem_nil')) rfl e56_8
theorem m69_17 : MemoOk Tryz.prog 69 p69_17.1 p69_17.2 := entry (EnA_ok (mem_nil') (mem_nil') (mem_nil') (mem_nil') (mem_nil') (mem_nil') (mem_nil') (mem_nil') (mem_nil') (mem_nil') (mem_nil') (mem_nil') (mem_nil') (mem_nil') (mem_nil') (mem_nil') (mem_nil') (mem_nil') (mem_nil') (mem_nil') (mem_nil') (mem_nil')) rfl e69_17
theorem m113_29 : MemoOk Tryz.prog 113 p113_29.1 p113_29.2 := entry (EnA_ok (mem_nil') (mem_nil') (mem_nil') (mem_nil') (mem_nil') (mem_nil') (mem_nil') (mem_nil') (mem_nil') (mem_nil') (mem_nil') (mem_nil') (mem_nil') (mem_nil') (mem_nil') (mem_nil') (mem_nil') (mem_nil') (mem_nil') (mem_nil') (mem_nil') (mem_nil')) rfl e113_29
theorem m115_17 : MemoOk Tryz.prog 115 p115_17.1 p115_17.2 := entry (EnA_ok (mem_nil') (mem_nil') (mem_cons' m113_29 (mem_nil')) (mem_nil') (mem_nil') (mem_nil') (mem_nil') (mem_nil') (mem_nil') (mem_nil') (mem_nil') (mem_nil') (mem_nil') (mem_nil') (mem_nil') (mem_nil') (mem_nil') (mem_nil') (mem_nil') (mem_nil') (mem_nil') (mem_nil')) rfl e115_17
theorem m123_19 : MemoOk Tryz.prog 123 p123_19.1 p123_19.2 := entry (EnA_ok (mem_nil') (mem_nil') (mem_nil') (mem_nil') (mem_nil') (mem_nil') (mem_nil') (mem_nil') (mem_nil') (mem_nil') (mem_nil') (mem_nil') (mem_nil') (mem_nil') (mem_nil') (mem_nil') (mem_nil') (mem_nil') (mem_nil') (mem_nil') (mem_nil') (mem_nil')) rfl e123_19
theorem m194_19 : MemoOk Tryz.prog 194 p194_19.1 p194_19.2 := entry (EnA_ok (mem_nil') (mem_nil') (mem_nil') (mem_nil') (mem_nil') (mem_nil') (mem_nil') (mem_nil') (mem_nil') (mem_nil') (mem_nil') (mem_nil') (mem_nil') (mem_nil') (mem_nil') (mem_nil') (mem_nil') (mem_nil') (mem_nil') (mem_nil') (mem_nil') (mem_nil')) rfl e194_19
theorem m124_13 : MemoOk Tryz.prog 124 p124_13.1 p124_13.2 := entry (EnA_ok (mem_nil') (mem_nil') (mem_cons' m113_29 (mem_nil')) (mem_cons' m194_19 (mem_nil')) (mem_nil') (mem_nil') (mem_nil') (mem_nil') (mem_nil') (mem_nil') (mem_nil') (mem_nil') (mem_nil') (mem_nil') (mem_nil') (mem_nil') (mem_nil') (mem_nil') (mem_nil') (mem_nil') (mem_nil') (mem_nil')) rfl e124_13
theorem m113_30 : MemoOk Tryz.prog 113 p113_30.1 p113_30.2 := entry (EnA_ok (mem_nil') (mem_nil') (mem_nil') (mem_nil') (mem_nil') (mem_nil') (mem_nil') (mem_nil') (mem_nil') (mem_nil') (mem_nil') (mem_nil') (mem_nil') (mem_nil') (mem_nil') (mem_nil') (mem_nil') (mem_nil') (mem_nil') (mem_nil') (mem_nil') (mem_nil')) rfl e113_30
theorem m132_13 : MemoOk Tryz.prog 132 p132_13.1 p132_13.2 := entry (EnA_ok (mem_nil') (mem_cons' m123_2 (mem_nil')) (mem_cons' m113_30 (mem_nil')) (mem_nil') (mem_nil') (mem_nil') (mem_nil') (mem_nil') (mem_nil') (mem_nil') (mem_nil') (mem_nil') (mem_nil') (mem_nil') (mem_nil') (mem_nil') (mem_nil') (mem_nil') (mem_nil') (mem_nil') (mem_nil') (mem_nil')) rfl e132_13
theorem m97_2 : MemoOk Tryz.prog 97 p97_2.1 p97_2.2 := entry (EnA_ok (mem_nil') (mem_nil') (mem_nil') (mem_nil') (mem_nil') (mem_nil') (mem_nil') (mem_nil') (mem_nil') (mem_nil') (mem_nil') (mem_nil') (mem_nil') (mem_nil') (mem_nil') (mem_nil') (mem_nil') (mem_nil') (mem_nil') (mem_nil') (mem_nil') (mem_nil')) rfl e97_2
theorem m113_31 : MemoOk Tryz.prog 113 p113_31.1 p113_31.2 := entry (EnA_ok (mem_nil') (mem_nil') (mem_nil') (mem_nil') (mem_nil') (mem_nil') (mem_nil') (mem_nil') (mem_nil') (mem_nil') (mem_nil') (mem_nil') (mem_nil') (mem_nil') (mem_nil') (mem_nil') (mem_nil') (mem_nil') (mem_nil') (mem_nil') (mem_nil') (mem_nil')) rfl e113_31
theorem m54_10 : MemoOk Tryz.prog 54 p54_10.1 p54_10.2 := entry (EnA_ok (mem_cons' m97_2 (mem_nil')) (mem_nil') (mem_cons' m113_31 (mem_nil')) (mem_nil') (mem_nil') (mem_nil') (mem_nil') (mem_nil') (mem_nil') (mem_nil') (mem_nil') (mem_nil') (mem_nil') (mem_nil') (mem_nil') (mem_nil') (mem_nil') (mem_nil') (mem_nil') (mem_nil') (mem_nil') (mem_nil')) rfl e54_10
theorem m55_9 : MemoOk Tryz.prog 55 p55_9.1 p55_9.2 := entry (EnA_ok (mem_cons' m97_2 (mem_nil')) (mem_nil') (mem_nil') (mem_nil') (mem_nil') (mem_nil') (mem_nil') (mem_nil') (mem_nil') (mem_nil') (mem_nil') (mem_nil') (mem_nil') (mem_nil') (mem_nil') (mem_nil') (mem_nil') (mem_nil') (mem_nil') (mem_nil') (mem_nil') (mem_nil')) rfl e55_9
theorem m56_9 : MemoOk Tryz.prog 56 p56_9.1 p56_9.2 := entry (EnA_ok (mem_cons' m97_2 (mem_nil')) (mem_nil') (mem_nil') (mem_nil') (mem_nil') (mem_nil') (mem_nil') (mem_nil') (mem_nil') (mem_nil') (mem_nil') (mem_nil') (mem_nil') (mem_nil') (mem_nil') (mem_nil') (mem_nil') (mem_nil') (mem_nil') (mem_nil') (mem_nil') (mem_nil')) rfl e56_9
theorem m123_20 : MemoOk Tryz.prog 123 p123_20.1 p123_20.2 := entry (EnA_ok (mem_nil') (mem_nil') (mem_nil') (mem_nil') (mem_nil') (mem_nil') (mem_nil') (mem_nil') (mem_nil') (mem_nil') (mem_nil') (mem_nil') (mem_nil') (mem_nil') (mem_nil') (mem_nil') (mem_nil') (mem_nil') (mem_nil') (mem_nil') (mem_nil') (mem_nil')) rfl e123_20
theorem m302_0 : MemoOk Tryz.prog 302 p302_0.1 p302_0.2 := entry (EnA_ok (mem_nil') (mem_cons' m123_20 (mem_nil')) (mem_nil') (mem_nil') (mem_nil') (mem_nil') (mem_nil') (mem_nil') (mem_nil') (mem_nil') (mem_nil') (mem_nil') (mem_nil') (mem_nil') (mem_nil') (mem_nil') (mem_nil') (mem_nil') (mem_nil') (mem_nil') (mem_nil') (mem_nil')) rfl e302_0
theorem m69_18 : MemoOk Tryz.prog 69 p69_18.1 p69_18.2 := entry (EnA_ok (mem_nil') (mem_nil') (mem_nil') (mem_nil') (mem_nil') (mem_nil') (mem_nil') (mem_nil') (mem_nil') (mem_nil') (mem_nil') (mem_nil') (mem_nil') (mem_nil') (mem_nil') (mem_nil') (mem_nil') (mem_nil') (mem_nil') (mem_nil') (mem_nil') (mem_nil')) rfl e69_18
theorem m113_32 : MemoOk Tryz.prog 113 p113_32.1 p113_32.2 := entry (EnA_ok (mem_nil') (mem_nil') (mem_nil') (mem_nil') (mem_nil') (mem_nil') (mem_nil') (mem_nil') (mem_nil') (mem_nil') (mem_nil') (mem_nil') (mem_nil') (mem_nil') (mem_nil') (mem_nil') (mem_nil') (mem_nil') (mem_nil') (mem_nil') (mem_nil') (mem_nil')) rfl e113_32
theorem m115_18 : MemoOk Tryz.prog 115 p115_18.1 p115_18.2 := entry (EnA_ok (mem_nil') (mem_nil') (mem_cons' m113_32 (mem_nil')) (mem_nil') (mem_nil') (mem_nil') (mem_nil') (mem_nil') (mem_nil') (mem_nil') (mem_nil') (mem_nil') (mem_nil') (mem_nil') (mem_nil') (mem_nil') (mem_nil') (mem_nil') (mem_nil') (mem_nil') (mem_nil') (mem_nil')) rfl e115_18
theorem m123_21 : MemoOk Tryz.prog 123 p123_21.1 p123_21.2 := entry (EnA_ok (mem_nil') (mem_nil') (mem_nil') (mem_nil') (mem_nil') (mem_nil') (mem_nil') (mem_nil') (mem_nil') (mem_nil') (mem_nil') (mem_nil') (mem_nil') (mem_nil') (mem_nil') (mem_nil') (mem_nil') (mem_nil') (mem_nil') (mem_nil') (mem_nil') (mem_nil')) rfl e123_21
theorem m194_20 : MemoOk Tryz.prog 194 p194_20.1 p194_20.2 := entry (EnA_ok (mem_nil') (mem_nil') (mem_nil') (mem_nil') (mem_nil') (mem_nil') (mem_nil') (mem_nil') (mem_nil') (mem_nil') (mem_nil') (mem_nil') (mem_nil') (mem_nil') (mem_nil') (mem_nil') (mem_nil') (mem_nil') (mem_nil') (mem_nil') (mem_nil') (mem_nil')) rfl e194_20
theorem m124_14 : MemoOk Tryz.prog 124 p124_14.1 p124_14.2 := entry (EnA_ok (mem_nil') (mem_nil') (mem_cons' m113_32 (mem_nil')) (mem_cons' m194_20 (mem_nil')) (mem_nil') (mem_nil') (mem_nil') (mem_nil') (mem_nil') (mem_nil') (mem_nil') (mem_nil') (mem_nil') (mem_nil') (mem_nil') (mem_nil') (mem_nil') (mem_nil') (mem_nil') (mem_nil') (mem_nil') (mem_nil')) rfl e124_14
theorem m113_33 : MemoOk Tryz.prog 113 p113_33.1 p113_33.2 := entry (EnA_ok (mem_nil') (mem_nil') (mem_nil') (mem_nil') (mem_nil') (mem_nil') (mem_nil') (mem_nil') (mem_nil') (mem_nil') (mem_nil') (mem_nil') (mem_nil') (mem_nil') (mem_nil') (mem_nil') (mem_nil') (mem_nil') (mem_nil') (mem_nil') (mem_nil') (mem_nil')) rfl e113_33
theorem m132_14 : MemoOk Tryz.prog 132 p132_14.1 p132_14.2 := entry (EnA_ok (mem_nil') (mem_cons' m123_2 (mem_nil')) (mem_cons' m113_33 (mem_nil')) (mem_nil') (mem_nil') (mem_nil') (mem_nil') (mem_nil') (mem_nil') (mem_nil') (mem_nil') (mem_nil') (mem_nil') (mem_nil') (mem_nil') (mem_nil') (mem_nil') (mem_nil') (mem_nil') (mem_nil') (mem_nil') (mem_nil')) rfl e132_14
theorem m97_3 : MemoOk Tryz.prog 97 p97_3.1 p97_3.2 := entry (EnA_ok (mem_nil') (mem_nil') (mem_nil') (mem_nil') (mem_nil') (mem_nil') (mem_nil') (mem_nil') (mem_nil') (mem_nil') (mem_nil') (mem_nil') (mem_nil') (mem_nil') (mem_nil') (mem_nil') (mem_nil') (mem_nil') (mem_nil') (mem_nil') (mem_nil') (mem_nil')) rfl e97_3
theorem m113_34 : MemoOk Tryz.prog 113 p113_34.1 p113_34.2 := entry (EnA_ok (mem_nil') (mem_nil') (mem_nil') (mem_nil') (mem_nil') (mem_nil') (mem_nil') (mem_nil') (mem_nil') (mem_nil') (mem_nil') (mem_nil') (mem_nil') (mem_nil') (mem_nil') (mem_nil') (mem_nil') (mem_nil') (mem_nil') (mem_nil') (mem_nil') (mem_nil')) rfl e113_34
theorem m54_11 : MemoOk Tryz.prog 54 p54_11.1 p54_11.2 := entry (EnA_ok (mem_cons' m97_3 (mem_nil')) (mem_nil') (mem_cons' m113_34 (mem_nil')) (mem_nil') (mem_nil') (mem_nil') (mem_nil') (mem_nil') (mem_nil') (mem_nil') (mem_nil') (mem_nil') (mem_nil') (mem_nil') (mem_nil') (mem_nil') (mem_nil') (mem_nil') (mem_nil') (mem_nil') (mem_nil') (mem_nil')) rfl e54_11
theorem top {E : Env} (hE : EnvOk Tryz.prog E) (hf : E.fns = Tr.get fnNo fnTr) {n : Nat} {args : List AV} (h : isT (ev E n 3 args Heap.empty) = true) : ∃ h', CallOk Tryz.prog 3 args Heap.empty (.ret (.bool true)) h' := by
  obtain ⟨h', e⟩ := isT_true h
  exact ⟨h', ev_ok hE (fns_ok E hf) (fun rec hr => regd_ok hE (by kernel_rfl) hr) n 3 args Heap.empty _ _ e⟩
end Go.Am
set_option maxRecDepth 100000
namespace Go.Am
open Go Go.Proofs
theorem eo0 : EnvOk Tryz.prog (EnA [] [p123_0] [] [] [] [p54_0] [p55_0] [p56_0] [p115_0] [p132_0] [p135_0] [p136_0] [] [p69_0] [p140_0] [p124_0] [p9_0] [] [] [] [] []) := (EnA_ok (mem_nil') (mem_cons' m123_0 (mem_nil')) (mem_nil') (mem_nil') (mem_nil') (mem_cons' m54_0 (mem_nil')) (mem_cons' m55_0 (mem_nil')) (mem_cons' m56_0 (mem_nil')) (mem_cons' m115_0 (mem_nil')) (mem_cons' m132_0 (mem_nil')) (mem_cons' m135_0 (mem_nil')) (mem_cons' m136_0 (mem_nil')) (mem_nil') (mem_cons' m69_0 (mem_nil')) (mem_cons' m140_0 (mem_nil')) (mem_cons' m124_0 (mem_nil')) (mem_cons' m9_0 (mem_nil')) (mem_nil') (mem_nil') (mem_nil') (mem_nil') (mem_nil'))
theorem k0 : ∃ h', CallOk Tryz.prog 3 [(.md [(16,0)]), (.md [(20,0)])] Heap.empty (.ret (.bool true)) h' := top eo0 rfl c0
theorem eo1 : EnvOk Tryz.prog (EnA [] [p123_6,p123_0] [] [] [] [p54_0] [p55_0] [p56_0] [p115_3,p115_0] [p132_0] [p135_0] [p136_0] [] [p69_3,p69_0] [p140_0] [p124_0] [p9_0] [] [] [] [] []) := (EnA_ok (mem_nil') (mem_cons' m123_6 (mem_cons' m123_0 (mem_nil'))) (mem_nil') (mem_nil') (mem_nil') (mem_cons' m54_0 (mem_nil')) (mem_cons' m55_0 (mem_nil')) (mem_cons' m56_0 (mem_nil')) (mem_cons' m115_3 (mem_cons' m115_0 (mem_nil'))) (mem_cons' m132_0 (mem_nil')) (mem_cons' m135_0 (mem_nil')) (mem_cons' m136_0 (mem_nil')) (mem_nil') (mem_cons' m69_3 (mem_cons' m69_0 (mem_nil'))) (mem_cons' m140_0 (mem_nil')) (mem_cons' m124_0 (mem_nil')) (mem_cons' m9_0 (mem_nil')) (mem_nil') (mem_nil') (mem_nil') (mem_nil') (mem_nil'))
theorem k1 : ∃ h', CallOk Tryz.prog 3 [(.md [(16,0)]), (.md [(20,1)])] Heap.empty (.ret (.bool true)) h' := top eo1 rfl c1
theorem eo2 : EnvOk Tryz.prog (EnA [] [p123_6,p123_1,p123_3,p123_0] [] [] [] [p54_1,p54_0] [p55_1,p55_0] [p56_1,p56_0] [p115_3,p115_1,p115_0] [p132_1,p132_0] [p135_0] [p136_0] [] [p69_3,p69_1,p69_0] [p140_0] [p124_1,p124_0] [p9_0] [] [] [] [] []) := (EnA_ok (mem_nil') (mem_cons' m123_6 (mem_cons' m123_1 (mem_cons' m123_3 (mem_cons' m123_0 (mem_nil'))))) (mem_nil') (mem_nil') (mem_nil') (mem_cons' m54_1 (mem_cons' m54_0 (mem_nil'))) (mem_cons' m55_1 (mem_cons' m55_0 (mem_nil'))) (mem_cons' m56_1 (mem_cons' m56_0 (mem_nil'))) (mem_cons' m115_3 (mem_cons' m115_1 (mem_cons' m115_0 (mem_nil')))) (mem_cons' m132_1 (mem_cons' m132_0 (mem_nil'))) (mem_cons' m135_0 (mem_nil')) (mem_cons' m136_0 (mem_nil')) (mem_nil') (mem_cons' m69_3 (mem_cons' m69_1 (mem_cons' m69_0 (mem_nil')))) (mem_cons' m140_0 (mem_nil')) (mem_cons' m124_1 (mem_cons' m124_0 (mem_nil'))) (mem_cons' m9_0 (mem_nil')) (mem_nil') (mem_nil') (mem_nil') (mem_nil') (mem_nil'))
theorem k2 : ∃ h', CallOk Tryz.prog 3 [(.md [(16,0)]), (.md [(20,2)])] Heap.empty (.ret (.bool true)) h' := top eo2 rfl c2
theorem eo3 : EnvOk Tryz.prog (EnA [] [p123_6,p123_1,p123_3,p123_0] [] [] [] [p54_1,p54_0] [p55_1,p55_0] [p56_1,p56_0] [p115_3,p115_1,p115_0] [p132_1,p132_0] [p135_0] [p136_0] [] [p69_3,p69_1,p69_4,p69_0] [p140_0] [p124_1,p124_0] [p9_0] [] [] [] [] []) := (EnA_ok (mem_nil') (mem_cons' m123_6 (mem_cons' m123_1 (mem_cons' m123_3 (mem_cons' m123_0 (mem_nil'))))) (mem_nil') (mem_nil') (mem_nil') (mem_cons' m54_1 (mem_cons' m54_0 (mem_nil'))) (mem_cons' m55_1 (mem_cons' m55_0 (mem_nil'))) (mem_cons' m56_1 (mem_cons' m56_0 (mem_nil'))) (mem_cons' m115_3 (mem_cons' m115_1 (mem_cons' m115_0 (mem_nil')))) (mem_cons' m132_1 (mem_cons' m132_0 (mem_nil'))) (mem_cons' m135_0 (mem_nil')) (mem_cons' m136_0 (mem_nil')) (mem_nil') (mem_cons' m69_3 (mem_cons' m69_1 (mem_cons' m69_4 (mem_cons' m69_0 (mem_nil'))))) (mem_cons' m140_0 (mem_nil')) (mem_cons' m124_1 (mem_cons' m124_0 (mem_nil'))) (mem_cons' m9_0 (mem_nil')) (mem_nil') (mem_nil') (mem_nil') (mem_nil') (mem_nil'))
theorem k3 : ∃ h', CallOk Tryz.prog 3 [(.md [(16,0)]), (.md [(20,3)])] Heap.empty (.ret (.bool true)) h' := top eo3 rfl c3
theorem k4 : ∃ h', CallOk Tryz.prog 3 [(.md [(16,0)]), (.md [(20,4)])] Heap.empty (.ret (.bool true)) h' := top eo3 rfl c4
theorem k5 : ∃ h', CallOk Tryz.prog 3 [(.md [(16,0)]), (.md [(20,5)])] Heap.empty (.ret (.bool true)) h' := top eo3 rfl c5
theorem k6 : ∃ h', CallOk Tryz.prog 3 [(.md [(16,0)]), (.md [(20,6)])] Heap.empty (.ret (.bool true)) h' := top eo3 rfl c6
theorem k7 : ∃ h', CallOk Tryz.prog 3 [(.md [(16,0)]), (.md [(20,7)])] Heap.empty (.ret (.bool true)) h' := top eo3 rfl c7
theorem k8 : ∃ h', CallOk Tryz.prog 3 [(.md [(16,0)]), (.md [(20,8)])] Heap.empty (.ret (.bool true)) h' := top eo3 rfl c8
theorem k9 : ∃ h', CallOk Tryz.prog 3 [(.md [(16,0)]), (.md [(20,9)])] Heap.empty (.ret (.bool true)) h' := top eo3 rfl c9
theorem k10 : ∃ h', CallOk Tryz.prog 3 [(.md [(16,0)]), (.md [(20,10)])] Heap.empty (.ret (.bool true)) h' := top eo3 rfl c10
theorem k11 : ∃ h', CallOk Tryz.prog 3 [(.md [(16,0)]), (.md [(20,11)])] Heap.empty (.ret (.bool true)) h' := top eo3 rfl c11
theorem k12 : ∃ h', CallOk Tryz.prog 3 [(.md [(16,0)]), (.md [(20,12)])] Heap.empty (.ret (.bool true)) h' := top eo3 rfl c12
theorem k13 : ∃ h', CallOk Tryz.prog 3 [(.md [(16,0)]), (.md [(20,13)])] Heap.empty (.ret (.bool true)) h' := top eo3 rfl c13
theorem k14 : ∃ h', CallOk Tryz.prog 3 [(.md [(16,0)]), (.md [(20,14)])] Heap.empty (.ret (.bool true)) h' := top eo3 rfl c14
theorem k15 : ∃ h', CallOk Tryz.prog 3 [(.md [(16,0)]), (.md [(20,15)])] Heap.empty (.ret (.bool true)) h' := top eo3 rfl c15
theorem k16 : ∃ h', CallOk Tryz.prog 3 [(.md [(16,0)]), (.md [(20,16)])] Heap.empty (.ret (.bool true)) h' := top eo3 rfl c16
theorem k17 : ∃ h', CallOk Tryz.prog 3 [(.md [(16,0)]), (.md [(20,17)])] Heap.empty (.ret (.bool true)) h' := top eo3 rfl c17
theorem k18 : ∃ h', CallOk Tryz.prog 3 [(.md [(16,0)]), (.md [(20,18)])] Heap.empty (.ret (.bool true)) h' := top eo3 rfl c18
theorem k19 : ∃ h', CallOk Tryz.prog 3 [(.md [(16,0)]), (.md [(20,19)])] Heap.empty (.ret (.bool true)) h' := top eo3 rfl c19
theorem eo4 : EnvOk Tryz.prog (EnA [] [p123_7] [] [] [] [p54_4] [] [] [p115_4] [p132_4] [p135_4] [p136_2] [] [p69_5] [] [p124_3] [p9_0] [] [] [] [] []) := (EnA_ok (mem_nil') (mem_cons' m123_7 (mem_nil')) (mem_nil') (mem_nil') (mem_nil') (mem_cons' m54_4 (mem_nil')) (mem_nil') (mem_nil') (mem_cons' m115_4 (mem_nil')) (mem_cons' m132_4 (mem_nil')) (mem_cons' m135_4 (mem_nil')) (mem_cons' m136_2 (mem_nil')) (mem_nil') (mem_cons' m69_5 (mem_nil')) (mem_nil') (mem_cons' m124_3 (mem_nil')) (mem_cons' m9_0 (mem_nil')) (mem_nil') (mem_nil') (mem_nil') (mem_nil') (mem_nil'))
theorem k20 : ∃ h', CallOk Tryz.prog 3 [(.md [(16,1)]), (.md [(20,0)])] Heap.empty (.ret (.bool true)) h' := top eo4 rfl c20
theorem eo5 : EnvOk Tryz.prog (EnA [] [p123_6,p123_7] [] [] [] [p54_4] [] [] [p115_3,p115_4] [p132_4] [p135_4] [p136_2] [] [p69_3,p69_5] [] [p124_3] [p9_0] [] [] [] [] []) := (EnA_ok (mem_nil') (mem_cons' m123_6 (mem_cons' m123_7 (mem_nil'))) (mem_nil') (mem_nil') (mem_nil') (mem_cons' m54_4 (mem_nil')) (mem_nil') (mem_nil') (mem_cons' m115_3 (mem_cons' m115_4 (mem_nil'))) (mem_cons' m132_4 (mem_nil')) (mem_cons' m135_4 (mem_nil')) (mem_cons' m136_2 (mem_nil')) (mem_nil') (mem_cons' m69_3 (mem_cons' m69_5 (mem_nil'))) (mem_nil') (mem_cons' m124_3 (mem_nil')) (mem_cons' m9_0 (mem_nil')) (mem_nil') (mem_nil') (mem_nil') (mem_nil') (mem_nil'))
theorem k21 : ∃ h', CallOk Tryz.prog 3 [(.md [(16,1)]), (.md [(20,1)])] Heap.empty (.ret (.bool true)) h' := top eo5 rfl c21
theorem eo6 : EnvOk Tryz.prog (EnA [] [p123_6,p123_1,p123_3,p123_7] [] [] [] [p54_1,p54_4] [p55_1] [p56_1] [p115_3,p115_1,p115_4] [p132_1,p132_4] [p135_4] [p136_2] [] [p69_3,p69_1,p69_5] [] [p124_1,p124_3] [p9_0] [] [] [] [] []) := (EnA_ok (mem_nil') (mem_cons' m123_6 (mem_cons' m123_1 (mem_cons' m123_3 (mem_cons' m123_7 (mem_nil'))))) (mem_nil') (mem_nil') (mem_nil') (mem_cons' m54_1 (mem_cons' m54_4 (mem_nil'))) (mem_cons' m55_1 (mem_nil')) (mem_cons' m56_1 (mem_nil')) (mem_cons' m115_3 (mem_cons' m115_1 (mem_cons' m115_4 (mem_nil')))) (mem_cons' m132_1 (mem_cons' m132_4 (mem_nil'))) (mem_cons' m135_4 (mem_nil')) (mem_cons' m136_2 (mem_nil')) (mem_nil') (mem_cons' m69_3 (mem_cons' m69_1 (mem_cons' m69_5 (mem_nil')))) (mem_nil') (mem_cons' m124_1 (mem_cons' m124_3 (mem_nil'))) (mem_cons' m9_0 (mem_nil')) (mem_nil') (mem_nil') (mem_nil') (mem_nil') (mem_nil'))
theorem k22 : ∃ h', CallOk Tryz.prog 3 [(.md [(16,1)]), (.md [(20,2)])] Heap.empty (.ret (.bool true)) h' := top eo6 rfl c22
theorem eo7 : EnvOk Tryz.prog (EnA [] [p123_6,p123_1,p123_3,p123_7] [] [] [] [p54_1,p54_4] [p55_1] [p56_1] [p115_3,p115_1,p115_4] [p132_1,p132_4] [p135_4] [p136_2] [] [p69_3,p69_1,p69_4,p69_5] [] [p124_1,p124_3] [p9_0] [] [] [] [] []) := (EnA_ok (mem_nil') (mem_cons' m123_6 (mem_cons' m123_1 (mem_cons' m123_3 (mem_cons' m123_7 (mem_nil'))))) (mem_nil') (mem_nil') (mem_nil') (mem_cons' m54_1 (mem_cons' m54_4 (mem_nil'))) (mem_cons' m55_1 (mem_nil')) (mem_cons' m56_1 (mem_nil')) (mem_cons' m115_3 (mem_cons' m115_1 (mem_cons' m115_4 (mem_nil')))) (mem_cons' m132_1 (mem_cons' m132_4 (mem_nil'))) (mem_cons' m135_4 (mem_nil')) (mem_cons' m136_2 (mem_nil')) (mem_nil') (mem_cons' m69_3 (mem_cons' m69_1 (mem_cons' m69_4 (mem_cons' m69_5 (mem_nil'))))) (mem_nil') (mem_cons' m124_1 (mem_cons' m124_3 (mem_nil'))) (mem_cons' m9_0 (mem_nil')) (mem_nil') (mem_nil') (mem_nil') (mem_nil') (mem_nil'))
theorem k23 : ∃ h', CallOk Tryz.prog 3 [(.md [(16,1)]), (.md [(20,3)])] Heap.empty (.ret (.bool true)) h' := top eo7 rfl c23
theorem k24 : ∃ h', CallOk Tryz.prog 3 [(.md [(16,1)]), (.md [(20,4)])] Heap.empty (.ret (.bool true)) h' := top eo7 rfl c24
theorem k25 : ∃ h', CallOk Tryz.prog 3 [(.md [(16,1)]), (.md [(20,5)])] Heap.empty (.ret (.bool true)) h' := top eo7 rfl c25
theorem k26 : ∃ h', CallOk Tryz.prog 3 [(.md [(16,1)]), (.md [(20,6)])] Heap.empty (.ret (.bool true)) h' := top eo7 rfl c26
theorem k27 : ∃ h', CallOk Tryz.prog 3 [(.md [(16,1)]), (.md [(20,7)])] Heap.empty (.ret (.bool true)) h' := top eo7 rfl c27
theorem k28 : ∃ h', CallOk Tryz.prog 3 [(.md [(16,1)]), (.md [(20,8)])] Heap.empty (.ret (.bool true)) h' := top eo7 rfl c28
theorem k29 : ∃ h', CallOk Tryz.prog 3 [(.md [(16,1)]), (.md [(20,9)])] Heap.empty (.ret (.bool true)) h' := top eo7 rfl c29
theorem k30 : ∃ h', CallOk Tryz.prog 3 [(.md [(16,1)]), (.md [(20,10)])] Heap.empty (.ret (.bool true)) h' := top eo7 rfl c30
theorem k31 : ∃ h', CallOk Tryz.prog 3 [(.md [(16,1)]), (.md [(20,11)])] Heap.empty (.ret (.bool true)) h' := top eo7 rfl c31
theorem k32 : ∃ h', CallOk Tryz.prog 3 [(.md [(16,1)]), (.md [(20,12)])] Heap.empty (.ret (.bool true)) h' := top eo7 rfl c32
theorem k33 : ∃ h', CallOk Tryz.prog 3 [(.md [(16,1)]), (.md [(20,13)])] Heap.empty (.ret (.bool true)) h' := top eo7 rfl c33
theorem k34 : ∃ h', CallOk Tryz.prog 3 [(.md [(16,1)]), (.md [(20,14)])] Heap.empty (.ret (.bool true)) h' := top eo7 rfl c34
theorem k35 : ∃ h', CallOk Tryz.prog 3 [(.md [(16,1)]), (.md [(20,15)])] Heap.empty (.ret (.bool true)) h' := top eo7 rfl c35
theorem k36 : ∃ h', CallOk Tryz.prog 3 [(.md [(16,1)]), (.md [(20,16)])] Heap.empty (.ret (.bool true)) h' := top eo7 rfl c36
theorem k37 : ∃ h', CallOk Tryz.prog 3 [(.md [(16,1)]), (.md [(20,17)])] Heap.empty (.ret (.bool true)) h' := top eo7 rfl c37
theorem k38 : ∃ h', CallOk Tryz.prog 3 [(.md [(16,1)]), (.md [(20,18)])] Heap.empty (.ret (.bool true)) h' := top eo7 rfl c38
theorem k39 : ∃ h', CallOk Tryz.prog 3 [(.md [(16,1)]), (.md [(20,19)])] Heap.empty (.ret (.bool true)) h' := top eo7 rfl c39
theorem eo8 : EnvOk Tryz.prog (EnA [] [p123_8,p123_3] [] [] [] [p54_1,p54_4] [p55_1] [p56_1] [p115_5] [p132_5] [] [] [] [p69_6] [] [p124_4] [p9_0] [] [] [] [] []) := (EnA_ok (mem_nil') (mem_cons' m123_8 (mem_cons' m123_3 (mem_nil'))) (mem_nil') (mem_nil') (mem_nil') (mem_cons' m54_1 (mem_cons' m54_4 (mem_nil'))) (mem_cons' m55_1 (mem_nil')) (mem_cons' m56_1 (mem_nil')) (mem_cons' m115_5 (mem_nil')) (mem_cons' m132_5 (mem_nil')) (mem_nil') (mem_nil') (mem_nil') (mem_cons' m69_6 (mem_nil')) (mem_nil') (mem_cons' m124_4 (mem_nil')) (mem_cons' m9_0 (mem_nil')) (mem_nil') (mem_nil') (mem_nil') (mem_nil') (mem_nil'))
theorem k40 : ∃ h', CallOk Tryz.prog 3 [(.md [(16,2)]), (.md [(20,0)])] Heap.empty (.ret (.bool true)) h' := top eo8 rfl c40
theorem eo9 : EnvOk Tryz.prog (EnA [] [p123_6,p123_8,p123_3] [] [] [] [p54_1,p54_4] [p55_1] [p56_1] [p115_3,p115_5] [p132_5] [] [] [] [p69_3,p69_6] [] [p124_4] [p9_0] [] [] [] [] []) := (EnA_ok (mem_nil') (mem_cons' m123_6 (mem_cons' m123_8 (mem_cons' m123_3 (mem_nil')))) (mem_nil') (mem_nil') (mem_nil') (mem_cons' m54_1 (mem_cons' m54_4 (mem_nil'))) (mem_cons' m55_1 (mem_nil')) (mem_cons' m56_1 (mem_nil')) (mem_cons' m115_3 (mem_cons' m115_5 (mem_nil'))) (mem_cons' m132_5 (mem_nil')) (mem_nil') (mem_nil') (mem_nil') (mem_cons' m69_3 (mem_cons' m69_6 (mem_nil'))) (mem_nil') (mem_cons' m124_4 (mem_nil')) (mem_cons' m9_0 (mem_nil')) (mem_nil') (mem_nil') (mem_nil') (mem_nil') (mem_nil'))
theorem k41 : ∃ h', CallOk Tryz.prog 3 [(.md [(16,2)]), (.md [(20,1)])] Heap.empty (.ret (.bool true)) h' := top eo9 rfl c41
theorem eo10 : EnvOk Tryz.prog (EnA [] [p123_6,p123_1,p123_3,p123_8] [] [] [] [p54_1,p54_4] [p55_1] [p56_1] [p115_3,p115_1,p115_5] [p132_1,p132_5] [] [] [] [p69_3,p69_1,p69_6] [] [p124_1,p124_4] [p9_0] [] [] [] [] []) := (EnA_ok (mem_nil') (mem_cons' m123_6 (mem_cons' m123_1 (mem_cons' m123_3 (mem_cons' m123_8 (mem_nil'))))) (mem_nil') (mem_nil') (mem_nil') (mem_cons' m54_1 (mem_cons' m54_4 (mem_nil'))) (mem_cons' m55_1 (mem_nil')) (mem_cons' m56_1 (mem_nil')) (mem_cons' m115_3 (mem_cons' m115_1 (mem_cons' m115_5 (mem_nil')))) (mem_cons' m132_1 (mem_cons' m132_5 (mem_nil'))) (mem_nil') (mem_nil') (mem_nil') (mem_cons' m69_3 (mem_cons' m69_1 (mem_cons' m69_6 (mem_nil')))) (mem_nil') (mem_cons' m124_1 (mem_cons' m124_4 (mem_nil'))) (mem_cons' m9_0 (mem_nil')) (mem_nil') (mem_nil') (mem_nil') (mem_nil') (mem_nil'))
theorem k42 : ∃ h', CallOk Tryz.prog 3 [(.md [(16,2)]), (.md [(20,2)])] Heap.empty (.ret (.bool true)) h' := top eo10 rfl c42
theorem eo11 : EnvOk Tryz.prog (EnA [] [p123_6,p123_1,p123_3,p123_8] [] [] [] [p54_1,p54_4] [p55_1] [p56_1] [p115_3,p115_1,p115_5] [p132_1,p132_5] [] [] [] [p69_3,p69_1,p69_4,p69_6] [] [p124_1,p124_4] [p9_0] [] [] [] [] []) := (EnA_ok (mem_nil') (mem_cons' m123_6 (mem_cons' m123_1 (mem_cons' m123_3 (mem_cons' m123_8 (mem_nil'))))) (mem_nil') (mem_nil') (mem_nil') (mem_cons' m54_1 (mem_cons' m54_4 (mem_nil'))) (mem_cons' m55_1 (mem_nil')) (mem_cons' m56_1 (mem_nil')) (mem_cons' m115_3 (mem_cons' m115_1 (mem_cons' m115_5 (mem_nil')))) (mem_cons' m132_1 (mem_cons' m132_5 (mem_nil'))) (mem_nil') (mem_nil') (mem_nil') (mem_cons' m69_3 (mem_cons' m69_1 (mem_cons' m69_4 (mem_cons' m69_6 (mem_nil'))))) (mem_nil') (mem_cons' m124_1 (mem_cons' m124_4 (mem_nil'))) (mem_cons' m9_0 (mem_nil')) (mem_nil') (mem_nil') (mem_nil') (mem_nil') (mem_nil'))
theorem k43 : ∃ h', CallOk Tryz.prog 3 [(.md [(16,2)]), (.md [(20,3)])] Heap.empty (.ret (.bool true)) h' := top eo11 rfl c43
theorem k44 : ∃ h', CallOk Tryz.prog 3 [(.md [(16,2)]), (.md [(20,4)])] Heap.empty (.ret (.bool true)) h' := top eo11 rfl c44
theorem k45 : ∃ h', CallOk Tryz.prog 3 [(.md [(16,2)]), (.md [(20,5)])] Heap.empty (.ret (.bool true)) h' := top eo11 rfl c45
theorem k46 : ∃ h', CallOk Tryz.prog 3 [(.md [(16,2)]), (.md [(20,6)])] Heap.empty (.ret (.bool true)) h' := top eo11 rfl c46
theorem k47 : ∃ h', CallOk Tryz.prog 3 [(.md [(16,2)]), (.md [(20,7)])] Heap.empty (.ret (.bool true)) h' := top eo11 rfl c47
theorem k48 : ∃ h', CallOk Tryz.prog 3 [(.md [(16,2)]), (.md [(20,8)])] Heap.empty (.ret (.bool true)) h' := top eo11 rfl c48
theorem k49 : ∃ h', CallOk Tryz.prog 3 [(.md [(16,2)]), (.md [(20,9)])] Heap.empty (.ret (.bool true)) h' := top eo11 rfl c49
theorem k50 : ∃ h', CallOk Tryz.prog 3 [(.md [(16,2)]), (.md [(20,10)])] Heap.empty (.ret (.bool true)) h' := top eo11 rfl c50
theorem k51 : ∃ h', CallOk Tryz.prog 3 [(.md [(16,2)]), (.md [(20,11)])] Heap.empty (.ret (.bool true)) h' := top eo11 rfl c51
theorem k52 : ∃ h', CallOk Tryz.prog 3 [(.md [(16,2)]), (.md [(20,12)])] Heap.empty (.ret (.bool true)) h' := top eo11 rfl c52
theorem k53 : ∃ h', CallOk Tryz.prog 3 [(.md [(16,2)]), (.md [(20,13)])] Heap.empty (.ret (.bool true)) h' := top eo11 rfl c53
theorem k54 : ∃ h', CallOk Tryz.prog 3 [(.md [(16,2)]), (.md [(20,14)])] Heap.empty (.ret (.bool true)) h' := top eo11 rfl c54
theorem k55 : ∃ h', CallOk Tryz.prog 3 [(.md [(16,2)]), (.md [(20,15)])] Heap.empty (.ret (.bool true)) h' := top eo11 rfl c55
theorem k56 : ∃ h', CallOk Tryz.prog 3 [(.md [(16,2)]), (.md [(20,16)])] Heap.empty (.ret (.bool true)) h' := top eo11 rfl c56
theorem k57 : ∃ h', CallOk Tryz.prog 3 [(.md [(16,2)]), (.md [(20,17)])] Heap.empty (.ret (.bool true)) h' := top eo11 rfl c57
theorem k58 : ∃ h', CallOk Tryz.prog 3 [(.md [(16,2)]), (.md [(20,18)])] Heap.empty (.ret (.bool true)) h' := top eo11 rfl c58
theorem k59 : ∃ h', CallOk Tryz.prog 3 [(.md [(16,2)]), (.md [(20,19)])] Heap.empty (.ret (.bool true)) h' := top eo11 rfl c59
theorem eo12 : EnvOk Tryz.prog (EnA [] [p123_9] [] [] [] [] [] [] [p115_6] [] [] [] [] [] [] [] [p9_0] [] [] [] [] []) := (EnA_ok (mem_nil') (mem_cons' m123_9 (mem_nil')) (mem_nil') (mem_nil') (mem_nil') (mem_nil') (mem_nil') (mem_nil') (mem_cons' m115_6 (mem_nil')) (mem_nil') (mem_nil') (mem_nil') (mem_nil') (mem_nil') (mem_nil') (mem_nil') (mem_cons' m9_0 (mem_nil')) (mem_nil') (mem_nil') (mem_nil') (mem_nil') (mem_nil'))
theorem k60 : ∃ h', CallOk Tryz.prog 3 [(.md [(16,3)]), (.md [(20,0)])] Heap.empty (.ret (.bool true)) h' := top eo12 rfl c60
theorem eo13 : EnvOk Tryz.prog (EnA [] [p123_6,p123_9] [] [] [] [] [] [] [p115_3,p115_6] [] [] [] [] [p69_3] [] [] [p9_0] [] [] [] [] []) := (EnA_ok (mem_nil') (mem_cons' m123_6 (mem_cons' m123_9 (mem_nil'))) (mem_nil') (mem_nil') (mem_nil') (mem_nil') (mem_nil') (mem_nil') (mem_cons' m115_3 (mem_cons' m115_6 (mem_nil'))) (mem_nil') (mem_nil') (mem_nil') (mem_nil') (mem_cons' m69_3 (mem_nil')) (mem_nil') (mem_nil') (mem_cons' m9_0 (mem_nil')) (mem_nil') (mem_nil') (mem_nil') (mem_nil') (mem_nil'))
theorem k61 : ∃ h', CallOk Tryz.prog 3 [(.md [(16,3)]), (.md [(20,1)])] Heap.empty (.ret (.bool true)) h' := top eo13 rfl c61
theorem eo14 : EnvOk Tryz.prog (EnA [] [p123_6,p123_1,p123_3,p123_9] [] [] [] [p54_1] [p55_1] [p56_1] [p115_3,p115_1,p115_6] [p132_1] [] [] [] [p69_3,p69_1] [] [p124_1] [p9_0] [] [] [] [] []) := (EnA_ok (mem_nil') (mem_cons' m123_6 (mem_cons' m123_1 (mem_cons' m123_3 (mem_cons' m123_9 (mem_nil'))))) (mem_nil') (mem_nil') (mem_nil') (mem_cons' m54_1 (mem_nil')) (mem_cons' m55_1 (mem_nil')) (mem_cons' m56_1 (mem_nil')) (mem_cons' m115_3 (mem_cons' m115_1 (mem_cons' m115_6 (mem_nil')))) (mem_cons' m132_1 (mem_nil')) (mem_nil') (mem_nil') (mem_nil') (mem_cons' m69_3 (mem_cons' m69_1 (mem_nil'))) (mem_nil') (mem_cons' m124_1 (mem_nil')) (mem_cons' m9_0 (mem_nil')) (mem_nil') (mem_nil') (mem_nil') (mem_nil') (mem_nil'))
theorem k62 : ∃ h', CallOk Tryz.prog 3 [(.md [(16,3)]), (.md [(20,2)])] Heap.empty (.ret (.bool true)) h' := top eo14 rfl c62
theorem eo15 : EnvOk Tryz.prog (EnA [] [p123_6,p123_1,p123_3,p123_9] [] [] [] [p54_1] [p55_1] [p56_1] [p115_3,p115_1,p115_6] [p132_1] [] [] [] [p69_3,p69_1,p69_4] [] [p124_1] [p9_0] [] [] [] [] []) := (EnA_ok (mem_nil') (mem_cons' m123_6 (mem_cons' m123_1 (mem_cons' m123_3 (mem_cons' m123_9 (mem_nil'))))) (mem_nil') (mem_nil') (mem_nil') (mem_cons' m54_1 (mem_nil')) (mem_cons' m55_1 (mem_nil')) (mem_cons' m56_1 (mem_nil')) (mem_cons' m115_3 (mem_cons' m115_1 (mem_cons' m115_6 (mem_nil')))) (mem_cons' m132_1 (mem_nil')) (mem_nil') (mem_nil') (mem_nil') (mem_cons' m69_3 (mem_cons' m69_1 (mem_cons' m69_4 (mem_nil')))) (mem_nil') (mem_cons' m124_1 (mem_nil')) (mem_cons' m9_0 (mem_nil')) (mem_nil') (mem_nil') (mem_nil') (mem_nil') (mem_nil'))
theorem k63 : ∃ h', CallOk Tryz.prog 3 [(.md [(16,3)]), (.md [(20,3)])] Heap.empty (.ret (.bool true)) h' := top eo15 rfl c63
theorem k64 : ∃ h', CallOk Tryz.prog 3 [(.md [(16,3)]), (.md [(20,4)])] Heap.empty (.ret (.bool true)) h' := top eo15 rfl c64
theorem k65 : ∃ h', CallOk Tryz.prog 3 [(.md [(16,3)]), (.md [(20,5)])] Heap.empty (.ret (.bool true)) h' := top eo15 rfl c65
theorem k66 : ∃ h', CallOk Tryz.prog 3 [(.md [(16,3)]), (.md [(20,6)])] Heap.empty (.ret (.bool true)) h' := top eo15 rfl c66
theorem k67 : ∃ h', CallOk Tryz.prog 3 [(.md [(16,3)]), (.md [(20,7)])] Heap.empty (.ret (.bool true)) h' := top eo15 rfl c67
theorem k68 : ∃ h', CallOk Tryz.prog 3 [(.md [(16,3)]), (.md [(20,8)])] Heap.empty (.ret (.bool true)) h' := top eo15 rfl c68
theorem k69 : ∃ h', CallOk Tryz.prog 3 [(.md [(16,3)]), (.md [(20,9)])] Heap.empty (.ret (.bool true)) h' := top eo15 rfl c69
theorem k70 : ∃ h', CallOk Tryz.prog 3 [(.md [(16,3)]), (.md [(20,10)])] Heap.empty (.ret (.bool true)) h' := top eo15 rfl c70
theorem k71 : ∃ h', CallOk Tryz.prog 3 [(.md [(16,3)]), (.md [(20,11)])] Heap.empty (.ret (.bool true)) h' := top eo15 rfl c71
theorem k72 : ∃ h', CallOk Tryz.prog 3 [(.md [(16,3)]), (.md [(20,12)])] Heap.empty (.ret (.bool true)) h' := top eo15 rfl c72
theorem k73 : ∃ h', CallOk Tryz.prog 3 [(.md [(16,3)]), (.md [(20,13)])] Heap.empty (.ret (.bool true)) h' := top eo15 rfl c73
theorem k74 : ∃ h', CallOk Tryz.prog 3 [(.md [(16,3)]), (.md [(20,14)])] Heap.empty (.ret (.bool true)) h' := top eo15 rfl c74
theorem k75 : ∃ h', CallOk Tryz.prog 3 [(.md [(16,3)]), (.md [(20,15)])] Heap.empty (.ret (.bool true)) h' := top eo15 rfl c75
theorem k76 : ∃ h', CallOk Tryz.prog 3 [(.md [(16,3)]), (.md [(20,16)])] Heap.empty (.ret (.bool true)) h' := top eo15 rfl c76
theorem k77 : ∃ h', CallOk Tryz.prog 3 [(.md [(16,3)]), (.md [(20,17)])] Heap.empty (.ret (.bool true)) h' := top eo15 rfl c77
theorem k78 : ∃ h', CallOk Tryz.prog 3 [(.md [(16,3)]), (.md [(20,18)])] Heap.empty (.ret (.bool true)) h' := top eo15 rfl c78
theorem k79 : ∃ h', CallOk Tryz.prog 3 [(.md [(16,3)]), (.md [(20,19)])] Heap.empty (.ret (.bool true)) h' := top eo15 rfl c79
theorem eo16 : EnvOk Tryz.prog (EnA [] [] [] [] [] [] [] [] [p115_7] [] [] [] [] [p69_7] [] [] [p9_0] [] [] [] [] []) := (EnA_ok (mem_nil') (mem_nil') (mem_nil') (mem_nil') (mem_nil') (mem_nil') (mem_nil') (mem_nil') (mem_cons' m115_7 (mem_nil')) (mem_nil') (mem_nil') (mem_nil') (mem_nil') (mem_cons' m69_7 (mem_nil')) (mem_nil') (mem_nil') (mem_cons' m9_0 (mem_nil')) (mem_nil') (mem_nil') (mem_nil') (mem_nil') (mem_nil'))
theorem k80 : ∃ h', CallOk Tryz.prog 3 [(.md [(16,4)]), (.md [(20,0)])] Heap.empty (.ret (.bool true)) h' := top eo16 rfl c80
theorem eo17 : EnvOk Tryz.prog (EnA [] [p123_6] [] [] [] [] [] [] [p115_3,p115_7] [] [] [] [] [p69_3,p69_7] [] [] [p9_0] [] [] [] [] []) := (EnA_ok (mem_nil') (mem_cons' m123_6 (mem_nil')) (mem_nil') (mem_nil') (mem_nil') (mem_nil') (mem_nil') (mem_nil') (mem_cons' m115_3 (mem_cons' m115_7 (mem_nil'))) (mem_nil') (mem_nil') (mem_nil') (mem_nil') (mem_cons' m69_3 (mem_cons' m69_7 (mem_nil'))) (mem_nil') (mem_nil') (mem_cons' m9_0 (mem_nil')) (mem_nil') (mem_nil') (mem_nil') (mem_nil') (mem_nil'))
theorem k81 : ∃ h', CallOk Tryz.prog 3 [(.md [(16,4)]), (.md [(20,1)])] Heap.empty (.ret (.bool true)) h' := top eo17 rfl c81
theorem eo18 : EnvOk Tryz.prog (EnA [] [p123_6,p123_1,p123_3] [] [] [] [p54_1] [p55_1] [p56_1] [p115_3,p115_1,p115_7] [p132_1] [] [] [] [p69_3,p69_1,p69_7] [] [p124_1] [p9_0] [] [] [] [] []) := (EnA_ok (mem_nil') (mem_cons' m123_6 (mem_cons' m123_1 (mem_cons' m123_3 (mem_nil')))) (mem_nil') (mem_nil') (mem_nil') (mem_cons' m54_1 (mem_nil')) (mem_cons' m55_1 (mem_nil')) (mem_cons' m56_1 (mem_nil')) (mem_cons' m115_3 (mem_cons' m115_1 (mem_cons' m115_7 (mem_nil')))) (mem_cons' m132_1 (mem_nil')) (mem_nil') (mem_nil') (mem_nil') (mem_cons' m69_3 (mem_cons' m69_1 (mem_cons' m69_7 (mem_nil')))) (mem_nil') (mem_cons' m124_1 (mem_nil')) (mem_cons' m9_0 (mem_nil')) (mem_nil') (mem_nil') (mem_nil') (mem_nil') (mem_nil'))
theorem k82 : ∃ h', CallOk Tryz.prog 3 [(.md [(16,4)]), (.md [(20,2)])] Heap.empty (.ret (.bool true)) h' := top eo18 rfl c82
theorem eo19 : EnvOk Tryz.prog (EnA [] [p123_6,p123_1,p123_3] [] [] [] [p54_1] [p55_1] [p56_1] [p115_3,p115_1,p115_7] [p132_1] [] [] [] [p69_3,p69_1,p69_4,p69_7] [] [p124_1] [p9_0] [] [] [] [] []) := (EnA_ok (mem_nil') (mem_cons' m123_6 (mem_cons' m123_1 (mem_cons' m123_3 (mem_nil')))) (mem_nil') (mem_nil') (mem_nil') (mem_cons' m54_1 (mem_nil')) (mem_cons' m55_1 (mem_nil')) (mem_cons' m56_1 (mem_nil')) (mem_cons' m115_3 (mem_cons' m115_1 (mem_cons' m115_7 (mem_nil')))) (mem_cons' m132_1 (mem_nil')) (mem_nil') (mem_nil') (mem_nil') (mem_cons' m69_3 (mem_cons' m69_1 (mem_cons' m69_4 (mem_cons' m69_7 (mem_nil'))))) (mem_nil') (mem_cons' m124_1 (mem_nil')) (mem_cons' m9_0 (mem_nil')) (mem_nil') (mem_nil') (mem_nil') (mem_nil') (mem_nil'))
theorem k83 : ∃ h', CallOk Tryz.prog 3 [(.md [(16,4)]), (.md [(20,3)])] Heap.empty (.ret (.bool true)) h' := top eo19 rfl c83
theorem k84 : ∃ h', CallOk Tryz.prog 3 [(.md [(16,4)]), (.md [(20,4)])] Heap.empty (.ret (.bool true)) h' := top eo19 rfl c84
theorem k85 : ∃ h', CallOk Tryz.prog 3 [(.md [(16,4)]), (.md [(20,5)])] Heap.empty (.ret (.bool true)) h' := top eo19 rfl c85
theorem k86 : ∃ h', CallOk Tryz.prog 3 [(.md [(16,4)]), (.md [(20,6)])] Heap.empty (.ret (.bool true)) h' := top eo19 rfl c86
theorem k87 : ∃ h', CallOk Tryz.prog 3 [(.md [(16,4)]), (.md [(20,7)])] Heap.empty (.ret (.bool true)) h' := top eo19 rfl c87
theorem k88 : ∃ h', CallOk Tryz.prog 3 [(.md [(16,4)]), (.md [(20,8)])] Heap.empty (.ret (.bool true)) h' := top eo19 rfl c88
theorem k89 : ∃ h', CallOk Tryz.prog 3 [(.md [(16,4)]), (.md [(20,9)])] Heap.empty (.ret (.bool true)) h' := top eo19 rfl c89
theorem k90 : ∃ h', CallOk Tryz.prog 3 [(.md [(16,4)]), (.md [(20,10)])] Heap.empty (.ret (.bool true)) h' := top eo19 rfl c90
theorem k91 : ∃ h', CallOk Tryz.prog 3 [(.md [(16,4)]), (.md [(20,11)])] Heap.empty (.ret (.bool true)) h' := top eo19 rfl c91
theorem k92 : ∃ h', CallOk Tryz.prog 3 [(.md [(16,4)]), (.md [(20,12)])] Heap.empty (.ret (.bool true)) h' := top eo19 rfl c92
theorem k93 : ∃ h', CallOk Tryz.prog 3 [(.md [(16,4)]), (.md [(20,13)])] Heap.empty (.ret (.bool true)) h' := top eo19 rfl c93
theorem k94 : ∃ h', CallOk Tryz.prog 3 [(.md [(16,4)]), (.md [(20,14)])] Heap.empty (.ret (.bool true)) h' := top eo19 rfl c94
theorem k95 : ∃ h', CallOk Tryz.prog 3 [(.md [(16,4)]), (.md [(20,15)])] Heap.empty (.ret (.bool true)) h' := top eo19 rfl c95
theorem k96 : ∃ h', CallOk Tryz.prog 3 [(.md [(16,4)]), (.md [(20,16)])] Heap.empty (.ret (.bool true)) h' := top eo19 rfl c96
theorem k97 : ∃ h', CallOk Tryz.prog 3 [(.md [(16,4)]), (.md [(20,17)])] Heap.empty (.ret (.bool true)) h' := top eo19 rfl c97
theorem k98 : ∃ h', CallOk Tryz.prog 3 [(.md [(16,4)]), (.md [(20,18)])] Heap.empty (.ret (.bool true)) h' := top eo19 rfl c98
theorem k99 : ∃ h', CallOk Tryz.prog 3 [(.md [(16,4)]), (.md [(20,19)])] Heap.empty (.ret (.bool true)) h' := top eo19 rfl c99
theorem eo20 : EnvOk Tryz.prog (EnA [] [] [] [] [] [] [] [] [p115_8] [] [] [] [] [p69_8] [] [] [p9_0] [] [] [] [] []) := (EnA_ok (mem_nil') (mem_nil') (mem_nil') (mem_nil') (mem_nil') (mem_nil') (mem_nil') (mem_nil') (mem_cons' m115_8 (mem_nil')) (mem_nil') (mem_nil') (mem_nil') (mem_nil') (mem_cons' m69_8 (mem_nil')) (mem_nil') (mem_nil') (mem_cons' m9_0 (mem_nil')) (mem_nil') (mem_nil') (mem_nil') (mem_nil') (mem_nil'))
theorem k100 : ∃ h', CallOk Tryz.prog 3 [(.md [(16,5)]), (.md [(20,0)])] Heap.empty (.ret (.bool true)) h' := top eo20 rfl c100
theorem eo21 : EnvOk Tryz.prog (EnA [] [p123_6] [] [] [] [] [] [] [p115_3,p115_8] [] [] [] [] [p69_3,p69_8] [] [] [p9_0] [] [] [] [] []) := (EnA_ok (mem_nil') (mem_cons' m123_6 (mem_nil')) (mem_nil') (mem_nil') (mem_nil') (mem_nil') (mem_nil') (mem_nil') (mem_cons' m115_3 (mem_cons' m115_8 (mem_nil'))) (mem_nil') (mem_nil') (mem_nil') (mem_nil') (mem_cons' m69_3 (mem_cons' m69_8 (mem_nil'))) (mem_nil') (mem_nil') (mem_cons' m9_0 (mem_nil')) (mem_nil') (mem_nil') (mem_nil') (mem_nil') (mem_nil'))
theorem k101 : ∃ h', CallOk Tryz.prog 3 [(.md [(16,5)]), (.md [(20,1)])] Heap.empty (.ret (.bool true)) h' := top eo21 rfl c101
theorem eo22 : EnvOk Tryz.prog (EnA [] [p123_6,p123_1,p123_3] [] [] [] [p54_1] [p55_1] [p56_1] [p115_3,p115_1,p115_8] [p132_1] [] [] [] [p69_3,p69_1,p69_8] [] [p124_1] [p9_0] [] [] [] [] []) := (EnA_ok (mem_nil') (mem_cons' m123_6 (mem_cons' m123_1 (mem_cons' m123_3 (mem_nil')))) (mem_nil') (mem_nil') (mem_nil') (mem_cons' m54_1 (mem_nil')) (mem_cons' m55_1 (mem_nil')) (mem_cons' m56_1 (mem_nil')) (mem_cons' m115_3 (mem_cons' m115_1 (mem_cons' m115_8 (mem_nil')))) (mem_cons' m132_1 (mem_nil')) (mem_nil') (mem_nil') (mem_nil') (mem_cons' m69_3 (mem_cons' m69_1 (mem_cons' m69_8 (mem_nil')))) (mem_nil') (mem_cons' m124_1 (mem_nil')) (mem_cons' m9_0 (mem_nil')) (mem_nil') (mem_nil') (mem_nil') (mem_nil') (mem_nil'))
theorem k102 : ∃ h', CallOk Tryz.prog 3 [(.md [(16,5)]), (.md [(20,2)])] Heap.empty (.ret (.bool true)) h' := top eo22 rfl c102
theorem eo23 : EnvOk Tryz.prog (EnA [] [p123_6,p123_1,p123_3] [] [] [] [p54_1] [p55_1] [p56_1] [p115_3,p115_1,p115_8] [p132_1] [] [] [] [p69_3,p69_1,p69_4,p69_8] [] [p124_1] [p9_0] [] [] [] [] []) := (EnA_ok (mem_nil') (mem_cons' m123_6 (mem_cons' m123_1 (mem_cons' m123_3 (mem_nil')))) (mem_nil') (mem_nil') (mem_nil') (mem_cons' m54_1 (mem_nil')) (mem_cons' m55_1 (mem_nil')) (mem_cons' m56_1 (mem_nil')) (mem_cons' m115_3 (mem_cons' m115_1 (mem_cons' m115_8 (mem_nil')))) (mem_cons' m132_1 (mem_nil')) (mem_nil') (mem_nil') (mem_nil') (mem_cons' m69_3 (mem_cons' m69_1 (mem_cons' m69_4 (mem_cons' m69_8 (mem_nil'))))) (mem_nil') (mem_cons' m124_1 (mem_nil')) (mem_cons' m9_0 (mem_nil')) (mem_nil') (mem_nil') (mem_nil') (mem_nil') (mem_nil'))
theorem k103 : ∃ h', CallOk Tryz.prog 3 [(.md [(16,5)]), (.md [(20,3)])] Heap.empty (.ret (.bool true)) h' := top eo23 rfl c103
theorem k104 : ∃ h', CallOk Tryz.prog 3 [(.md [(16,5)]), (.md [(20,4)])] Heap.empty (.ret (.bool true)) h' := top eo23 rfl c104
theorem k105 : ∃ h', CallOk Tryz.prog 3 [(.md [(16,5)]), (.md [(20,5)])] Heap.empty (.ret (.bool true)) h' := top eo23 rfl c105
theorem k106 : ∃ h', CallOk Tryz.prog 3 [(.md [(16,5)]), (.md [(20,6)])] Heap.empty (.ret (.bool true)) h' := top eo23 rfl c106
theorem k107 : ∃ h', CallOk Tryz.prog 3 [(.md [(16,5)]), (.md [(20,7)])] Heap.empty (.ret (.bool true)) h' := top eo23 rfl c107
theorem k108 : ∃ h', CallOk Tryz.prog 3 [(.md [(16,5)]), (.md [(20,8)])] Heap.empty (.ret (.bool true)) h' := top eo23 rfl c108
theorem k109 : ∃ h', CallOk Tryz.prog 3 [(.md [(16,5)]), (.md [(20,9)])] Heap.empty (.ret (.bool true)) h' := top eo23 rfl c109
theorem k110 : ∃ h', CallOk Tryz.prog 3 [(.md [(16,5)]), (.md [(20,10)])] Heap.empty (.ret (.bool true)) h' := top eo23 rfl c110
theorem k111 : ∃ h', CallOk Tryz.prog 3 [(.md [(16,5)]), (.md [(20,11)])] Heap.empty (.ret (.bool true)) h' := top eo23 rfl c111
theorem k112 : ∃ h', CallOk Tryz.prog 3 [(.md [(16,5)]), (.md [(20,12)])] Heap.empty (.ret (.bool true)) h' := top eo23 rfl c112
theorem k113 : ∃ h', CallOk Tryz.prog 3 [(.md [(16,5)]), (.md [(20,13)])] Heap.empty (.ret (.bool true)) h' := top eo23 rfl c113
theorem k114 : ∃ h', CallOk Tryz.prog 3 [(.md [(16,5)]), (.md [(20,14)])] Heap.empty (.ret (.bool true)) h' := top eo23 rfl c114
theorem k115 : ∃ h', CallOk Tryz.prog 3 [(.md [(16,5)]), (.md [(20,15)])] Heap.empty (.ret (.bool true)) h' := top eo23 rfl c115
theorem k116 : ∃ h', CallOk Tryz.prog 3 [(.md [(16,5)]), (.md [(20,16)])] Heap.empty (.ret (.bool true)) h' := top eo23 rfl c116
theorem k117 : ∃ h', CallOk Tryz.prog 3 [(.md [(16,5)]), (.md [(20,17)])] Heap.empty (.ret (.bool true)) h' := top eo23 rfl c117
theorem k118 : ∃ h', CallOk Tryz.prog 3 [(.md [(16,5)]), (.md [(20,18)])] Heap.empty (.ret (.bool true)) h' := top eo23 rfl c118
theorem k119 : ∃ h', CallOk Tryz.prog 3 [(.md [(16,5)]), (.md [(20,19)])] Heap.empty (.ret (.bool true)) h' := top eo23 rfl c119
theorem eo24 : EnvOk Tryz.prog (EnA [] [] [] [] [] [] [] [] [p115_9] [] [] [] [] [p69_9] [] [] [p9_0] [] [] [] [] []) := (EnA_ok (mem_nil') (mem_nil') (mem_nil') (mem_nil') (mem_nil') (mem_nil') (mem_nil') (mem_nil') (mem_cons' m115_9 (mem_nil')) (mem_nil') (mem_nil') (mem_nil') (mem_nil') (mem_cons' m69_9 (mem_nil')) (mem_nil') (mem_nil') (mem_cons' m9_0 (mem_nil')) (mem_nil') (mem_nil') (mem_nil') (mem_nil') (mem_nil'))
theorem k120 : ∃ h', CallOk Tryz.prog 3 [(.md [(16,6)]), (.md [(20,0)])] Heap.empty (.ret (.bool true)) h' := top eo24 rfl c120
theorem eo25 : EnvOk Tryz.prog (EnA [] [p123_6] [] [] [] [] [] [] [p115_3,p115_9] [] [] [] [] [p69_3,p69_9] [] [] [p9_0] [] [] [] [] []) := (EnA_ok (mem_nil') (mem_cons' m123_6 (mem_nil')) (mem_nil') (mem_nil') (mem_nil') (mem_nil') (mem_nil') (mem_nil') (mem_cons' m115_3 (mem_cons' m115_9 (mem_nil'))) (mem_nil') (mem_nil') (mem_nil') (mem_nil') (mem_cons' m69_3 (mem_cons' m69_9 (mem_nil'))) (mem_nil') (mem_nil') (mem_cons' m9_0 (mem_nil')) (mem_nil') (mem_nil') (mem_nil') (mem_nil') (mem_nil'))
theorem k121 : ∃ h', CallOk Tryz.prog 3 [(.md [(16,6)]), (.md [(20,1)])] Heap.empty (.ret (.bool true)) h' := top eo25 rfl c121
theorem eo26 : EnvOk Tryz.prog (EnA [] [p123_6,p123_1,p123_3] [] [] [] [p54_1] [p55_1] [p56_1] [p115_3,p115_1,p115_9] [p132_1] [] [] [] [p69_3,p69_1,p69_9] [] [p124_1] [p9_0] [] [] [] [] []) := (EnA_ok (mem_nil') (mem_cons' m123_6 (mem_cons' m123_1 (mem_cons' m123_3 (mem_nil')))) (mem_nil') (mem_nil') (mem_nil') (mem_cons' m54_1 (mem_nil')) (mem_cons' m55_1 (mem_nil')) (mem_cons' m56_1 (mem_nil')) (mem_cons' m115_3 (mem_cons' m115_1 (mem_cons' m115_9 (mem_nil')))) (mem_cons' m132_1 (mem_nil')) (mem_nil') (mem_nil') (mem_nil') (mem_cons' m69_3 (mem_cons' m69_1 (mem_cons' m69_9 (mem_nil')))) (mem_nil') (mem_cons' m124_1 (mem_nil')) (mem_cons' m9_0 (mem_nil')) (mem_nil') (mem_nil') (mem_nil') (mem_nil') (mem_nil'))
theorem k122 : ∃ h', CallOk Tryz.prog 3 [(.md [(16,6)]), (.md [(20,2)])] Heap.empty (.ret (.bool true)) h' := top eo26 rfl c122
theorem eo27 : EnvOk Tryz.prog (EnA [] [p123_6,p123_1,p123_3] [] [] [] [p54_1] [p55_1] [p56_1] [p115_3,p115_1,p115_9] [p132_1] [] [] [] [p69_3,p69_1,p69_4,p69_9] [] [p124_1] [p9_0] [] [] [] [] []) := (EnA_ok (mem_nil') (mem_cons' m123_6 (mem_cons' m123_1 (mem_cons' m123_3 (mem_nil')))) (mem_nil') (mem_nil') (mem_nil') (mem_cons' m54_1 (mem_nil')) (mem_cons' m55_1 (mem_nil')) (mem_cons' m56_1 (mem_nil')) (mem_cons' m115_3 (mem_cons' m115_1 (mem_cons' m115_9 (mem_nil')))) (mem_cons' m132_1 (mem_nil')) (mem_nil') (mem_nil') (mem_nil') (mem_cons' m69_3 (mem_cons' m69_1 (mem_cons' m69_4 (mem_cons' m69_9 (mem_nil'))))) (mem_nil') (mem_cons' m124_1 (mem_nil')) (mem_cons' m9_0 (mem_nil')) (mem_nil') (mem_nil') (mem_nil') (mem_nil') (mem_nil'))
theorem k123 : ∃ h', CallOk Tryz.prog 3 [(.md [(16,6)]), (.md [(20,3)])] Heap.empty (.ret (.bool true)) h' := top eo27 rfl c123
theorem k124 : ∃ h', CallOk Tryz.prog 3 [(.md [(16,6)]), (.md [(20,4)])] Heap.empty (.ret (.bool true)) h' := top eo27 rfl c124
theorem k125 : ∃ h', CallOk Tryz.prog 3 [(.md [(16,6)]), (.md [(20,5)])] Heap.empty (.ret (.bool true)) h' := top eo27 rfl c125
theorem k126 : ∃ h', CallOk Tryz.prog 3 [(.md [(16,6)]), (.md [(20,6)])] Heap.empty (.ret (.bool true)) h' := top eo27 rfl c126
theorem k127 : ∃ h', CallOk Tryz.prog 3 [(.md [(16,6)]), (.md [(20,7)])] Heap.empty (.ret (.bool true)) h' := top eo27 rfl c127
theorem k128 : ∃ h', CallOk Tryz.prog 3 [(.md [(16,6)]), (.md [(20,8)])] Heap.empty (.ret (.bool true)) h' := top eo27 rfl c128
theorem k129 : ∃ h', CallOk Tryz.prog 3 [(.md [(16,6)]), (.md [(20,9)])] Heap.empty (.ret (.bool true)) h' := top eo27 rfl c129
theorem k130 : ∃ h', CallOk Tryz.prog 3 [(.md [(16,6)]), (.md [(20,10)])] Heap.empty (.ret (.bool true)) h' := top eo27 rfl c130
theorem k131 : ∃ h', CallOk Tryz.prog 3 [(.md [(16,6)]), (.md [(20,11)])] Heap.empty (.ret (.bool true)) h' := top eo27 rfl c131
theorem k132 : ∃ h', CallOk Tryz.prog 3 [(.md [(16,6)]), (.md [(20,12)])] Heap.empty (.ret (.bool true)) h' := top eo27 rfl c132
theorem k133 : ∃ h', CallOk Tryz.prog 3 [(.md [(16,6)]), (.md [(20,13)])] Heap.empty (.ret (.bool true)) h' := top eo27 rfl c133
theorem k134 : ∃ h', CallOk Tryz.prog 3 [(.md [(16,6)]), (.md [(20,14)])] Heap.empty (.ret (.bool true)) h' := top eo27 rfl c134
theorem k135 : ∃ h', CallOk Tryz.prog 3 [(.md [(16,6)]), (.md [(20,15)])] Heap.empty (.ret (.bool true)) h' := top eo27 rfl c135
theorem k136 : ∃ h', CallOk Tryz.prog 3 [(.md [(16,6)]), (.md [(20,16)])] Heap.empty (.ret (.bool true)) h' := top eo27 rfl c136
theorem k137 : ∃ h', CallOk Tryz.prog 3 [(.md [(16,6)]), (.md [(20,17)])] Heap.empty (.ret (.bool true)) h' := top eo27 rfl c137
theorem k138 : ∃ h', CallOk Tryz.prog 3 [(.md [(16,6)]), (.md [(20,18)])] Heap.empty (.ret (.bool true)) h' := top eo27 rfl c138
theorem k139 : ∃ h', CallOk Tryz.prog 3 [(.md [(16,6)]), (.md [(20,19)])] Heap.empty (.ret (.bool true)) h' := top eo27 rfl c139
theorem eo28 : EnvOk Tryz.prog (EnA [] [p123_10,p123_11] [] [] [] [] [] [] [p115_10] [] [] [] [] [p69_10] [] [p124_5,p124_6] [p9_0] [] [] [] [] []) := (EnA_ok (mem_nil') (mem_cons' m123_10 (mem_cons' m123_11 (mem_nil'))) (mem_nil') (mem_nil') (mem_nil') (mem_nil') (mem_nil') (mem_nil') (mem_cons' m115_10 (mem_nil')) (mem_nil') (mem_nil') (mem_nil') (mem_nil') (mem_cons' m69_10 (mem_nil')) (mem_nil') (mem_cons' m124_5 (mem_cons' m124_6 (mem_nil'))) (mem_cons' m9_0 (mem_nil')) (mem_nil') (mem_nil') (mem_nil') (mem_nil') (mem_nil'))
theorem k140 : ∃ h', CallOk Tryz.prog 3 [(.md [(16,7)]), (.md [(20,0)])] Heap.empty (.ret (.bool true)) h' := top eo28 rfl c140
theorem eo29 : EnvOk Tryz.prog (EnA [] [p123_6,p123_10,p123_11] [] [] [] [] [] [] [p115_3,p115_10] [] [] [] [] [p69_3,p69_10] [] [p124_5,p124_6] [p9_0] [] [] [] [] []) := (EnA_ok (mem_nil') (mem_cons' m123_6 (mem_cons' m123_10 (mem_cons' m123_11 (mem_nil')))) (mem_nil') (mem_nil') (mem_nil') (mem_nil') (mem_nil') (mem_nil') (mem_cons' m115_3 (mem_cons' m115_10 (mem_nil'))) (mem_nil') (mem_nil') (mem_nil') (mem_nil') (mem_cons' m69_3 (mem_cons' m69_10 (mem_nil'))) (mem_nil') (mem_cons' m124_5 (mem_cons' m124_6 (mem_nil'))) (mem_cons' m9_0 (mem_nil')) (mem_nil') (mem_nil') (mem_nil') (mem_nil') (mem_nil'))
theorem k141 : ∃ h', CallOk Tryz.prog 3 [(.md [(16,7)]), (.md [(20,1)])] Heap.empty (.ret (.bool true)) h' := top eo29 rfl c141
theorem eo30 : EnvOk Tryz.prog (EnA [] [p123_6,p123_1,p123_3,p123_10,p123_11] [] [] [] [p54_1] [p55_1] [p56_1] [p115_3,p115_1,p115_10] [p132_1] [] [] [] [p69_3,p69_1,p69_10] [] [p124_1,p124_5,p124_6] [p9_0] [] [] [] [] []) := (EnA_ok (mem_nil') (mem_cons' m123_6 (mem_cons' m123_1 (mem_cons' m123_3 (mem_cons' m123_10 (mem_cons' m123_11 (mem_nil')))))) (mem_nil') (mem_nil') (mem_nil') (mem_cons' m54_1 (mem_nil')) (mem_cons' m55_1 (mem_nil')) (mem_cons' m56_1 (mem_nil')) (mem_cons' m115_3 (mem_cons' m115_1 (mem_cons' m115_10 (mem_nil')))) (mem_cons' m132_1 (mem_nil')) (mem_nil') (mem_nil') (mem_nil') (mem_cons' m69_3 (mem_cons' m69_1 (mem_cons' m69_10 (mem_nil')))) (mem_nil') (mem_cons' m124_1 (mem_cons' m124_5 (mem_cons' m124_6 (mem_nil')))) (mem_cons' m9_0 (mem_nil')) (mem_nil') (mem_nil') (mem_nil') (mem_nil') (mem_nil'))
theorem k142 : ∃ h', CallOk Tryz.prog 3 [(.md [(16,7)]), (.md [(20,2)])] Heap.empty (.ret (.bool true)) h' := top eo30 rfl c142
theorem eo31 : EnvOk Tryz.prog (EnA [] [p123_6,p123_1,p123_3,p123_10,p123_11] [] [] [] [p54_1] [p55_1] [p56_1] [p115_3,p115_1,p115_10] [p132_1] [] [] [] [p69_3,p69_1,p69_4,p69_10] [] [p124_1,p124_5,p124_6] [p9_0] [] [] [] [] []) := (EnA_ok (mem_nil') (mem_cons' m123_6 (mem_cons' m123_1 (mem_cons' m123_3 (mem_cons' m123_10 (mem_cons' m123_11 (mem_nil')))))) (mem_nil') (mem_nil') (mem_nil') (mem_cons' m54_1 (mem_nil')) (mem_cons' m55_1 (mem_nil')) (mem_cons' m56_1 (mem_nil')) (mem_cons' m115_3 (mem_cons' m115_1 (mem_cons' m115_10 (mem_nil')))) (mem_cons' m132_1 (mem_nil')) (mem_nil') (mem_nil') (mem_nil') (mem_cons' m69_3 (mem_cons' m69_1 (mem_cons' m69_4 (mem_cons' m69_10 (mem_nil'))))) (mem_nil') (mem_cons' m124_1 (mem_cons' m124_5 (mem_cons' m124_6 (mem_nil')))) (mem_cons' m9_0 (mem_nil')) (mem_nil') (mem_nil') (mem_nil') (mem_nil') (mem_nil'))
theorem k143 : ∃ h', CallOk Tryz.prog 3 [(.md [(16,7)]), (.md [(20,3)])] Heap.empty (.ret (.bool true)) h' := top eo31 rfl c143
theorem k144 : ∃ h', CallOk Tryz.prog 3 [(.md [(16,7)]), (.md [(20,4)])] Heap.empty (.ret (.bool true)) h' := top eo31 rfl c144
theorem k145 : ∃ h', CallOk Tryz.prog 3 [(.md [(16,7)]), (.md [(20,5)])] Heap.empty (.ret (.bool true)) h' := top eo31 rfl c145
theorem k146 : ∃ h', CallOk Tryz.prog 3 [(.md [(16,7)]), (.md [(20,6)])] Heap.empty (.ret (.bool true)) h' := top eo31 rfl c146
theorem k147 : ∃ h', CallOk Tryz.prog 3 [(.md [(16,7)]), (.md [(20,7)])] Heap.empty (.ret (.bool true)) h' := top eo31 rfl c147
theorem k148 : ∃ h', CallOk Tryz.prog 3 [(.md [(16,7)]), (.md [(20,8)])] Heap.empty (.ret (.bool true)) h' := top eo31 rfl c148
theorem k149 : ∃ h', CallOk Tryz.prog 3 [(.md [(16,7)]), (.md [(20,9)])] Heap.empty (.ret (.bool true)) h' := top eo31 rfl c149
theorem k150 : ∃ h', CallOk Tryz.prog 3 [(.md [(16,7)]), (.md [(20,10)])] Heap.empty (.ret (.bool true)) h' := top eo31 rfl c150
theorem k151 : ∃ h', CallOk Tryz.prog 3 [(.md [(16,7)]), (.md [(20,11)])] Heap.empty (.ret (.bool true)) h' := top eo31 rfl c151
theorem k152 : ∃ h', CallOk Tryz.prog 3 [(.md [(16,7)]), (.md [(20,12)])] Heap.empty (.ret (.bool true)) h' := top eo31 rfl c152
theorem k153 : ∃ h', CallOk Tryz.prog 3 [(.md [(16,7)]), (.md [(20,13)])] Heap.empty (.ret (.bool true)) h' := top eo31 rfl c153
theorem k154 : ∃ h', CallOk Tryz.prog 3 [(.md [(16,7)]), (.md [(20,14)])] Heap.empty (.ret (.bool true)) h' := top eo31 rfl c154
theorem k155 : ∃ h', CallOk Tryz.prog 3 [(.md [(16,7)]), (.md [(20,15)])] Heap.empty (.ret (.bool true)) h' := top eo31 rfl c155
theorem k156 : ∃ h', CallOk Tryz.prog 3 [(.md [(16,7)]), (.md [(20,16)])] Heap.empty (.ret (.bool true)) h' := top eo31 rfl c156
theorem k157 : ∃ h', CallOk Tryz.prog 3 [(.md [(16,7)]), (.md [(20,17)])] Heap.empty (.ret (.bool true)) h' := top eo31 rfl c157
theorem k158 : ∃ h', CallOk Tryz.prog 3 [(.md [(16,7)]), (.md [(20,18)])] Heap.empty (.ret (.bool true)) h' := top eo31 rfl c158
theorem k159 : ∃ h', CallOk Tryz.prog 3 [(.md [(16,7)]), (.md [(20,19)])] Heap.empty (.ret (.bool true)) h' := top eo31 rfl c159
theorem eo32 : EnvOk Tryz.prog (EnA [] [p123_12,p123_6] [] [] [] [] [] [] [p115_11] [] [] [] [] [p69_11] [] [p124_7] [p9_0] [] [] [] [] []) := (EnA_ok (mem_nil') (mem_cons' m123_12 (mem_cons' m123_6 (mem_nil'))) (mem_nil') (mem_nil') (mem_nil') (mem_nil') (mem_nil') (mem_nil') (mem_cons' m115_11 (mem_nil')) (mem_nil') (mem_nil') (mem_nil') (mem_nil') (mem_cons' m69_11 (mem_nil')) (mem_nil') (mem_cons' m124_7 (mem_nil')) (mem_cons' m9_0 (mem_nil')) (mem_nil') (mem_nil') (mem_nil') (mem_nil') (mem_nil'))
theorem k160 : ∃ h', CallOk Tryz.prog 3 [(.md [(16,8)]), (.md [(20,0)])] Heap.empty (.ret (.bool true)) h' := top eo32 rfl c160
theorem eo33 : EnvOk Tryz.prog (EnA [] [p123_6,p123_12] [] [] [] [] [] [] [p115_3,p115_11] [] [] [] [] [p69_3,p69_11] [] [p124_7] [p9_0] [] [] [] [] []) := (EnA_ok (mem_nil') (mem_cons' m123_6 (mem_cons' m123_12 (mem_nil'))) (mem_nil') (mem_nil') (mem_nil') (mem_nil') (mem_nil') (mem_nil') (mem_cons' m115_3 (mem_cons' m115_11 (mem_nil'))) (mem_nil') (mem_nil') (mem_nil') (mem_nil') (mem_cons' m69_3 (mem_cons' m69_11 (mem_nil'))) (mem_nil') (mem_cons' m124_7 (mem_nil')) (mem_cons' m9_0 (mem_nil')) (mem_nil') (mem_nil') (mem_nil') (mem_nil') (mem_nil'))
theorem k161 : ∃ h', CallOk Tryz.prog 3 [(.md [(16,8)]), (.md [(20,1)])] Heap.empty (.ret (.bool true)) h' := top eo33 rfl c161
theorem eo34 : EnvOk Tryz.prog (EnA [] [p123_6,p123_1,p123_3,p123_12] [] [] [] [p54_1] [p55_1] [p56_1] [p115_3,p115_1,p115_11] [p132_1] [] [] [] [p69_3,p69_1,p69_11] [] [p124_1,p124_7] [p9_0] [] [] [] [] []) := (EnA_ok (mem_nil') (mem_cons' m123_6 (mem_cons' m123_1 (mem_cons' m123_3 (mem_cons' m123_12 (mem_nil'))))) (mem_nil') (mem_nil') (mem_nil') (mem_cons' m54_1 (mem_nil')) (mem_cons' m55_1 (mem_nil')) (mem_cons' m56_1 (mem_nil')) (mem_cons' m115_3 (mem_cons' m115_1 (mem_cons' m115_11 (mem_nil')))) (mem_cons' m132_1 (mem_nil')) (mem_nil') (mem_nil') (mem_nil') (mem_cons' m69_3 (mem_cons' m69_1 (mem_cons' m69_11 (mem_nil')))) (mem_nil') (mem_cons' m124_1 (mem_cons' m124_7 (mem_nil'))) (mem_cons' m9_0 (mem_nil')) (mem_nil') (mem_nil') (mem_nil') (mem_nil') (mem_nil'))
theorem k162 : ∃ h', CallOk Tryz.prog 3 [(.md [(16,8)]), (.md [(20,2)])] Heap.empty (.ret (.bool true)) h' := top eo34 rfl c162
theorem eo35 : EnvOk Tryz.prog (EnA [] [p123_6,p123_1,p123_3,p123_12] [] [] [] [p54_1] [p55_1] [p56_1] [p115_3,p115_1,p115_11] [p132_1] [] [] [] [p69_3,p69_1,p69_4,p69_11] [] [p124_1,p124_7] [p9_0] [] [] [] [] []) := (EnA_ok (mem_nil') (mem_cons' m123_6 (mem_cons' m123_1 (mem_cons' m123_3 (mem_cons' m123_12 (mem_nil'))))) (mem_nil') (mem_nil') (mem_nil') (mem_cons' m54_1 (mem_nil')) (mem_cons' m55_1 (mem_nil')) (mem_cons' m56_1 (mem_nil')) (mem_cons' m115_3 (mem_cons' m115_1 (mem_cons' m115_11 (mem_nil')))) (mem_cons' m132_1 (mem_nil')) (mem_nil') (mem_nil') (mem_nil') (mem_cons' m69_3 (mem_cons' m69_1 (mem_cons' m69_4 (mem_cons' m69_11 (mem_nil'))))) (mem_nil') (mem_cons' m124_1 (mem_cons' m124_7 (mem_nil'))) (mem_cons' m9_0 (mem_nil')) (mem_nil') (mem_nil') (mem_nil') (mem_nil') (mem_nil'))
theorem k163 : ∃ h', CallOk Tryz.prog 3 [(.md [(16,8)]), (.md [(20,3)])] Heap.empty (.ret (.bool true)) h' := top eo35 rfl c163
theorem k164 : ∃ h', CallOk Tryz.prog 3 [(.md [(16,8)]), (.md [(20,4)])] Heap.empty (.ret (.bool true)) h' := top eo35 rfl c164
theorem k165 : ∃ h', CallOk Tryz.prog 3 [(.md [(16,8)]), (.md [(20,5)])] Heap.empty (.ret (.bool true)) h' := top eo35 rfl c165
theorem k166 : ∃ h', CallOk Tryz.prog 3 [(.md [(16,8)]), (.md [(20,6)])] Heap.empty (.ret (.bool true)) h' := top eo35 rfl c166
theorem k167 : ∃ h', CallOk Tryz.prog 3 [(.md [(16,8)]), (.md [(20,7)])] Heap.empty (.ret (.bool true)) h' := top eo35 rfl c167
theorem k168 : ∃ h', CallOk Tryz.prog 3 [(.md [(16,8)]), (.md [(20,8)])] Heap.empty (.ret (.bool true)) h' := top eo35 rfl c168
theorem k169 : ∃ h', CallOk Tryz.prog 3 [(.md [(16,8)]), (.md [(20,9)])] Heap.empty (.ret (.bool true)) h' := top eo35 rfl c169
theorem k170 : ∃ h', CallOk Tryz.prog 3 [(.md [(16,8)]), (.md [(20,10)])] Heap.empty (.ret (.bool true)) h' := top eo35 rfl c170
theorem k171 : ∃ h', CallOk Tryz.prog 3 [(.md [(16,8)]), (.md [(20,11)])] Heap.empty (.ret (.bool true)) h' := top eo35 rfl c171
theorem k172 : ∃ h', CallOk Tryz.prog 3 [(.md [(16,8)]), (.md [(20,12)])] Heap.empty (.ret (.bool true)) h' := top eo35 rfl c172
theorem k173 : ∃ h', CallOk Tryz.prog 3 [(.md [(16,8)]), (.md [(20,13)])] Heap.empty (.ret (.bool true)) h' := top eo35 rfl c173
theorem k174 : ∃ h', CallOk Tryz.prog 3 [(.md [(16,8)]), (.md [(20,14)])] Heap.empty (.ret (.bool true)) h' := top eo35 rfl c174
theorem k175 : ∃ h', CallOk Tryz.prog 3 [(.md [(16,8)]), (.md [(20,15)])] Heap.empty (.ret (.bool true)) h' := top eo35 rfl c175
theorem k176 : ∃ h', CallOk Tryz.prog 3 [(.md [(16,8)]), (.md [(20,16)])] Heap.empty (.ret (.bool true)) h' := top eo35 rfl c176
theorem k177 : ∃ h', CallOk Tryz.prog 3 [(.md [(16,8)]), (.md [(20,17)])] Heap.empty (.ret (.bool true)) h' := top eo35 rfl c177
theorem k178 : ∃ h', CallOk Tryz.prog 3 [(.md [(16,8)]), (.md [(20,18)])] Heap.empty (.ret (.bool true)) h' := top eo35 rfl c178
theorem k179 : ∃ h', CallOk Tryz.prog 3 [(.md [(16,8)]), (.md [(20,19)])] Heap.empty (.ret (.bool true)) h' := top eo35 rfl c179
theorem eo36 : EnvOk Tryz.prog (EnA [] [p123_13,p123_6] [] [] [] [p54_5] [p55_4] [p56_4] [p115_12] [p132_6] [] [] [] [p69_12] [] [p124_8] [p9_0] [] [] [] [] []) := (EnA_ok (mem_nil') (mem_cons' m123_13 (mem_cons' m123_6 (mem_nil'))) (mem_nil') (mem_nil') (mem_nil') (mem_cons' m54_5 (mem_nil')) (mem_cons' m55_4 (mem_nil')) (mem_cons' m56_4 (mem_nil')) (mem_cons' m115_12 (mem_nil')) (mem_cons' m132_6 (mem_nil')) (mem_nil') (mem_nil') (mem_nil') (mem_cons' m69_12 (mem_nil')) (mem_nil') (mem_cons' m124_8 (mem_nil')) (mem_cons' m9_0 (mem_nil')) (mem_nil') (mem_nil') (mem_nil') (mem_nil') (mem_nil'))
theorem k180 : ∃ h', CallOk Tryz.prog 3 [(.md [(16,9)]), (.md [(20,0)])] Heap.empty (.ret (.bool true)) h' := top eo36 rfl c180
theorem eo37 : EnvOk Tryz.prog (EnA [] [p123_6,p123_13] [] [] [] [p54_5] [p55_4] [p56_4] [p115_3,p115_12] [p132_6] [] [] [] [p69_3,p69_12] [] [p124_8] [p9_0] [] [] [] [] []) := (EnA_ok (mem_nil') (mem_cons' m123_6 (mem_cons' m123_13 (mem_nil'))) (mem_nil') (mem_nil') (mem_nil') (mem_cons' m54_5 (mem_nil')) (mem_cons' m55_4 (mem_nil')) (mem_cons' m56_4 (mem_nil')) (mem_cons' m115_3 (mem_cons' m115_12 (mem_nil'))) (mem_cons' m132_6 (mem_nil')) (mem_nil') (mem_nil') (mem_nil') (mem_cons' m69_3 (mem_cons' m69_12 (mem_nil'))) (mem_nil') (mem_cons' m124_8 (mem_nil')) (mem_cons' m9_0 (mem_nil')) (mem_nil') (mem_nil') (mem_nil') (mem_nil') (mem_nil'))
theorem k181 : ∃ h', CallOk Tryz.prog 3 [(.md [(16,9)]), (.md [(20,1)])] Heap.empty (.ret (.bool true)) h' := top eo37 rfl c181
theorem eo38 : EnvOk Tryz.prog (EnA [] [p123_6,p123_1,p123_3,p123_13] [] [] [] [p54_1,p54_5] [p55_1,p55_4] [p56_1,p56_4] [p115_3,p115_1,p115_12] [p132_1,p132_6] [] [] [] [p69_3,p69_1,p69_12] [] [p124_1,p124_8] [p9_0] [] [] [] [] []) := (EnA_ok (mem_nil') (mem_cons' m123_6 (mem_cons' m123_1 (mem_cons' m123_3 (mem_cons' m123_13 (mem_nil'))))) (mem_nil') (mem_nil') (mem_nil') (mem_cons' m54_1 (mem_cons' m54_5 (mem_nil'))) (mem_cons' m55_1 (mem_cons' m55_4 (mem_nil'))) (mem_cons' m56_1 (mem_cons' m56_4 (mem_nil'))) (mem_cons' m115_3 (mem_cons' m115_1 (mem_cons' m115_12 (mem_nil')))) (mem_cons' m132_1 (mem_cons' m132_6 (mem_nil'))) (mem_nil') (mem_nil') (mem_nil') (mem_cons' m69_3 (mem_cons' m69_1 (mem_cons' m69_12 (mem_nil')))) (mem_nil') (mem_cons' m124_1 (mem_cons' m124_8 (mem_nil'))) (mem_cons' m9_0 (mem_nil')) (mem_nil') (mem_nil') (mem_nil') (mem_nil') (mem_nil'))
theorem k182 : ∃ h', CallOk Tryz.prog 3 [(.md [(16,9)]), (.md [(20,2)])] Heap.empty (.ret (.bool true)) h' := top eo38 rfl c182
theorem eo39 : EnvOk Tryz.prog (EnA [] [p123_6,p123_1,p123_3,p123_13] [] [] [] [p54_1,p54_5] [p55_1,p55_4] [p56_1,p56_4] [p115_3,p115_1,p115_12] [p132_1,p132_6] [] [] [] [p69_3,p69_1,p69_4,p69_12] [] [p124_1,p124_8] [p9_0] [] [] [] [] []) := (EnA_ok (mem_nil') (mem_cons' m123_6 (mem_cons' m123_1 (mem_cons' m123_3 (mem_cons' m123_13 (mem_nil'))))) (mem_nil') (mem_nil') (mem_nil') (mem_cons' m54_1 (mem_cons' m54_5 (mem_nil'))) (mem_cons' m55_1 (mem_cons' m55_4 (mem_nil'))) (mem_cons' m56_1 (mem_cons' m56_4 (mem_nil'))) (mem_cons' m115_3 (mem_cons' m115_1 (mem_cons' m115_12 (mem_nil')))) (mem_cons' m132_1 (mem_cons' m132_6 (mem_nil'))) (mem_nil') (mem_nil') (mem_nil') (mem_cons' m69_3 (mem_cons' m69_1 (mem_cons' m69_4 (mem_cons' m69_12 (mem_nil'))))) (mem_nil') (mem_cons' m124_1 (mem_cons' m124_8 (mem_nil'))) (mem_cons' m9_0 (mem_nil')) (mem_nil') (mem_nil') (mem_nil') (mem_nil') (mem_nil'))
theorem k183 : ∃ h', CallOk Tryz.prog 3 [(.md [(16,9)]), (.md [(20,3)])] Heap.empty (.ret (.bool true)) h' := top eo39 rfl c183
theorem k184 : ∃ h', CallOk Tryz.prog 3 [(.md [(16,9)]), (.md [(20,4)])] Heap.empty (.ret (.bool true)) h' := top eo39 rfl c184
theorem k185 : ∃ h', CallOk Tryz.prog 3 [(.md [(16,9)]), (.md [(20,5)])] Heap.empty (.ret (.bool true)) h' := top eo39 rfl c185
theorem k186 : ∃ h', CallOk Tryz.prog 3 [(.md [(16,9)]), (.md [(20,6)])] Heap.empty (.ret (.bool true)) h' := top eo39 rfl c186
theorem k187 : ∃ h', CallOk Tryz.prog 3 [(.md [(16,9)]), (.md [(20,7)])] Heap.empty (.ret (.bool true)) h' := top eo39 rfl c187
theorem k188 : ∃ h', CallOk Tryz.prog 3 [(.md [(16,9)]), (.md [(20,8)])] Heap.empty (.ret (.bool true)) h' := top eo39 rfl c188
theorem k189 : ∃ h', CallOk Tryz.prog 3 [(.md [(16,9)]), (.md [(20,9)])] Heap.empty (.ret (.bool true)) h' := top eo39 rfl c189
theorem k190 : ∃ h', CallOk Tryz.prog 3 [(.md [(16,9)]), (.md [(20,10)])] Heap.empty (.ret (.bool true)) h' := top eo39 rfl c190
theorem k191 : ∃ h', CallOk Tryz.prog 3 [(.md [(16,9)]), (.md [(20,11)])] Heap.empty (.ret (.bool true)) h' := top eo39 rfl c191
theorem k192 : ∃ h', CallOk Tryz.prog 3 [(.md [(16,9)]), (.md [(20,12)])] Heap.empty (.ret (.bool true)) h' := top eo39 rfl c192
theorem k193 : ∃ h', CallOk Tryz.prog 3 [(.md [(16,9)]), (.md [(20,13)])] Heap.empty (.ret (.bool true)) h' := top eo39 rfl c193
theorem k194 : ∃ h', CallOk Tryz.prog 3 [(.md [(16,9)]), (.md [(20,14)])] Heap.empty (.ret (.bool true)) h' := top eo39 rfl c194
theorem k195 : ∃ h', CallOk Tryz.prog 3 [(.md [(16,9)]), (.md [(20,15)])] Heap.empty (.ret (.bool true)) h' := top eo39 rfl c195
theorem k196 : ∃ h', CallOk Tryz.prog 3 [(.md [(16,9)]), (.md [(20,16)])] Heap.empty (.ret (.bool true)) h' := top eo39 rfl c196
theorem k197 : ∃ h', CallOk Tryz.prog 3 [(.md [(16,9)]), (.md [(20,17)])] Heap.empty (.ret (.bool true)) h' := top eo39 rfl c197
theorem k198 : ∃ h', CallOk Tryz.prog 3 [(.md [(16,9)]), (.md [(20,18)])] Heap.empty (.ret (.bool true)) h' := top eo39 rfl c198
theorem k199 : ∃ h', CallOk Tryz.prog 3 [(.md [(16,9)]), (.md [(20,19)])] Heap.empty (.ret (.bool true)) h' := top eo39 rfl c199
theorem eo40 : EnvOk Tryz.prog (EnA [] [p123_15] [p113_20] [] [p84_2] [p54_6] [p55_5] [p56_5] [p115_13] [p132_7] [] [] [] [p69_13] [] [p124_9] [p9_0] [] [p200_0] [p204_0] [p202_0] []) := (EnA_ok (mem_nil') (mem_cons' m123_15 (mem_nil')) (mem_cons' m113_20 (mem_nil')) (mem_nil') (mem_cons' m84_2 (mem_nil')) (mem_cons' m54_6 (mem_nil')) (mem_cons' m55_5 (mem_nil')) (mem_cons' m56_5 (mem_nil')) (mem_cons' m115_13 (mem_nil')) (mem_cons' m132_7 (mem_nil')) (mem_nil') (mem_nil') (mem_nil') (mem_cons' m69_13 (mem_nil')) (mem_nil') (mem_cons' m124_9 (mem_nil')) (mem_cons' m9_0 (mem_nil')) (mem_nil') (mem_cons' m200_0 (mem_nil')) (mem_cons' m204_0 (mem_nil')) (mem_cons' m202_0 (mem_nil')) (mem_nil'))
theorem k200 : ∃ h', CallOk Tryz.prog 3 [(.md [(16,10)]), (.md [(20,0)])] Heap.empty (.ret (.bool true)) h' := top eo40 rfl c200
theorem eo41 : EnvOk Tryz.prog (EnA [] [p123_6,p123_15] [p113_20] [] [p84_2] [p54_6] [p55_5] [p56_5] [p115_3,p115_13] [p132_7] [] [] [] [p69_3,p69_13] [] [p124_9] [p9_0] [] [p200_0] [p204_0] [p202_0] []) := (EnA_ok (mem_nil') (mem_cons' m123_6 (mem_cons' m123_15 (mem_nil'))) (mem_cons' m113_20 (mem_nil')) (mem_nil') (mem_cons' m84_2 (mem_nil')) (mem_cons' m54_6 (mem_nil')) (mem_cons' m55_5 (mem_nil')) (mem_cons' m56_5 (mem_nil')) (mem_cons' m115_3 (mem_cons' m115_13 (mem_nil'))) (mem_cons' m132_7 (mem_nil')) (mem_nil') (mem_nil') (mem_nil') (mem_cons' m69_3 (mem_cons' m69_13 (mem_nil'))) (mem_nil') (mem_cons' m124_9 (mem_nil')) (mem_cons' m9_0 (mem_nil')) (mem_nil') (mem_cons' m200_0 (mem_nil')) (mem_cons' m204_0 (mem_nil')) (mem_cons' m202_0 (mem_nil')) (mem_nil'))
theorem k201 : ∃ h', CallOk Tryz.prog 3 [(.md [(16,10)]), (.md [(20,1)])] Heap.empty (.ret (.bool true)) h' := top eo41 rfl c201
theorem eo42 : EnvOk Tryz.prog (EnA [] [p123_6,p123_1,p123_3,p123_15] [p113_20] [] [p84_2] [p54_1,p54_6] [p55_1,p55_5] [p56_1,p56_5] [p115_3,p115_1,p115_13] [p132_1,p132_7] [] [] [] [p69_3,p69_1,p69_13] [] [p124_1,p124_9] [p9_0] [] [p200_0] [p204_0] [p202_0] []) := (EnA_ok (mem_nil') (mem_cons' m123_6 (mem_cons' m123_1 (mem_cons' m123_3 (mem_cons' m123_15 (mem_nil'))))) (mem_cons' m113_20 (mem_nil')) (mem_nil') (mem_cons' m84_2 (mem_nil')) (mem_cons' m54_1 (mem_cons' m54_6 (mem_nil'))) (mem_cons' m55_1 (mem_cons' m55_5 (mem_nil'))) (mem_cons' m56_1 (mem_cons' m56_5 (mem_nil'))) (mem_cons' m115_3 (mem_cons' m115_1 (mem_cons' m115_13 (mem_nil')))) (mem_cons' m132_1 (mem_cons' m132_7 (mem_nil'))) (mem_nil') (mem_nil') (mem_nil') (mem_cons' m69_3 (mem_cons' m69_1 (mem_cons' m69_13 (mem_nil')))) (mem_nil') (mem_cons' m124_1 (mem_cons' m124_9 (mem_nil'))) (mem_cons' m9_0 (mem_nil')) (mem_nil') (mem_cons' m200_0 (mem_nil')) (mem_cons' m204_0 (mem_nil')) (mem_cons' m202_0 (mem_nil')) (mem_nil'))
theorem k202 : ∃ h', CallOk Tryz.prog 3 [(.md [(16,10)]), (.md [(20,2)])] Heap.empty (.ret (.bool true)) h' := top eo42 rfl c202
theorem eo43 : EnvOk Tryz.prog (EnA [] [p123_6,p123_1,p123_3,p123_15] [p113_20] [] [p84_2] [p54_1,p54_6] [p55_1,p55_5] [p56_1,p56_5] [p115_3,p115_1,p115_13] [p132_1,p132_7] [] [] [] [p69_3,p69_1,p69_4,p69_13] [] [p124_1,p124_9] [p9_0] [] [p200_0] [p204_0] [p202_0] []) := (EnA_ok (mem_nil') (mem_cons' m123_6 (mem_cons' m123_1 (mem_cons' m123_3 (mem_cons' m123_15 (mem_nil'))))) (mem_cons' m113_20 (mem_nil')) (mem_nil') (mem_cons' m84_2 (mem_nil')) (mem_cons' m54_1 (mem_cons' m54_6 (mem_nil'))) (mem_cons' m55_1 (mem_cons' m55_5 (mem_nil'))) (mem_cons' m56_1 (mem_cons' m56_5 (mem_nil'))) (mem_cons' m115_3 (mem_cons' m115_1 (mem_cons' m115_13 (mem_nil')))) (mem_cons' m132_1 (mem_cons' m132_7 (mem_nil'))) (mem_nil') (mem_nil') (mem_nil') (mem_cons' m69_3 (mem_cons' m69_1 (mem_cons' m69_4 (mem_cons' m69_13 (mem_nil'))))) (mem_nil') (mem_cons' m124_1 (mem_cons' m124_9 (mem_nil'))) (mem_cons' m9_0 (mem_nil')) (mem_nil') (mem_cons' m200_0 (mem_nil')) (mem_cons' m204_0 (mem_nil')) (mem_cons' m202_0 (mem_nil')) (mem_nil'))
theorem k203 : ∃ h', CallOk Tryz.prog 3 [(.md [(16,10)]), (.md [(20,3)])] Heap.empty (.ret (.bool true)) h' := top eo43 rfl c203
theorem k204 : ∃ h', CallOk Tryz.prog 3 [(.md [(16,10)]), (.md [(20,4)])] Heap.empty (.ret (.bool true)) h' := top eo43 rfl c204
theorem k205 : ∃ h', CallOk Tryz.prog 3 [(.md [(16,10)]), (.md [(20,5)])] Heap.empty (.ret (.bool true)) h' := top eo43 rfl c205
theorem k206 : ∃ h', CallOk Tryz.prog 3 [(.md [(16,10)]), (.md [(20,6)])] Heap.empty (.ret (.bool true)) h' := top eo43 rfl c206
theorem k207 : ∃ h', CallOk Tryz.prog 3 [(.md [(16,10)]), (.md [(20,7)])] Heap.empty (.ret (.bool true)) h' := top eo43 rfl c207
theorem k208 : ∃ h', CallOk Tryz.prog 3 [(.md [(16,10)]), (.md [(20,8)])] Heap.empty (.ret (.bool true)) h' := top eo43 rfl c208
theorem k209 : ∃ h', CallOk Tryz.prog 3 [(.md [(16,10)]), (.md [(20,9)])] Heap.empty (.ret (.bool true)) h' := top eo43 rfl c209
theorem k210 : ∃ h', CallOk Tryz.prog 3 [(.md [(16,10)]), (.md [(20,10)])] Heap.empty (.ret (.bool true)) h' := top eo43 rfl c210
theorem k211 : ∃ h', CallOk Tryz.prog 3 [(.md [(16,10)]), (.md [(20,11)])] Heap.empty (.ret (.bool true)) h' := top eo43 rfl c211
theorem k212 : ∃ h', CallOk Tryz.prog 3 [(.md [(16,10)]), (.md [(20,12)])] Heap.empty (.ret (.bool true)) h' := top eo43 rfl c212
theorem k213 : ∃ h', CallOk Tryz.prog 3 [(.md [(16,10)]), (.md [(20,13)])] Heap.empty (.ret (.bool true)) h' := top eo43 rfl c213
theorem k214 : ∃ h', CallOk Tryz.prog 3 [(.md [(16,10)]), (.md [(20,14)])] Heap.empty (.ret (.bool true)) h' := top eo43 rfl c214
theorem k215 : ∃ h', CallOk Tryz.prog 3 [(.md [(16,10)]), (.md [(20,15)])] Heap.empty (.ret (.bool true)) h' := top eo43 rfl c215
theorem k216 : ∃ h', CallOk Tryz.prog 3 [(.md [(16,10)]), (.md [(20,16)])] Heap.empty (.ret (.bool true)) h' := top eo43 rfl c216
theorem k217 : ∃ h', CallOk Tryz.prog 3 [(.md [(16,10)]), (.md [(20,17)])] Heap.empty (.ret (.bool true)) h' := top eo43 rfl c217
theorem k218 : ∃ h', CallOk Tryz.prog 3 [(.md [(16,10)]), (.md [(20,18)])] Heap.empty (.ret (.bool true)) h' := top eo43 rfl c218
theorem k219 : ∃ h', CallOk Tryz.prog 3 [(.md [(16,10)]), (.md [(20,19)])] Heap.empty (.ret (.bool true)) h' := top eo43 rfl c219
theorem eo44 : EnvOk Tryz.prog (EnA [] [p123_16] [] [] [] [p54_7] [p55_6] [p56_6] [p115_14] [p132_8,p132_9] [p135_5] [p136_3] [] [p69_14] [p140_2] [p124_10] [p9_0] [] [] [] [] []) := (EnA_ok (mem_nil') (mem_cons' m123_16 (mem_nil')) (mem_nil') (mem_nil') (mem_nil') (mem_cons' m54_7 (mem_nil')) (mem_cons' m55_6 (mem_nil')) (mem_cons' m56_6 (mem_nil')) (mem_cons' m115_14 (mem_nil')) (mem_cons' m132_8 (mem_cons' m132_9 (mem_nil'))) (mem_cons' m135_5 (mem_nil')) (mem_cons' m136_3 (mem_nil')) (mem_nil') (mem_cons' m69_14 (mem_nil')) (mem_cons' m140_2 (mem_nil')) (mem_cons' m124_10 (mem_nil')) (mem_cons' m9_0 (mem_nil')) (mem_nil') (mem_nil') (mem_nil') (mem_nil') (mem_nil'))
theorem k220 : ∃ h', CallOk Tryz.prog 3 [(.md [(16,11)]), (.md [(20,0)])] Heap.empty (.ret (.bool true)) h' := top eo44 rfl c220
theorem eo45 : EnvOk Tryz.prog (EnA [] [p123_6,p123_16] [] [] [] [p54_7] [p55_6] [p56_6] [p115_3,p115_14] [p132_8,p132_9] [p135_5] [p136_3] [] [p69_3,p69_14] [p140_2] [p124_10] [p9_0] [] [] [] [] []) := (EnA_ok (mem_nil') (mem_cons' m123_6 (mem_cons' m123_16 (mem_nil'))) (mem_nil') (mem_nil') (mem_nil') (mem_cons' m54_7 (mem_nil')) (mem_cons' m55_6 (mem_nil')) (mem_cons' m56_6 (mem_nil')) (mem_cons' m115_3 (mem_cons' m115_14 (mem_nil'))) (mem_cons' m132_8 (mem_cons' m132_9 (mem_nil'))) (mem_cons' m135_5 (mem_nil')) (mem_cons' m136_3 (mem_nil')) (mem_nil') (mem_cons' m69_3 (mem_cons' m69_14 (mem_nil'))) (mem_cons' m140_2 (mem_nil')) (mem_cons' m124_10 (mem_nil')) (mem_cons' m9_0 (mem_nil')) (mem_nil') (mem_nil') (mem_nil') (mem_nil') (mem_nil'))
theorem k221 : ∃ h', CallOk Tryz.prog 3 [(.md [(16,11)]), (.md [(20,1)])] Heap.empty (.ret (.bool true)) h' := top eo45 rfl c221
theorem eo46 : EnvOk Tryz.prog (EnA [] [p123_6,p123_1,p123_3,p123_16] [] [] [] [p54_1,p54_7] [p55_1,p55_6] [p56_1,p56_6] [p115_3,p115_1,p115_14] [p132_1,p132_8,p132_9] [p135_5] [p136_3] [] [p69_3,p69_1,p69_14] [p140_2] [p124_1,p124_10] [p9_0] [] [] [] [] []) := (EnA_ok (mem_nil') (mem_cons' m123_6 (mem_cons' m123_1 (mem_cons' m123_3 (mem_cons' m123_16 (mem_nil'))))) (mem_nil') (mem_nil') (mem_nil') (mem_cons' m54_1 (mem_cons' m54_7 (mem_nil'))) (mem_cons' m55_1 (mem_cons' m55_6 (mem_nil'))) (mem_cons' m56_1 (mem_cons' m56_6 (mem_nil'))) (mem_cons' m115_3 (mem_cons' m115_1 (mem_cons' m115_14 (mem_nil')))) (mem_cons' m132_1 (mem_cons' m132_8 (mem_cons' m132_9 (mem_nil')))) (mem_cons' m135_5 (mem_nil')) (mem_cons' m136_3 (mem_nil')) (mem_nil') (mem_cons' m69_3 (mem_cons' m69_1 (mem_cons' m69_14 (mem_nil')))) (mem_cons' m140_2 (mem_nil')) (mem_cons' m124_1 (mem_cons' m124_10 (mem_nil'))) (mem_cons' m9_0 (mem_nil')) (mem_nil') (mem_nil') (mem_nil') (mem_nil') (mem_nil'))
theorem k222 : ∃ h', CallOk Tryz.prog 3 [(.md [(16,11)]), (.md [(20,2)])] Heap.empty (.ret (.bool true)) h' := top eo46 rfl c222
theorem eo47 : EnvOk Tryz.prog (EnA [] [p123_6,p123_1,p123_3,p123_16] [] [] [] [p54_1,p54_7] [p55_1,p55_6] [p56_1,p56_6] [p115_3,p115_1,p115_14] [p132_1,p132_8,p132_9] [p135_5] [p136_3] [] [p69_3,p69_1,p69_4,p69_14] [p140_2] [p124_1,p124_10] [p9_0] [] [] [] [] []) := (EnA_ok (mem_nil') (mem_cons' m123_6 (mem_cons' m123_1 (mem_cons' m123_3 (mem_cons' m123_16 (mem_nil'))))) (mem_nil') (mem_nil') (mem_nil') (mem_cons' m54_1 (mem_cons' m54_7 (mem_nil'))) (mem_cons' m55_1 (mem_cons' m55_6 (mem_nil'))) (mem_cons' m56_1 (mem_cons' m56_6 (mem_nil'))) (mem_cons' m115_3 (mem_cons' m115_1 (mem_cons' m115_14 (mem_nil')))) (mem_cons' m132_1 (mem_cons' m132_8 (mem_cons' m132_9 (mem_nil')))) (mem_cons' m135_5 (mem_nil')) (mem_cons' m136_3 (mem_nil')) (mem_nil') (mem_cons' m69_3 (mem_cons' m69_1 (mem_cons' m69_4 (mem_cons' m69_14 (mem_nil'))))) (mem_cons' m140_2 (mem_nil')) (mem_cons' m124_1 (mem_cons' m124_10 (mem_nil'))) (mem_cons' m9_0 (mem_nil')) (mem_nil') (mem_nil') (mem_nil') (mem_nil') (mem_nil'))
theorem k223 : ∃ h', CallOk Tryz.prog 3 [(.md [(16,11)]), (.md [(20,3)])] Heap.empty (.ret (.bool true)) h' := top eo47 rfl c223
theorem k224 : ∃ h', CallOk Tryz.prog 3 [(.md [(16,11)]), (.md [(20,4)])] Heap.empty (.ret (.bool true)) h' := top eo47 rfl c224
theorem k225 : ∃ h', CallOk Tryz.prog 3 [(.md [(16,11)]), (.md [(20,5)])] Heap.empty (.ret (.bool true)) h' := top eo47 rfl c225
theorem k226 : ∃ h', CallOk Tryz.prog 3 [(.md [(16,11)]), (.md [(20,6)])] Heap.empty (.ret (.bool true)) h' := top eo47 rfl c226
theorem k227 : ∃ h', CallOk Tryz.prog 3 [(.md [(16,11)]), (.md [(20,7)])] Heap.empty (.ret (.bool true)) h' := top eo47 rfl c227
theorem k228 : ∃ h', CallOk Tryz.prog 3 [(.md [(16,11)]), (.md [(20,8)])] Heap.empty (.ret (.bool true)) h' := top eo47 rfl c228
theorem k229 : ∃ h', CallOk Tryz.prog 3 [(.md [(16,11)]), (.md [(20,9)])] Heap.empty (.ret (.bool true)) h' := top eo47 rfl c229
theorem k230 : ∃ h', CallOk Tryz.prog 3 [(.md [(16,11)]), (.md [(20,10)])] Heap.empty (.ret (.bool true)) h' := top eo47 rfl c230
theorem k231 : ∃ h', CallOk Tryz.prog 3 [(.md [(16,11)]), (.md [(20,11)])] Heap.empty (.ret (.bool true)) h' := top eo47 rfl c231
theorem k232 : ∃ h', CallOk Tryz.prog 3 [(.md [(16,11)]), (.md [(20,12)])] Heap.empty (.ret (.bool true)) h' := top eo47 rfl c232
theorem k233 : ∃ h', CallOk Tryz.prog 3 [(.md [(16,11)]), (.md [(20,13)])] Heap.empty (.ret (.bool true)) h' := top eo47 rfl c233
theorem k234 : ∃ h', CallOk Tryz.prog 3 [(.md [(16,11)]), (.md [(20,14)])] Heap.empty (.ret (.bool true)) h' := top eo47 rfl c234
theorem k235 : ∃ h', CallOk Tryz.prog 3 [(.md [(16,11)]), (.md [(20,15)])] Heap.empty (.ret (.bool true)) h' := top eo47 rfl c235
theorem k236 : ∃ h', CallOk Tryz.prog 3 [(.md [(16,11)]), (.md [(20,16)])] Heap.empty (.ret (.bool true)) h' := top eo47 rfl c236
theorem k237 : ∃ h', CallOk Tryz.prog 3 [(.md [(16,11)]), (.md [(20,17)])] Heap.empty (.ret (.bool true)) h' := top eo47 rfl c237
theorem k238 : ∃ h', CallOk Tryz.prog 3 [(.md [(16,11)]), (.md [(20,18)])] Heap.empty (.ret (.bool true)) h' := top eo47 rfl c238
theorem k239 : ∃ h', CallOk Tryz.prog 3 [(.md [(16,11)]), (.md [(20,19)])] Heap.empty (.ret (.bool true)) h' := top eo47 rfl c239
theorem eo48 : EnvOk Tryz.prog (EnA [] [p123_17] [] [] [] [p54_8] [p55_7] [p56_7] [p115_15] [p132_10,p132_11] [p135_6] [p136_4] [] [p69_15] [p140_3] [p124_11] [p9_0] [] [] [] [] []) := (EnA_ok (mem_nil') (mem_cons' m123_17 (mem_nil')) (mem_nil') (mem_nil') (mem_nil') (mem_cons' m54_8 (mem_nil')) (mem_cons' m55_7 (mem_nil')) (mem_cons' m56_7 (mem_nil')) (mem_cons' m115_15 (mem_nil')) (mem_cons' m132_10 (mem_cons' m132_11 (mem_nil'))) (mem_cons' m135_6 (mem_nil')) (mem_cons' m136_4 (mem_nil')) (mem_nil') (mem_cons' m69_15 (mem_nil')) (mem_cons' m140_3 (mem_nil')) (mem_cons' m124_11 (mem_nil')) (mem_cons' m9_0 (mem_nil')) (mem_nil') (mem_nil') (mem_nil') (mem_nil') (mem_nil'))
theorem k240 : ∃ h', CallOk Tryz.prog 3 [(.md [(16,12)]), (.md [(20,0)])] Heap.empty (.ret (.bool true)) h' := top eo48 rfl c240
theorem eo49 : EnvOk Tryz.prog (EnA [] [p123_6,p123_17] [] [] [] [p54_8] [p55_7] [p56_7] [p115_3,p115_15] [p132_10,p132_11] [p135_6] [p136_4] [] [p69_3,p69_15] [p140_3] [p124_11] [p9_0] [] [] [] [] []) := (EnA_ok (mem_nil') (mem_cons' m123_6 (mem_cons' m123_17 (mem_nil'))) (mem_nil') (mem_nil') (mem_nil') (mem_cons' m54_8 (mem_nil')) (mem_cons' m55_7 (mem_nil')) (mem_cons' m56_7 (mem_nil')) (mem_cons' m115_3 (mem_cons' m115_15 (mem_nil'))) (mem_cons' m132_10 (mem_cons' m132_11 (mem_nil'))) (mem_cons' m135_6 (mem_nil')) (mem_cons' m136_4 (mem_nil')) (mem_nil') (mem_cons' m69_3 (mem_cons' m69_15 (mem_nil'))) (mem_cons' m140_3 (mem_nil')) (mem_cons' m124_11 (mem_nil')) (mem_cons' m9_0 (mem_nil')) (mem_nil') (mem_nil') (mem_nil') (mem_nil') (mem_nil'))
theorem k241 : ∃ h', CallOk Tryz.prog 3 [(.md [(16,12)]), (.md [(20,1)])] Heap.empty (.ret (.bool true)) h' := top eo49 rfl c241
theorem eo50 : EnvOk Tryz.prog (EnA [] [p123_6,p123_1,p123_3,p123_17] [] [] [] [p54_1,p54_8] [p55_1,p55_7] [p56_1,p56_7] [p115_3,p115_1,p115_15] [p132_1,p132_10,p132_11] [p135_6] [p136_4] [] [p69_3,p69_1,p69_15] [p140_3] [p124_1,p124_11] [p9_0] [] [] [] [] []) := (EnA_ok (mem_nil') (mem_cons' m123_6 (mem_cons' m123_1 (mem_cons' m123_3 (mem_cons' m123_17 (mem_nil'))))) (mem_nil') (mem_nil') (mem_nil') (mem_cons' m54_1 (mem_cons' m54_8 (mem_nil'))) (mem_cons' m55_1 (mem_cons' m55_7 (mem_nil'))) (mem_cons' m56_1 (mem_cons' m56_7 (mem_nil'))) (mem_cons' m115_3 (mem_cons' m115_1 (mem_cons' m115_15 (mem_nil')))) (mem_cons' m132_1 (mem_cons' m132_10 (mem_cons' m132_11 (mem_nil')))) (mem_cons' m135_6 (mem_nil')) (mem_cons' m136_4 (mem_nil')) (mem_nil') (mem_cons' m69_3 (mem_cons' m69_1 (mem_cons' m69_15 (mem_nil')))) (mem_cons' m140_3 (mem_nil')) (mem_cons' m124_1 (mem_cons' m124_11 (mem_nil'))) (mem_cons' m9_0 (mem_nil')) (mem_nil') (mem_nil') (mem_nil') (mem_nil') (mem_nil'))
theorem k242 : ∃ h', CallOk Tryz.prog 3 [(.md [(16,12)]), (.md [(20,2)])] Heap.empty (.ret (.bool true)) h' := top eo50 rfl c242
theorem eo51 : EnvOk Tryz.prog (EnA [] [p123_6,p123_1,p123_3,p123_17] [] [] [] [p54_1,p54_8] [p55_1,p55_7] [p56_1,p56_7] [p115_3,p115_1,p115_15] [p132_1,p132_10,p132_11] [p135_6] [p136_4] [] [p69_3,p69_1,p69_4,p69_15] [p140_3] [p124_1,p124_11] [p9_0] [] [] [] [] []) := (EnA_ok (mem_nil') (mem_cons' m123_6 (mem_cons' m123_1 (mem_cons' m123_3 (mem_cons' m123_17 (mem_nil'))))) (mem_nil') (mem_nil') (mem_nil') (mem_cons' m54_1 (mem_cons' m54_8 (mem_nil'))) (mem_cons' m55_1 (mem_cons' m55_7 (mem_nil'))) (mem_cons' m56_1 (mem_cons' m56_7 (mem_nil'))) (mem_cons' m115_3 (mem_cons' m115_1 (mem_cons' m115_15 (mem_nil')))) (mem_cons' m132_1 (mem_cons' m132_10 (mem_cons' m132_11 (mem_nil')))) (mem_cons' m135_6 (mem_nil')) (mem_cons' m136_4 (mem_nil')) (mem_nil') (mem_cons' m69_3 (mem_cons' m69_1 (mem_cons' m69_4 (mem_cons' m69_15 (mem_nil'))))) (mem_cons' m140_3 (mem_nil')) (mem_cons' m124_1 (mem_cons' m124_11 (mem_nil'))) (mem_cons' m9_0 (mem_nil')) (mem_nil') (mem_nil') (mem_nil') (mem_nil') (mem_nil'))
theorem k243 : ∃ h', CallOk Tryz.prog 3 [(.md [(16,12)]), (.md [(20,3)])] Heap.empty (.ret (.bool true)) h' := top eo51 rfl c243
theorem k244 : ∃ h', CallOk Tryz.prog 3 [(.md [(16,12)]), (.md [(20,4)])] Heap.empty (.ret (.bool true)) h' := top eo51 rfl c244
theorem k245 : ∃ h', CallOk Tryz.prog 3 [(.md [(16,12)]), (.md [(20,5)])] Heap.empty (.ret (.bool true)) h' := top eo51 rfl c245
theorem k246 : ∃ h', CallOk Tryz.prog 3 [(.md [(16,12)]), (.md [(20,6)])] Heap.empty (.ret (.bool true)) h' := top eo51 rfl c246
theorem k247 : ∃ h', CallOk Tryz.prog 3 [(.md [(16,12)]), (.md [(20,7)])] Heap.empty (.ret (.bool true)) h' := top eo51 rfl c247
theorem k248 : ∃ h', CallOk Tryz.prog 3 [(.md [(16,12)]), (.md [(20,8)])] Heap.empty (.ret (.bool true)) h' := top eo51 rfl c248
theorem k249 : ∃ h', CallOk Tryz.prog 3 [(.md [(16,12)]), (.md [(20,9)])] Heap.empty (.ret (.bool true)) h' := top eo51 rfl c249
theorem k250 : ∃ h', CallOk Tryz.prog 3 [(.md [(16,12)]), (.md [(20,10)])] Heap.empty (.ret (.bool true)) h' := top eo51 rfl c250
theorem k251 : ∃ h', CallOk Tryz.prog 3 [(.md [(16,12)]), (.md [(20,11)])] Heap.empty (.ret (.bool true)) h' := top eo51 rfl c251
theorem k252 : ∃ h', CallOk Tryz.prog 3 [(.md [(16,12)]), (.md [(20,12)])] Heap.empty (.ret (.bool true)) h' := top eo51 rfl c252
theorem k253 : ∃ h', CallOk Tryz.prog 3 [(.md [(16,12)]), (.md [(20,13)])] Heap.empty (.ret (.bool true)) h' := top eo51 rfl c253
theorem k254 : ∃ h', CallOk Tryz.prog 3 [(.md [(16,12)]), (.md [(20,14)])] Heap.empty (.ret (.bool true)) h' := top eo51 rfl c254
theorem k255 : ∃ h', CallOk Tryz.prog 3 [(.md [(16,12)]), (.md [(20,15)])] Heap.empty (.ret (.bool true)) h' := top eo51 rfl c255
theorem k256 : ∃ h', CallOk Tryz.prog 3 [(.md [(16,12)]), (.md [(20,16)])] Heap.empty (.ret (.bool true)) h' := top eo51 rfl c256
theorem k257 : ∃ h', CallOk Tryz.prog 3 [(.md [(16,12)]), (.md [(20,17)])] Heap.empty (.ret (.bool true)) h' := top eo51 rfl c257
theorem k258 : ∃ h', CallOk Tryz.prog 3 [(.md [(16,12)]), (.md [(20,18)])] Heap.empty (.ret (.bool true)) h' := top eo51 rfl c258
theorem k259 : ∃ h', CallOk Tryz.prog 3 [(.md [(16,12)]), (.md [(20,19)])] Heap.empty (.ret (.bool true)) h' := top eo51 rfl c259
theorem eo52 : EnvOk Tryz.prog (EnA [] [p123_18,p123_3] [] [] [] [p54_1,p54_9] [p55_1,p55_8] [p56_1,p56_8] [p115_16] [p132_12] [] [] [] [p69_16] [] [p124_12] [p9_0] [] [] [] [] []) := (EnA_ok (mem_nil') (mem_cons' m123_18 (mem_cons' m123_3 (mem_nil'))) (mem_nil') (mem_nil') (mem_nil') (mem_cons' m54_1 (mem_cons' m54_9 (mem_nil'))) (mem_cons' m55_1 (mem_cons' m55_8 (mem_nil'))) (mem_cons' m56_1 (mem_cons' m56_8 (mem_nil'))) (mem_cons' m115_16 (mem_nil')) (mem_cons' m132_12 (mem_nil')) (mem_nil') (mem_nil') (mem_nil') (mem_cons' m69_16 (mem_nil')) (mem_nil') (mem_cons' m124_12 (mem_nil')) (mem_cons' m9_0 (mem_nil')) (mem_nil') (mem_nil') (mem_nil') (mem_nil') (mem_nil'))
theorem k260 : ∃ h', CallOk Tryz.prog 3 [(.md [(16,13)]), (.md [(20,0)])] Heap.empty (.ret (.bool true)) h' := top eo52 rfl c260
theorem eo53 : EnvOk Tryz.prog (EnA [] [p123_6,p123_18,p123_3] [] [] [] [p54_1,p54_9] [p55_1,p55_8] [p56_1,p56_8] [p115_3,p115_16] [p132_12] [] [] [] [p69_3,p69_16] [] [p124_12] [p9_0] [] [] [] [] []) := (EnA_ok (mem_nil') (mem_cons' m123_6 (mem_cons' m123_18 (mem_cons' m123_3 (mem_nil')))) (mem_nil') (mem_nil') (mem_nil') (mem_cons' m54_1 (mem_cons' m54_9 (mem_nil'))) (mem_cons' m55_1 (mem_cons' m55_8 (mem_nil'))) (mem_cons' m56_1 (mem_cons' m56_8 (mem_nil'))) (mem_cons' m115_3 (mem_cons' m115_16 (mem_nil'))) (mem_cons' m132_12 (mem_nil')) (mem_nil') (mem_nil') (mem_nil') (mem_cons' m69_3 (mem_cons' m69_16 (mem_nil'))) (mem_nil') (mem_cons' m124_12 (mem_nil')) (mem_cons' m9_0 (mem_nil')) (mem_nil') (mem_nil') (mem_nil') (mem_nil') (mem_nil'))
theorem k261 : ∃ h', CallOk Tryz.prog 3 [(.md [(16,13)]), (.md [(20,1)])] Heap.empty (.ret (.bool true)) h' := top eo53 rfl c261
theorem eo54 : EnvOk Tryz.prog (EnA [] [p123_6,p123_1,p123_3,p123_18] [] [] [] [p54_1,p54_9] [p55_1,p55_8] [p56_1,p56_8] [p115_3,p115_1,p115_16] [p132_1,p132_12] [] [] [] [p69_3,p69_1,p69_16] [] [p124_1,p124_12] [p9_0] [] [] [] [] []) := (EnA_ok (mem_nil') (mem_cons' m123_6 (mem_cons' m123_1 (mem_cons' m123_3 (mem_cons' m123_18 (mem_nil'))))) (mem_nil') (mem_nil') (mem_nil') (mem_cons' m54_1 (mem_cons' m54_9 (mem_nil'))) (mem_cons' m55_1 (mem_cons' m55_8 (mem_nil'))) (mem_cons' m56_1 (mem_cons' m56_8 (mem_nil'))) (mem_cons' m115_3 (mem_cons' m115_1 (mem_cons' m115_16 (mem_nil')))) (mem_cons' m132_1 (mem_cons' m132_12 (mem_nil'))) (mem_nil') (mem_nil') (mem_nil') (mem_cons' m69_3 (mem_cons' m69_1 (mem_cons' m69_16 (mem_nil')))) (mem_nil') (mem_cons' m124_1 (mem_cons' m124_12 (mem_nil'))) (mem_cons' m9_0 (mem_nil')) (mem_nil') (mem_nil') (mem_nil') (mem_nil') (mem_nil'))
theorem k262 : ∃ h', CallOk Tryz.prog 3 [(.md [(16,13)]), (.md [(20,2)])] Heap.empty (.ret (.bool true)) h' := top eo54 rfl c262
theorem eo55 : EnvOk Tryz.prog (EnA [] [p123_6,p123_1,p123_3,p123_18] [] [] [] [p54_1,p54_9] [p55_1,p55_8] [p56_1,p56_8] [p115_3,p115_1,p115_16] [p132_1,p132_12] [] [] [] [p69_3,p69_1,p69_4,p69_16] [] [p124_1,p124_12] [p9_0] [] [] [] [] []) := (EnA_ok (mem_nil') (mem_cons' m123_6 (mem_cons' m123_1 (mem_cons' m123_3 (mem_cons' m123_18 (mem_nil'))))) (mem_nil') (mem_nil') (mem_nil') (mem_cons' m54_1 (mem_cons' m54_9 (mem_nil'))) (mem_cons' m55_1 (mem_cons' m55_8 (mem_nil'))) (mem_cons' m56_1 (mem_cons' m56_8 (mem_nil'))) (mem_cons' m115_3 (mem_cons' m115_1 (mem_cons' m115_16 (mem_nil')))) (mem_cons' m132_1 (mem_cons' m132_12 (mem_nil'))) (mem_nil') (mem_nil') (mem_nil') (mem_cons' m69_3 (mem_cons' m69_1 (mem_cons' m69_4 (mem_cons' m69_16 (mem_nil'))))) (mem_nil') (mem_cons' m124_1 (mem_cons' m124_12 (mem_nil'))) (mem_cons' m9_0 (mem_nil')) (mem_nil') (mem_nil') (mem_nil') (mem_nil') (mem_nil'))
theorem k263 : ∃ h', CallOk Tryz.prog 3 [(.md [(16,13)]), (.md [(20,3)])] Heap.empty (.ret (.bool true)) h' := top eo55 rfl c263
theorem k264 : ∃ h', CallOk Tryz.prog 3 [(.md [(16,13)]), (.md [(20,4)])] Heap.empty (.ret (.bool true)) h' := top eo55 rfl c264
theorem k265 : ∃ h', CallOk Tryz.prog 3 [(.md [(16,13)]), (.md [(20,5)])] Heap.empty (.ret (.bool true)) h' := top eo55 rfl c265
theorem k266 : ∃ h', CallOk Tryz.prog 3 [(.md [(16,13)]), (.md [(20,6)])] Heap.empty (.ret (.bool true)) h' := top eo55 rfl c266
theorem k267 : ∃ h', CallOk Tryz.prog 3 [(.md [(16,13)]), (.md [(20,7)])] Heap.empty (.ret (.bool true)) h' := top eo55 rfl c267
theorem k268 : ∃ h', CallOk Tryz.prog 3 [(.md [(16,13)]), (.md [(20,8)])] Heap.empty (.ret (.bool true)) h' := top eo55 rfl c268
theorem k269 : ∃ h', CallOk Tryz.prog 3 [(.md [(16,13)]), (.md [(20,9)])] Heap.empty (.ret (.bool true)) h' := top eo55 rfl c269
theorem k270 : ∃ h', CallOk Tryz.prog 3 [(.md [(16,13)]), (.md [(20,10)])] Heap.empty (.ret (.bool true)) h' := top eo55 rfl c270
theorem k271 : ∃ h', CallOk Tryz.prog 3 [(.md [(16,13)]), (.md [(20,11)])] Heap.empty (.ret (.bool true)) h' := top eo55 rfl c271
theorem k272 : ∃ h', CallOk Tryz.prog 3 [(.md [(16,13)]), (.md [(20,12)])] Heap.empty (.ret (.bool true)) h' := top eo55 rfl c272
theorem k273 : ∃ h', CallOk Tryz.prog 3 [(.md [(16,13)]), (.md [(20,13)])] Heap.empty (.ret (.bool true)) h' := top eo55 rfl c273
theorem k274 : ∃ h', CallOk Tryz.prog 3 [(.md [(16,13)]), (.md [(20,14)])] Heap.empty (.ret (.bool true)) h' := top eo55 rfl c274
theorem k275 : ∃ h', CallOk Tryz.prog 3 [(.md [(16,13)]), (.md [(20,15)])] Heap.empty (.ret (.bool true)) h' := top eo55 rfl c275
theorem k276 : ∃ h', CallOk Tryz.prog 3 [(.md [(16,13)]), (.md [(20,16)])] Heap.empty (.ret (.bool true)) h' := top eo55 rfl c276
theorem k277 : ∃ h', CallOk Tryz.prog 3 [(.md [(16,13)]), (.md [(20,17)])] Heap.empty (.ret (.bool true)) h' := top eo55 rfl c277
theorem k278 : ∃ h', CallOk Tryz.prog 3 [(.md [(16,13)]), (.md [(20,18)])] Heap.empty (.ret (.bool true)) h' := top eo55 rfl c278
theorem k279 : ∃ h', CallOk Tryz.prog 3 [(.md [(16,13)]), (.md [(20,19)])] Heap.empty (.ret (.bool true)) h' := top eo55 rfl c279
theorem eo56 : EnvOk Tryz.prog (EnA [] [p123_19,p123_3] [] [] [] [p54_1,p54_10] [p55_1,p55_9] [p56_1,p56_9] [p115_17] [p132_13] [] [] [] [p69_17] [] [p124_13] [p9_0] [p302_0] [] [] [] []) := (EnA_ok (mem_nil') (mem_cons' m123_19 (mem_cons' m123_3 (mem_nil'))) (mem_nil') (mem_nil') (mem_nil') (mem_cons' m54_1 (mem_cons' m54_10 (mem_nil'))) (mem_cons' m55_1 (mem_cons' m55_9 (mem_nil'))) (mem_cons' m56_1 (mem_cons' m56_9 (mem_nil'))) (mem_cons' m115_17 (mem_nil')) (mem_cons' m132_13 (mem_nil')) (mem_nil') (mem_nil') (mem_nil') (mem_cons' m69_17 (mem_nil')) (mem_nil') (mem_cons' m124_13 (mem_nil')) (mem_cons' m9_0 (mem_nil')) (mem_cons' m302_0 (mem_nil')) (mem_nil') (mem_nil') (mem_nil') (mem_nil'))
theorem k280 : ∃ h', CallOk Tryz.prog 3 [(.md [(16,14)]), (.md [(20,0)])] Heap.empty (.ret (.bool true)) h' := top eo56 rfl c280
theorem eo57 : EnvOk Tryz.prog (EnA [] [p123_6,p123_19,p123_3] [] [] [] [p54_1,p54_10] [p55_1,p55_9] [p56_1,p56_9] [p115_3,p115_17] [p132_13] [] [] [] [p69_3,p69_17] [] [p124_13] [p9_0] [p302_0] [] [] [] []) := (EnA_ok (mem_nil') (mem_cons' m123_6 (mem_cons' m123_19 (mem_cons' m123_3 (mem_nil')))) (mem_nil') (mem_nil') (mem_nil') (mem_cons' m54_1 (mem_cons' m54_10 (mem_nil'))) (mem_cons' m55_1 (mem_cons' m55_9 (mem_nil'))) (mem_cons' m56_1 (mem_cons' m56_9 (mem_nil'))) (mem_cons' m115_3 (mem_cons' m115_17 (mem_nil'))) (mem_cons' m132_13 (mem_nil')) (mem_nil') (mem_nil') (mem_nil') (mem_cons' m69_3 (mem_cons' m69_17 (mem_nil'))) (mem_nil') (mem_cons' m124_13 (mem_nil')) (mem_cons' m9_0 (mem_nil')) (mem_cons' m302_0 (mem_nil')) (mem_nil') (mem_nil') (mem_nil') (mem_nil'))
theorem k281 : ∃ h', CallOk Tryz.prog 3 [(.md [(16,14)]), (.md [(20,1)])] Heap.empty (.ret (.bool true)) h' := top eo57 rfl c281
theorem eo58 : EnvOk Tryz.prog (EnA [] [p123_6,p123_1,p123_3,p123_19] [] [] [] [p54_1,p54_10] [p55_1,p55_9] [p56_1,p56_9] [p115_3,p115_1,p115_17] [p132_1,p132_13] [] [] [] [p69_3,p69_1,p69_17] [] [p124_1,p124_13] [p9_0] [p302_0] [] [] [] []) := (EnA_ok (mem_nil') (mem_cons' m123_6 (mem_cons' m123_1 (mem_cons' m123_3 (mem_cons' m123_19 (mem_nil'))))) (mem_nil') (mem_nil') (mem_nil') (mem_cons' m54_1 (mem_cons' m54_10 (mem_nil'))) (mem_cons' m55_1 (mem_cons' m55_9 (mem_nil'))) (mem_cons' m56_1 (mem_cons' m56_9 (mem_nil'))) (mem_cons' m115_3 (mem_cons' m115_1 (mem_cons' m115_17 (mem_nil')))) (mem_cons' m132_1 (mem_cons' m132_13 (mem_nil'))) (mem_nil') (mem_nil') (mem_nil') (mem_cons' m69_3 (mem_cons' m69_1 (mem_cons' m69_17 (mem_nil')))) (mem_nil') (mem_cons' m124_1 (mem_cons' m124_13 (mem_nil'))) (mem_cons' m9_0 (mem_nil')) (mem_cons' m302_0 (mem_nil')) (mem_nil') (mem_nil') (mem_nil') (mem_nil'))
theorem k282 : ∃ h', CallOk Tryz.prog 3 [(.md [(16,14)]), (.md [(20,2)])] Heap.empty (.ret (.bool true)) h' := top eo58 rfl c282
theorem eo59 : EnvOk Tryz.prog (EnA [] [p123_6,p123_1,p123_3,p123_19] [] [] [] [p54_1,p54_10] [p55_1,p55_9] [p56_1,p56_9] [p115_3,p115_1,p115_17] [p132_1,p132_13] [] [] [] [p69_3,p69_1,p69_4,p69_17] [] [p124_1,p124_13] [p9_0] [p302_0] [] [] [] []) := (EnA_ok (mem_nil') (mem_cons' m123_6 (mem_cons' m123_1 (mem_cons' m123_3 (mem_cons' m123_19 (mem_nil'))))) (mem_nil') (mem_nil') (mem_nil') (mem_cons' m54_1 (mem_cons' m54_10 (mem_nil'))) (mem_cons' m55_1 (mem_cons' m55_9 (mem_nil'))) (mem_cons' m56_1 (mem_cons' m56_9 (mem_nil'))) (mem_cons' m115_3 (mem_cons' m115_1 (mem_cons' m115_17 (mem_nil')))) (mem_cons' m132_1 (mem_cons' m132_13 (mem_nil'))) (mem_nil') (mem_nil') (mem_nil') (mem_cons' m69_3 (mem_cons' m69_1 (mem_cons' m69_4 (mem_cons' m69_17 (mem_nil'))))) (mem_nil') (mem_cons' m124_1 (mem_cons' m124_13 (mem_nil'))) (mem_cons' m9_0 (mem_nil')) (mem_cons' m302_0 (mem_nil')) (mem_nil') (mem_nil') (mem_nil') (mem_nil'))
theorem k283 : ∃ h', CallOk Tryz.prog 3 [(.md [(16,14)]), (.md [(20,3)])] Heap.empty (.ret (.bool true)) h' := top eo59 rfl c283
theorem k284 : ∃ h', CallOk Tryz.prog 3 [(.md [(16,14)]), (.md [(20,4)])] Heap.empty (.ret (.bool true)) h' := top eo59 rfl c284
theorem k285 : ∃ h', CallOk Tryz.prog 3 [(.md [(16,14)]), (.md [(20,5)])] Heap.empty (.ret (.bool true)) h' := top eo59 rfl c285
theorem k286 : ∃ h', CallOk Tryz.prog 3 [(.md [(16,14)]), (.md [(20,6)])] Heap.empty (.ret (.bool true)) h' := top eo59 rfl c286
theorem k287 : ∃ h', CallOk Tryz.prog 3 [(.md [(16,14)]), (.md [(20,7)])] Heap.empty (.ret (.bool true)) h' := top eo59 rfl c287
theorem k288 : ∃ h', CallOk Tryz.prog 3 [(.md [(16,14)]), (.md [(20,8)])] Heap.empty (.ret (.bool true)) h' := top eo59 rfl c288
theorem k289 : ∃ h', CallOk Tryz.prog 3 [(.md [(16,14)]), (.md [(20,9)])] Heap.empty (.ret (.bool true)) h' := top eo59 rfl c289
theorem k290 : ∃ h', CallOk Tryz.prog 3 [(.md [(16,14)]), (.md [(20,10)])] Heap.empty (.ret (.bool true)) h' := top eo59 rfl c290
theorem k291 : ∃ h', CallOk Tryz.prog 3 [(.md [(16,14)]), (.md [(20,11)])] Heap.empty (.ret (.bool true)) h' := top eo59 rfl c291
theorem k292 : ∃ h', CallOk Tryz.prog 3 [(.md [(16,14)]), (.md [(20,12)])] Heap.empty (.ret (.bool true)) h' := top eo59 rfl c292
theorem k293 : ∃ h', CallOk Tryz.prog 3 [(.md [(16,14)]), (.md [(20,13)])] Heap.empty (.ret (.bool true)) h' := top eo59 rfl c293
theorem k294 : ∃ h', CallOk Tryz.prog 3 [(.md [(16,14)]), (.md [(20,14)])] Heap.empty (.ret (.bool true)) h' := top eo59 rfl c294
theorem k295 : ∃ h', CallOk Tryz.prog 3 [(.md [(16,14)]), (.md [(20,15)])] Heap.empty (.ret (.bool true)) h' := top eo59 rfl c295
theorem k296 : ∃ h', CallOk Tryz.prog 3 [(.md [(16,14)]), (.md [(20,16)])] Heap.empty (.ret (.bool true)) h' := top eo59 rfl c296
theorem k297 : ∃ h', CallOk Tryz.prog 3 [(.md [(16,14)]), (.md [(20,17)])] Heap.empty (.ret (.bool true)) h' := top eo59 rfl c297
theorem k298 : ∃ h', CallOk Tryz.prog 3 [(.md [(16,14)]), (.md [(20,18)])] Heap.empty (.ret (.bool true)) h' := top eo59 rfl c298
theorem k299 : ∃ h', CallOk Tryz.prog 3 [(.md [(16,14)]), (.md [(20,19)])] Heap.empty (.ret (.bool true)) h' := top eo59 rfl c299
theorem eo60 : EnvOk Tryz.prog (EnA [] [p123_21,p123_3] [] [] [] [p54_1,p54_11] [p55_1] [p56_1] [p115_18] [p132_14] [] [] [] [p69_18] [] [p124_14] [p9_0] [] [] [] [] []) := (EnA_ok (mem_nil') (mem_cons' m123_21 (mem_cons' m123_3 (mem_nil'))) (mem_nil') (mem_nil') (mem_nil') (mem_cons' m54_1 (mem_cons' m54_11 (mem_nil'))) (mem_cons' m55_1 (mem_nil')) (mem_cons' m56_1 (mem_nil')) (mem_cons' m115_18 (mem_nil')) (mem_cons' m132_14 (mem_nil')) (mem_nil') (mem_nil') (mem_nil') (mem_cons' m69_18 (mem_nil')) (mem_nil') (mem_cons' m124_14 (mem_nil')) (mem_cons' m9_0 (mem_nil')) (mem_nil') (mem_nil') (mem_nil') (mem_nil') (mem_nil'))
theorem k300 : ∃ h', CallOk Tryz.prog 3 [(.md [(16,15)]), (.md [(20,0)])] Heap.empty (.ret (.bool true)) h' := top eo60 rfl c300
theorem eo61 : EnvOk Tryz.prog (EnA [] [p123_6,p123_21,p123_3] [] [] [] [p54_1,p54_11] [p55_1] [p56_1] [p115_3,p115_18] [p132_14] [] [] [] [p69_3,p69_18] [] [p124_14] [p9_0] [] [] [] [] []) := (EnA_ok (mem_nil') (mem_cons' m123_6 (mem_cons' m123_21 (mem_cons' m123_3 (mem_nil')))) (mem_nil') (mem_nil') (mem_nil') (mem_cons' m54_1 (mem_cons' m54_11 (mem_nil'))) (mem_cons' m55_1 (mem_nil')) (mem_cons' m56_1 (mem_nil')) (mem_cons' m115_3 (mem_cons' m115_18 (mem_nil'))) (mem_cons' m132_14 (mem_nil')) (mem_nil') (mem_nil') (mem_nil') (mem_cons' m69_3 (mem_cons' m69_18 (mem_nil'))) (mem_nil') (mem_cons' m124_14 (mem_nil')) (mem_cons' m9_0 (mem_nil')) (mem_nil') (mem_nil') (mem_nil') (mem_nil') (mem_nil'))
theorem k301 : ∃ h', CallOk Tryz.prog 3 [(.md [(16,15)]), (.md [(20,1)])] Heap.empty (.ret (.bool true)) h' := top eo61 rfl c301
theorem eo62 : EnvOk Tryz.prog (EnA [] [p123_6,p123_1,p123_3,p123_21] [] [] [] [p54_1,p54_11] [p55_1] [p56_1] [p115_3,p115_1,p115_18] [p132_1,p132_14] [] [] [] [p69_3,p69_1,p69_18] [] [p124_1,p124_14] [p9_0] [] [] [] [] []) := (EnA_ok (mem_nil') (mem_cons' m123_6 (mem_cons' m123_1 (mem_cons' m123_3 (mem_cons' m123_21 (mem_nil'))))) (mem_nil') (mem_nil') (mem_nil') (mem_cons' m54_1 (mem_cons' m54_11 (mem_nil'))) (mem_cons' m55_1 (mem_nil')) (mem_cons' m56_1 (mem_nil')) (mem_cons' m115_3 (mem_cons' m115_1 (mem_cons' m115_18 (mem_nil')))) (mem_cons' m132_1 (mem_cons' m132_14 (mem_nil'))) (mem_nil') (mem_nil') (mem_nil') (mem_cons' m69_3 (mem_cons' m69_1 (mem_cons' m69_18 (mem_nil')))) (mem_nil') (mem_cons' m124_1 (mem_cons' m124_14 (mem_nil'))) (mem_cons' m9_0 (mem_nil')) (mem_nil') (mem_nil') (mem_nil') (mem_nil') (mem_nil'))
theorem k302 : ∃ h', CallOk Tryz.prog 3 [(.md [(16,15)]), (.md [(20,2)])] Heap.empty (.ret (.bool true)) h' := top eo62 rfl c302
theorem eo63 : EnvOk Tryz.prog (EnA [] [p123_6,p123_1,p123_3,p123_21] [] [] [] [p54_1,p54_11] [p55_1] [p56_1] [p115_3,p115_1,p115_18] [p132_1,p132_14] [] [] [] [p69_3,p69_1,p69_4,p69_18] [] [p124_1,p124_14] [p9_0] [] [] [] [] []) := (EnA_ok (mem_nil') (mem_cons' m123_6 (mem_cons' m123_1 (mem_cons' m123_3 (mem_cons' m123_21 (mem_nil'))))) (mem_nil') (mem_nil') (mem_nil') (mem_cons' m54_1 (mem_cons' m54_11 (mem_nil'))) (mem_cons' m55_1 (mem_nil')) (mem_cons' m56_1 (mem_nil')) (mem_cons' m115_3 (mem_cons' m115_1 (mem_cons' m115_18 (mem_nil')))) (mem_cons' m132_1 (mem_cons' m132_14 (mem_nil'))) (mem_nil') (mem_nil') (mem_nil') (mem_cons' m69_3 (mem_cons' m69_1 (mem_cons' m69_4 (mem_cons' m69_18 (mem_nil'))))) (mem_nil') (mem_cons' m124_1 (mem_cons' m124_14 (mem_nil'))) (mem_cons' m9_0 (mem_nil')) (mem_nil') (mem_nil') (mem_nil') (mem_nil') (mem_nil'))
theorem k303 : ∃ h', CallOk Tryz.prog 3 [(.md [(16,15)]), (.md [(20,3)])] Heap.empty (.ret (.bool true)) h' := top eo63 rfl c303
theorem k304 : ∃ h', CallOk Tryz.prog 3 [(.md [(16,15)]), (.md [(20,4)])] Heap.empty (.ret (.bool true)) h' := top eo63 rfl c304
theorem k305 : ∃ h', CallOk Tryz.prog 3 [(.md [(16,15)]), (.md [(20,5)])] Heap.empty (.ret (.bool true)) h' := top eo63 rfl c305
theorem k306 : ∃ h', CallOk Tryz.prog 3 [(.md [(16,15)]), (.md [(20,6)])] Heap.empty (.ret (.bool true)) h' := top eo63 rfl c306
theorem k307 : ∃ h', CallOk Tryz.prog 3 [(.md [(16,15)]), (.md [(20,7)])] Heap.empty (.ret (.bool true)) h' := top eo63 rfl c307
theorem k308 : ∃ h', CallOk Tryz.prog 3 [(.md [(16,15)]), (.md [(20,8)])] Heap.empty (.ret (.bool true)) h' := top eo63 rfl c308
theorem k309 : ∃ h', CallOk Tryz.prog 3 [(.md [(16,15)]), (.md [(20,9)])] Heap.empty (.ret (.bool true)) h' := top eo63 rfl c309
theorem k310 : ∃ h', CallOk Tryz.prog 3 [(.md [(16,15)]), (.md [(20,10)])] Heap.empty (.ret (.bool true)) h' := top eo63 rfl c310
theorem k311 : ∃ h', CallOk Tryz.prog 3 [(.md [(16,15)]), (.md [(20,11)])] Heap.empty (.ret (.bool true)) h' := top eo63 rfl c311
theorem k312 : ∃ h', CallOk Tryz.prog 3 [(.md [(16,15)]), (.md [(20,12)])] Heap.empty (.ret (.bool true)) h' := top eo63 rfl c312
theorem k313 : ∃ h', CallOk Tryz.prog 3 [(.md [(16,15)]), (.md [(20,13)])] Heap.empty (.ret (.bool true)) h' := top eo63 rfl c313
theorem k314 : ∃ h', CallOk Tryz.prog 3 [(.md [(16,15)]), (.md [(20,14)])] Heap.empty (.ret (.bool true)) h' := top eo63 rfl c314
theorem k315 : ∃ h', CallOk Tryz.prog 3 [(.md [(16,15)]), (.md [(20,15)])] Heap.empty (.ret (.bool true)) h' := top eo63 rfl c315
theorem k316 : ∃ h', CallOk Tryz.prog 3 [(.md [(16,15)]), (.md [(20,16)])] Heap.empty (.ret (.bool true)) h' := top eo63 rfl c316
theorem k317 : ∃ h', CallOk Tryz.prog 3 [(.md [(16,15)]), (.md [(20,17)])] Heap.empty (.ret (.bool true)) h' := top eo63 rfl c317
theorem k318 : ∃ h', CallOk Tryz.prog 3 [(.md [(16,15)]), (.md [(20,18)])] Heap.empty (.ret (.bool true)) h' := top eo63 rfl c318
theorem k319 : ∃ h', CallOk Tryz.prog 3 [(.md [(16,15)]), (.md [(20,19)])] Heap.empty (.ret (.bool true)) h' := top eo63 rfl c319
abbrev Ans (a : Int) (b : Int) : Prop := ∃ h', CallOk Tryz.prog 3 [.int .i64 a, .int .i64 b] Heap.empty (.ret (.bool true)) h'
theorem a0 (a b : Int) (ek : placeF a 16 = .ofNat 0) (j : Nat) (hj : j < 20) (ej : placeF b 20 = .ofNat j) : Ans a b := by
  match j, hj, ej with
  | 0, _, ej => exact k0.imp fun _ h => md_args h (md_one ek) (md_one ej)
  | 1, _, ej => exact k1.imp fun _ h => md_args h (md_one ek) (md_one ej)
  | 2, _, ej => exact k2.imp fun _ h => md_args h (md_one ek) (md_one ej)
  | 3, _, ej => exact k3.imp fun _ h => md_args h (md_one ek) (md_one ej)
  | 4, _, ej => exact k4.imp fun _ h => md_args h (md_one ek) (md_one ej)
  | 5, _, ej => exact k5.imp fun _ h => md_args h (md_one ek) (md_one ej)
  | 6, _, ej => exact k6.imp fun _ h => md_args h (md_one ek) (md_one ej)
  | 7, _, ej => exact k7.imp fun _ h => md_args h (md_one ek) (md_one ej)
  | 8, _, ej => exact k8.imp fun _ h => md_args h (md_one ek) (md_one ej)
  | 9, _, ej => exact k9.imp fun _ h => md_args h (md_one ek) (md_one ej)
  | 10, _, ej => exact k10.imp fun _ h => md_args h (md_one ek) (md_one ej)
  | 11, _, ej => exact k11.imp fun _ h => md_args h (md_one ek) (md_one ej)
  | 12, _, ej => exact k12.imp fun _ h => md_args h (md_one ek) (md_one ej)
  | 13, _, ej => exact k13.imp fun _ h => md_args h (md_one ek) (md_one ej)
  | 14, _, ej => exact k14.imp fun _ h => md_args h (md_one ek) (md_one ej)
  | 15, _, ej => exact k15.imp fun _ h => md_args h (md_one ek) (md_one ej)
  | 16, _, ej => exact k16.imp fun _ h => md_args h (md_one ek) (md_one ej)
  | 17, _, ej => exact k17.imp fun _ h => md_args h (md_one ek) (md_one ej)
  | 18, _, ej => exact k18.imp fun _ h => md_args h (md_one ek) (md_one ej)
  | 19, _, ej => exact k19.imp fun _ h => md_args h (md_one ek) (md_one ej)
  | (n + 20), h, _ => exact absurd h (by omega)
theorem a1 (a b : Int) (ek : placeF a 16 = .ofNat 1) (j : Nat) (hj : j < 20) (ej : placeF b 20 = .ofNat j) : Ans a b := by
  match j, hj, ej with
  | 0, _, ej => exact k20.imp fun _ h => md_args h (md_one ek) (md_one ej)
  | 1, _, ej => exact k21.imp fun _ h => md_args h (md_one ek) (md_one ej)
  | 2, _, ej => exact k22.imp fun _ h => md_args h (md_one ek) (md_one ej)
  | 3, _, ej => exact k23.imp fun _ h => md_args h (md_one ek) (md_one ej)
  | 4, _, ej => exact k24.imp fun _ h => md_args h (md_one ek) (md_one ej)
  | 5, _, ej => exact k25.imp fun _ h => md_args h (md_one ek) (md_one ej)
  | 6, _, ej => exact k26.imp fun _ h => md_args h (md_one ek) (md_one ej)
  | 7, _, ej => exact k27.imp fun _ h => md_args h (md_one ek) (md_one ej)
  | 8, _, ej => exact k28.imp fun _ h => md_args h (md_one ek) (md_one ej)
  | 9, _, ej => exact k29.imp fun _ h => md_args h (md_one ek) (md_one ej)
  | 10, _, ej => exact k30.imp fun _ h => md_args h (md_one ek) (md_one ej)
  | 11, _, ej => exact k31.imp fun _ h => md_args h (md_one ek) (md_one ej)
  | 12, _, ej => exact k32.imp fun _ h => md_args h (md_one ek) (md_one ej)
  | 13, _, ej => exact k33.imp fun _ h => md_args h (md_one ek) (md_one ej)
  | 14, _, ej => exact k34.imp fun _ h => md_args h (md_one ek) (md_one ej)
  | 15, _, ej => exact k35.imp fun _ h => md_args h (md_one ek) (md_one ej)
  | 16, _, ej => exact k36.imp fun _ h => md_args h (md_one ek) (md_one ej)
  | 17, _, ej => exact k37.imp fun _ h => md_args h (md_one ek) (md_one ej)
  | 18, _, ej => exact k38.imp fun _ h => md_args h (md_one ek) (md_one ej)
  | 19, _, ej => exact k39.imp fun _ h => md_args h (md_one ek) (md_one ej)
  | (n + 20), h, _ => exact absurd h (by omega)
theorem a2 (a b : Int) (ek : placeF a 16 = .ofNat 2) (j : Nat) (hj : j < 20) (ej : placeF b 20 = .ofNat j) : Ans a b := by
  match j, hj, ej with
  | 0, _, ej => exact k40.imp fun _ h => md_args h (md_one ek) (md_one ej)
  | 1, _, ej => exact k41.imp fun _ h => md_args h (md_one ek) (md_one ej)
  | 2, _, ej => exact k42.imp fun _ h => md_args h (md_one ek) (md_one ej)
  | 3, _, ej => exact k43.imp fun _ h => md_args h (md_one ek) (md_one ej)
  | 4, _, ej => exact k44.imp fun _ h => md_args h (md_one ek) (md_one ej)
  | 5, _, ej => exact k45.imp fun _ h => md_args h (md_one ek) (md_one ej)
  | 6, _, ej => exact k46.imp fun _ h => md_args h (md_one ek) (md_one ej)
  | 7, _, ej => exact k47.imp fun _ h => md_args h (md_one ek) (md_one ej)
  | 8, _, ej => exact k48.imp fun _ h => md_args h (md_one ek) (md_one ej)
  | 9, _, ej => exact k49.imp fun _ h => md_args h (md_one ek) (md_one ej)
  | 10, _, ej => exact k50.imp fun _ h => md_args h (md_one ek) (md_one ej)
  | 11, _, ej => exact k51.imp fun _ h => md_args h (md_one ek) (md_one ej)
  | 12, _, ej => exact k52.imp fun _ h => md_args h (md_one ek) (md_one ej)
  | 13, _, ej => exact k53.imp fun _ h => md_args h (md_one ek) (md_one ej)
  | 14, _, ej => exact k54.imp fun _ h => md_args h (md_one ek) (md_one ej)
  | 15, _, ej => exact k55.imp fun _ h => md_args h (md_one ek) (md_one ej)
  | 16, _, ej => exact k56.imp fun _ h => md_args h (md_one ek) (md_one ej)
  | 17, _, ej => exact k57.imp fun _ h => md_args h (md_one ek) (md_one ej)
  | 18, _, ej => exact k58.imp fun _ h => md_args h (md_one ek) (md_one ej)
  | 19, _, ej => exact k59.imp fun _ h => md_args h (md_one ek) (md_one ej)
  | (n + 20), h, _ => exact absurd h (by omega)
theorem a3 (a b : Int) (ek : placeF a 16 = .ofNat 3) (j : Nat) (hj : j < 20) (ej : placeF b 20 = .ofNat j) : Ans a b := by
  match j, hj, ej with
  | 0, _, ej => exact k60.imp fun _ h => md_args h (md_one ek) (md_one ej)
  | 1, _, ej => exact k61.imp fun _ h => md_args h (md_one ek) (md_one ej)
  | 2, _, ej => exact k62.imp fun _ h => md_args h (md_one ek) (md_one ej)
  | 3, _, ej => exact k63.imp fun _ h => md_args h (md_one ek) (md_one ej)
  | 4, _, ej => exact k64.imp fun _ h => md_args h (md_one ek) (md_one ej)
  | 5, _, ej => exact k65.imp fun _ h => md_args h (md_one ek) (md_one ej)
  | 6, _, ej => exact k66.imp fun _ h => md_args h (md_one ek) (md_one ej)
  | 7, _, ej => exact k67.imp fun _ h => md_args h (md_one ek) (md_one ej)
  | 8, _, ej => exact k68.imp fun _ h => md_args h (md_one ek) (md_one ej)
  | 9, _, ej => exact k69.imp fun _ h => md_args h (md_one ek) (md_one ej)
  | 10, _, ej => exact k70.imp fun _ h => md_args h (md_one ek) (md_one ej)
  | 11, _, ej => exact k71.imp fun _ h => md_args h (md_one ek) (md_one ej)
  | 12, _, ej => exact k72.imp fun _ h => md_args h (md_one ek) (md_one ej)
  | 13, _, ej => exact k73.imp fun _ h => md_args h (md_one ek) (md_one ej)
  | 14, _, ej => exact k74.imp fun _ h => md_args h (md_one ek) (md_one ej)
  | 15, _, ej => exact k75.imp fun _ h => md_args h (md_one ek) (md_one ej)
  | 16, _, ej => exact k76.imp fun _ h => md_args h (md_one ek) (md_one ej)
  | 17, _, ej => exact k77.imp fun _ h => md_args h (md_one ek) (md_one ej)
  | 18, _, ej => exact k78.imp fun _ h => md_args h (md_one ek) (md_one ej)
  | 19, _, ej => exact k79.imp fun _ h => md_args h (md_one ek) (md_one ej)
  | (n + 20), h, _ => exact absurd h (by omega)
theorem a4 (a b : Int) (ek : placeF a 16 = .ofNat 4) (j : Nat) (hj : j < 20) (ej : placeF b 20 = .ofNat j) : Ans a b := by
  match j, hj, ej with
  | 0, _, ej => exact k80.imp fun _ h => md_args h (md_one ek) (md_one ej)
  | 1, _, ej => exact k81.imp fun _ h => md_args h (md_one ek) (md_one ej)
  | 2, _, ej => exact k82.imp fun _ h => md_args h (md_one ek) (md_one ej)
  | 3, _, ej => exact k83.imp fun _ h => md_args h (md_one ek) (md_one ej)
  | 4, _, ej => exact k84.imp fun _ h => md_args h (md_one ek) (md_one ej)
  | 5, _, ej => exact k85.imp fun _ h => md_args h (md_one ek) (md_one ej)
  | 6, _, ej => exact k86.imp fun _ h => md_args h (md_one ek) (md_one ej)
  | 7, _, ej => exact k87.imp fun _ h => md_args h (md_one ek) (md_one ej)
  | 8, _, ej => exact k88.imp fun _ h => md_args h (md_one ek) (md_one ej)
  | 9, _, ej => exact k89.imp fun _ h => md_args h (md_one ek) (md_one ej)
  | 10, _, ej => exact k90.imp fun _ h => md_args h (md_one ek) (md_one ej)
  | 11, _, ej => exact k91.imp fun _ h => md_args h (md_one ek) (md_one ej)
  | 12, _, ej => exact k92.imp fun _ h => md_args h (md_one ek) (md_one ej)
  | 13, _, ej => exact k93.imp fun _ h => md_args h (md_one ek) (md_one ej)
  | 14, _, ej => exact k94.imp fun _ h => md_args h (md_one ek) (md_one ej)
  | 15, _, ej => exact k95.imp fun _ h => md_args h (md_one ek) (md_one ej)
  | 16, _, ej => exact k96.imp fun _ h => md_args h (md_one ek) (md_one ej)
  | 17, _, ej => exact k97.imp fun _ h => md_args h (md_one ek) (md_one ej)
  | 18, _, ej => exact k98.imp fun _ h => md_args h (md_one ek) (md_one ej)
  | 19, _, ej => exact k99.imp fun _ h => md_args h (md_one ek) (md_one ej)
  | (n + 20), h, _ => exact absurd h (by omega)
theorem a5 (a b : Int) (ek : placeF a 16 = .ofNat 5) (j : Nat) (hj : j < 20) (ej : placeF b 20 = .ofNat j) : Ans a b := by
  match j, hj, ej with
  | 0, _, ej => exact k100.imp fun _ h => md_args h (md_one ek) (md_one ej)
  | 1, _, ej => exact k101.imp fun _ h => md_args h (md_one ek) (md_one ej)
  | 2, _, ej => exact k102.imp fun _ h => md_args h (md_one ek) (md_one ej)
  | 3, _, ej => exact k103.imp fun _ h => md_args h (md_one ek) (md_one ej)
  | 4, _, ej => exact k104.imp fun _ h => md_args h (md_one ek) (md_one ej)
  | 5, _, ej => exact k105.imp fun _ h => md_args h (md_one ek) (md_one ej)
  | 6, _, ej => exact k106.imp fun _ h => md_args h (md_one ek) (md_one ej)
  | 7, _, ej => exact k107.imp fun _ h => md_args h (md_one ek) (md_one ej)
  | 8, _, ej => exact k108.imp fun _ h => md_args h (md_one ek) (md_one ej)
  | 9, _, ej => exact k109.imp fun _ h => md_args h (md_one ek) (md_one ej)
  | 10, _, ej => exact k110.imp fun _ h => md_args h (md_one ek) (md_one ej)
  | 11, _, ej => exact k111.imp fun _ h => md_args h (md_one ek) (md_one ej)
  | 12, _, ej => exact k112.imp fun _ h => md_args h (md_one ek) (md_one ej)
  | 13, _, ej => exact k113.imp fun _ h => md_args h (md_one ek) (md_one ej)
  | 14, _, ej => exact k114.imp fun _ h => md_args h (md_one ek) (md_one ej)
  | 15, _, ej => exact k115.imp fun _ h => md_args h (md_one ek) (md_one ej)
  | 16, _, ej => exact k116.imp fun _ h => md_args h (md_one ek) (md_one ej)
  | 17, _, ej => exact k117.imp fun _ h => md_args h (md_one ek) (md_one ej)
  | 18, _, ej => exact k118.imp fun _ h => md_args h (md_one ek) (md_one ej)
  | 19, _, ej => exact k119.imp fun _ h => md_args h (md_one ek) (md_one ej)
  | (n + 20), h, _ => exact absurd h (by omega)
theorem a6 (a b : Int) (ek : placeF a 16 = .ofNat 6) (j : Nat) (hj : j < 20) (ej : placeF b 20 = .ofNat j) : Ans a b := by
  match j, hj, ej with
  | 0, _, ej => exact k120.imp fun _ h => md_args h (md_one ek) (md_one ej)
  | 1, _, ej => exact k121.imp fun _ h => md_args h (md_one ek) (md_one ej)
  | 2, _, ej => exact k122.imp fun _ h => md_args h (md_one ek) (md_one ej)
  | 3, _, ej => exact k123.imp fun _ h => md_args h (md_one ek) (md_one ej)
  | 4, _, ej => exact k124.imp fun _ h => md_args h (md_one ek) (md_one ej)
  | 5, _, ej => exact k125.imp fun _ h => md_args h (md_one ek) (md_one ej)
  | 6, _, ej => exact k126.imp fun _ h => md_args h (md_one ek) (md_one ej)
  | 7, _, ej => exact k127.imp fun _ h => md_args h (md_one ek) (md_one ej)
  | 8, _, ej => exact k128.imp fun _ h => md_args h (md_one ek) (md_one ej)
  | 9, _, ej => exact k129.imp fun _ h => md_args h (md_one ek) (md_one ej)
  | 10, _, ej => exact k130.imp fun _ h => md_args h (md_one ek) (md_one ej)
  | 11, _, ej => exact k131.imp fun _ h => md_args h (md_one ek) (md_one ej)
  | 12, _, ej => exact k132.imp fun _ h => md_args h (md_one ek) (md_one ej)
  | 13, _, ej => exact k133.imp fun _ h => md_args h (md_one ek) (md_one ej)
  | 14, _, ej => exact k134.imp fun _ h => md_args h (md_one ek) (md_one ej)
  | 15, _, ej => exact k135.imp fun _ h => md_args h (md_one ek) (md_one ej)
  | 16, _, ej => exact k136.imp fun _ h => md_args h (md_one ek) (md_one ej)
  | 17, _, ej => exact k137.imp fun _ h => md_args h (md_one ek) (md_one ej)
  | 18, _, ej => exact k138.imp fun _ h => md_args h (md_one ek) (md_one ej)
  | 19, _, ej => exact k139.imp fun _ h => md_args h (md_one ek) (md_one ej)
  | (n + 20), h, _ => exact absurd h (by omega)
theorem a7 (a b : Int) (ek : placeF a 16 = .ofNat 7) (j : Nat) (hj : j < 20) (ej : placeF b 20 = .ofNat j) : Ans a b := by
  match j, hj, ej with
  | 0, _, ej => exact k140.imp fun _ h => md_args h (md_one ek) (md_one ej)
  | 1, _, ej => exact k141.imp fun _ h => md_args h (md_one ek) (md_one ej)
  | 2, _, ej => exact k142.imp fun _ h => md_args h (md_one ek) (md_one ej)
  | 3, _, ej => exact k143.imp fun _ h => md_args h (md_one ek) (md_one ej)
  | 4, _, ej => exact k144.imp fun _ h => md_args h (md_one ek) (md_one ej)
  | 5, _, ej => exact k145.imp fun _ h => md_args h (md_one ek) (md_one ej)
  | 6, _, ej => exact k146.imp fun _ h => md_args h (md_one ek) (md_one ej)
  | 7, _, ej => exact k147.imp fun _ h => md_args h (md_one ek) (md_one ej)
  | 8, _, ej => exact k148.imp fun _ h => md_args h (md_one ek) (md_one ej)
  | 9, _, ej => exact k149.imp fun _ h => md_args h (md_one ek) (md_one ej)
  | 10, _, ej => exact k150.imp fun _ h => md_args h (md_one ek) (md_one ej)
  | 11, _, ej => exact k151.imp fun _ h => md_args h (md_one ek) (md_one ej)
  | 12, _, ej => exact k152.imp fun _ h => md_args h (md_one ek) (md_one ej)
  | 13, _, ej => exact k153.imp fun _ h => md_args h (md_one ek) (md_one ej)
  | 14, _, ej => exact k154.imp fun _ h => md_args h (md_one ek) (md_one ej)
  | 15, _, ej => exact k155.imp fun _ h => md_args h (md_one ek) (md_one ej)
  | 16, _, ej => exact k156.imp fun _ h => md_args h (md_one ek) (md_one ej)
  | 17, _, ej => exact k157.imp fun _ h => md_args h (md_one ek) (md_one ej)
  | 18, _, ej => exact k158.imp fun _ h => md_args h (md_one ek) (md_one ej)
  | 19, _, ej => exact k159.imp fun _ h => md_args h (md_one ek) (md_one ej)
  | (n + 20), h, _ => exact absurd h (by omega)
theorem a8 (a b : Int) (ek : placeF a 16 = .ofNat 8) (j : Nat) (hj : j < 20) (ej : placeF b 20 = .ofNat j) : Ans a b := by
  match j, hj, ej with
  | 0, _, ej => exact k160.imp fun _ h => md_args h (md_one ek) (md_one ej)
  | 1, _, ej => exact k161.imp fun _ h => md_args h (md_one ek) (md_one ej)
  | 2, _, ej => exact k162.imp fun _ h => md_args h (md_one ek) (md_one ej)
  | 3, _, ej => exact k163.imp fun _ h => md_args h (md_one ek) (md_one ej)
  | 4, _, ej => exact k164.imp fun _ h => md_args h (md_one ek) (md_one ej)
  | 5, _, ej => exact k165.imp fun _ h => md_args h (md_one ek) (md_one ej)
  | 6, _, ej => exact k166.imp fun _ h => md_args h (md_one ek) (md_one ej)
  | 7, _, ej => exact k167.imp fun _ h => md_args h (md_one ek) (md_one ej)
  | 8, _, ej => exact k168.imp fun _ h => md_args h (md_one ek) (md_one ej)
  | 9, _, ej => exact k169.imp fun _ h => md_args h (md_one ek) (md_one ej)
  | 10, _, ej => exact k170.imp fun _ h => md_args h (md_one ek) (md_one ej)
  | 11, _, ej => exact k171.imp fun _ h => md_args h (md_one ek) (md_one ej)
  | 12, _, ej => exact k172.imp fun _ h => md_args h (md_one ek) (md_one ej)
  | 13, _, ej => exact k173.imp fun _ h => md_args h (md_one ek) (md_one ej)
  | 14, _, ej => exact k174.imp fun _ h => md_args h (md_one ek) (md_one ej)
  | 15, _, ej => exact k175.imp fun _ h => md_args h (md_one ek) (md_one ej)
  | 16, _, ej => exact k176.imp fun _ h => md_args h (md_one ek) (md_one ej)
  | 17, _, ej => exact k177.imp fun _ h => md_args h (md_one ek) (md_one ej)
  | 18, _, ej => exact k178.imp fun _ h => md_args h (md_one ek) (md_one ej)
  | 19, _, ej => exact k179.imp fun _ h => md_args h (md_one ek) (md_one ej)
  | (n + 20), h, _ => exact absurd h (by omega)
theorem a9 (a b : Int) (ek : placeF a 16 = .ofNat 9) (j : Nat) (hj : j < 20) (ej : placeF b 20 = .ofNat j) : Ans a b := by
  match j, hj, ej with
  | 0, _, ej => exact k180.imp fun _ h => md_args h (md_one ek) (md_one ej)
  | 1, _, ej => exact k181.imp fun _ h => md_args h (md_one ek) (md_one ej)
  | 2, _, ej => exact k182.imp fun _ h => md_args h (md_one ek) (md_one ej)
  | 3, _, ej => exact k183.imp fun _ h => md_args h (md_one ek) (md_one ej)
  | 4, _, ej => exact k184.imp fun _ h => md_args h (md_one ek) (md_one ej)
  | 5, _, ej => exact k185.imp fun _ h => md_args h (md_one ek) (md_one ej)
  | 6, _, ej => exact k186.imp fun _ h => md_args h (md_one ek) (md_one ej)
  | 7, _, ej => exact k187.imp fun _ h => md_args h (md_one ek) (md_one ej)
  | 8, _, ej => exact k188.imp fun _ h => md_args h (md_one ek) (md_one ej)
  | 9, _, ej => exact k189.imp fun _ h => md_args h (md_one ek) (md_one ej)
  | 10, _, ej => exact k190.imp fun _ h => md_args h (md_one ek) (md_one ej)
  | 11, _, ej => exact k191.imp fun _ h => md_args h (md_one ek) (md_one ej)
  | 12, _, ej => exact k192.imp fun _ h => md_args h (md_one ek) (md_one ej)
  | 13, _, ej => exact k193.imp fun _ h => md_args h (md_one ek) (md_one ej)
  | 14, _, ej => exact k194.imp fun _ h => md_args h (md_one ek) (md_one ej)
  | 15, _, ej => exact k195.imp fun _ h => md_args h (md_one ek) (md_one ej)
  | 16, _, ej => exact k196.imp fun _ h => md_args h (md_one ek) (md_one ej)
  | 17, _, ej => exact k197.imp fun _ h => md_args h (md_one ek) (md_one ej)
  | 18, _, ej => exact k198.imp fun _ h => md_args h (md_one ek) (md_one ej)
  | 19, _, ej => exact k199.imp fun _ h => md_args h (md_one ek) (md_one ej)
  | (n + 20), h, _ => exact absurd h (by omega)
theorem a10 (a b : Int) (ek : placeF a 16 = .ofNat 10) (j : Nat) (hj : j < 20) (ej : placeF b 20 = .ofNat j) : Ans a b := by
  match j, hj, ej with
  | 0, _, ej => exact k200.imp fun _ h => md_args h (md_one ek) (md_one ej)
  | 1, _, ej => exact k201.imp fun _ h => md_args h (md_one ek) (md_one ej)
  | 2, _, ej => exact k202.imp fun _ h => md_args h (md_one ek) (md_one ej)
  | 3, _, ej => exact k203.imp fun _ h => md_args h (md_one ek) (md_one ej)
  | 4, _, ej => exact k204.imp fun _ h => md_args h (md_one ek) (md_one ej)
  | 5, _, ej => exact k205.imp fun _ h => md_args h (md_one ek) (md_one ej)
  | 6, _, ej => exact k206.imp fun _ h => md_args h (md_one ek) (md_one ej)
  | 7, _, ej => exact k207.imp fun _ h => md_args h (md_one ek) (md_one ej)
  | 8, _, ej => exact k208.imp fun _ h => md_args h (md_one ek) (md_one ej)
  | 9, _, ej => exact k209.imp fun _ h => md_args h (md_one ek) (md_one ej)
  | 10, _, ej => exact k210.imp fun _ h => md_args h (md_one ek) (md_one ej)
  | 11, _, ej => exact k211.imp fun _ h => md_args h (md_one ek) (md_one ej)
  | 12, _, ej => exact k212.imp fun _ h => md_args h (md_one ek) (md_one ej)
  | 13, _, ej => exact k213.imp fun _ h => md_args h (md_one ek) (md_one ej)
  | 14, _, ej => exact k214.imp fun _ h => md_args h (md_one ek) (md_one ej)
  | 15, _, ej => exact k215.imp fun _ h => md_args h (md_one ek) (md_one ej)
  | 16, _, ej => exact k216.imp fun _ h => md_args h (md_one ek) (md_one ej)
  | 17, _, ej => exact k217.imp fun _ h => md_args h (md_one ek) (md_one ej)
  | 18, _, ej => exact k218.imp fun _ h => md_args h (md_one ek) (md_one ej)
  | 19, _, ej => exact k219.imp fun _ h => md_args h (md_one ek) (md_one ej)
  | (n + 20), h, _ => exact absurd h (by omega)
theorem a11 (a b : Int) (ek : placeF a 16 = .ofNat 11) (j : Nat) (hj : j < 20) (ej : placeF b 20 = .ofNat j) : Ans a b := by
  match j, hj, ej with
  | 0, _, ej => exact k220.imp fun _ h => md_args h (md_one ek) (md_one ej)
  | 1, _, ej => exact k221.imp fun _ h => md_args h (md_one ek) (md_one ej)
  | 2, _, ej => exact k222.imp fun _ h => md_args h (md_one ek) (md_one ej)
  | 3, _, ej => exact k223.imp fun _ h => md_args h (md_one ek) (md_one ej)
  | 4, _, ej => exact k224.imp fun _ h => md_args h (md_one ek) (md_one ej)
  | 5, _, ej => exact k225.imp fun _ h => md_args h (md_one ek) (md_one ej)
  | 6, _, ej => exact k226.imp fun _ h => md_args h (md_one ek) (md_one ej)
  | 7, _, ej => exact k227.imp fun _ h => md_args h (md_one ek) (md_one ej)
  | 8, _, ej => exact k228.imp fun _ h => md_args h (md_one ek) (md_one ej)
  | 9, _, ej => exact k229.imp fun _ h => md_args h (md_one ek) (md_one ej)
  | 10, _, ej => exact k230.imp fun _ h => md_args h (md_one ek) (md_one ej)
  | 11, _, ej => exact k231.imp fun _ h => md_args h (md_one ek) (md_one ej)
  | 12, _, ej => exact k232.imp fun _ h => md_args h (md_one ek) (md_one ej)
  | 13, _, ej => exact k233.imp fun _ h => md_args h (md_one ek) (md_one ej)
  | 14, _, ej => exact k234.imp fun _ h => md_args h (md_one ek) (md_one ej)
  | 15, _, ej => exact k235.imp fun _ h => md_args h (md_one ek) (md_one ej)
  | 16, _, ej => exact k236.imp fun _ h => md_args h (md_one ek) (md_one ej)
  | 17, _, ej => exact k237.imp fun _ h => md_args h (md_one ek) (md_one ej)
  | 18, _, ej => exact k238.imp fun _ h => md_args h (md_one ek) (md_one ej)
  | 19, _, ej => exact k239.imp fun _ h => md_args h (md_one ek) (md_one ej)
  | (n + 20), h, _ => exact absurd h (by omega)
theorem a12 (a b : Int) (ek : placeF a 16 = .ofNat 12) (j : Nat) (hj : j < 20) (ej : placeF b 20 = .ofNat j) : Ans a b := by
  match j, hj, ej with
  | 0, _, ej => exact k240.imp fun _ h => md_args h (md_one ek) (md_one ej)
  | 1, _, ej => exact k241.imp fun _ h => md_args h (md_one ek) (md_one ej)
  | 2, _, ej => exact k242.imp fun _ h => md_args h (md_one ek) (md_one ej)
  | 3, _, ej => exact k243.imp fun _ h => md_args h (md_one ek) (md_one ej)
  | 4, _, ej => exact k244.imp fun _ h => md_args h (md_one ek) (md_one ej)
  | 5, _, ej => exact k245.imp fun _ h => md_args h (md_one ek) (md_one ej)
  | 6, _, ej => exact k246.imp fun _ h => md_args h (md_one ek) (md_one ej)
  | 7, _, ej => exact k247.imp fun _ h => md_args h (md_one ek) (md_one ej)
  | 8, _, ej => exact k248.imp fun _ h => md_args h (md_one ek) (md_one ej)
  | 9, _, ej => exact k249.imp fun _ h => md_args h (md_one ek) (md_one ej)
  | 10, _, ej => exact k250.imp fun _ h => md_args h (md_one ek) (md_one ej)
  | 11, _, ej => exact k251.imp fun _ h => md_args h (md_one ek) (md_one ej)
  | 12, _, ej => exact k252.imp fun _ h => md_args h (md_one ek) (md_one ej)
  | 13, _, ej => exact k253.imp fun _ h => md_args h (md_one ek) (md_one ej)
  | 14, _, ej => exact k254.imp fun _ h => md_args h (md_one ek) (md_one ej)
  | 15, _, ej => exact k255.imp fun _ h => md_args h (md_one ek) (md_one ej)
  | 16, _, ej => exact k256.imp fun _ h => md_args h (md_one ek) (md_one ej)
  | 17, _, ej => exact k257.imp fun _ h => md_args h (md_one ek) (md_one ej)
  | 18, _, ej => exact k258.imp fun _ h => md_args h (md_one ek) (md_one ej)
  | 19, _, ej => exact k259.imp fun _ h => md_args h (md_one ek) (md_one ej)
  | (n + 20), h, _ => exact absurd h (by omega)
theorem a13 (a b : Int) (ek : placeF a 16 = .ofNat 13) (j : Nat) (hj : j < 20) (ej : placeF b 20 = .ofNat j) : Ans a b := by
  match j, hj, ej with
  | 0, _, ej => exact k260.imp fun _ h => md_args h (md_one ek) (md_one ej)
  | 1, _, ej => exact k261.imp fun _ h => md_args h (md_one ek) (md_one ej)
  | 2, _, ej => exact k262.imp fun _ h => md_args h (md_one ek) (md_one ej)
  | 3, _, ej => exact k263.imp fun _ h => md_args h (md_one ek) (md_one ej)
  | 4, _, ej => exact k264.imp fun _ h => md_args h (md_one ek) (md_one ej)
  | 5, _, ej => exact k265.imp fun _ h => md_args h (md_one ek) (md_one ej)
  | 6, _, ej => exact k266.imp fun _ h => md_args h (md_one ek) (md_one ej)
  | 7, _, ej => exact k267.imp fun _ h => md_args h (md_one ek) (md_one ej)
  | 8, _, ej => exact k268.imp fun _ h => md_args h (md_one ek) (md_one ej)
  | 9, _, ej => exact k269.imp fun _ h => md_args h (md_one ek) (md_one ej)
  | 10, _, ej => exact k270.imp fun _ h => md_args h (md_one ek) (md_one ej)
  | 11, _, ej => exact k271.imp fun _ h => md_args h (md_one ek) (md_one ej)
  | 12, _, ej => exact k272.imp fun _ h => md_args h (md_one ek) (md_one ej)
  | 13, _, ej => exact k273.imp fun _ h => md_args h (md_one ek) (md_one ej)
  | 14, _, ej => exact k274.imp fun _ h => md_args h (md_one ek) (md_one ej)
  | 15, _, ej => exact k275.imp fun _ h => md_args h (md_one ek) (md_one ej)
  | 16, _, ej => exact k276.imp fun _ h => md_args h (md_one ek) (md_one ej)
  | 17, _, ej => exact k277.imp fun _ h => md_args h (md_one ek) (md_one ej)
  | 18, _, ej => exact k278.imp fun _ h => md_args h (md_one ek) (md_one ej)
  | 19, _, ej => exact k279.imp fun _ h => md_args h (md_one ek) (md_one ej)
  | (n + 20), h, _ => exact absurd h (by omega)
theorem a14 (a b : Int) (ek : placeF a 16 = .ofNat 14) (j : Nat) (hj : j < 20) (ej : placeF b 20 = .ofNat j) : Ans a b := by
  match j, hj, ej with
  | 0, _, ej => exact k280.imp fun _ h => md_args h (md_one ek) (md_one ej)
  | 1, _, ej => exact k281.imp fun _ h => md_args h (md_one ek) (md_one ej)
  | 2, _, ej => exact k282.imp fun _ h => md_args h (md_one ek) (md_one ej)
  | 3, _, ej => exact k283.imp fun _ h => md_args h (md_one ek) (md_one ej)
  | 4, _, ej => exact k284.imp fun _ h => md_args h (md_one ek) (md_one ej)
  | 5, _, ej => exact k285.imp fun _ h => md_args h (md_one ek) (md_one ej)
  | 6, _, ej => exact k286.imp fun _ h => md_args h (md_one ek) (md_one ej)
  | 7, _, ej => exact k287.imp fun _ h => md_args h (md_one ek) (md_one ej)
  | 8, _, ej => exact k288.imp fun _ h => md_args h (md_one ek) (md_one ej)
  | 9, _, ej => exact k289.imp fun _ h => md_args h (md_one ek) (md_one ej)
  | 10, _, ej => exact k290.imp fun _ h => md_args h (md_one ek) (md_one ej)
  | 11, _, ej => exact k291.imp fun _ h => md_args h (md_one ek) (md_one ej)
  | 12, _, ej => exact k292.imp fun _ h => md_args h (md_one ek) (md_one ej)
  | 13, _, ej => exact k293.imp fun _ h => md_args h (md_one ek) (md_one ej)
  | 14, _, ej => exact k294.imp fun _ h => md_args h (md_one ek) (md_one ej)
  | 15, _, ej => exact k295.imp fun _ h => md_args h (md_one ek) (md_one ej)
  | 16, _, ej => exact k296.imp fun _ h => md_args h (md_one ek) (md_one ej)
  | 17, _, ej => exact k297.imp fun _ h => md_args h (md_one ek) (md_one ej)
  | 18, _, ej => exact k298.imp fun _ h => md_args h (md_one ek) (md_one ej)
  | 19, _, ej => exact k299.imp fun _ h => md_args h (md_one ek) (md_one ej)
  | (n + 20), h, _ => exact absurd h (by omega)
theorem a15 (a b : Int) (ek : placeF a 16 = .ofNat 15) (j : Nat) (hj : j < 20) (ej : placeF b 20 = .ofNat j) : Ans a b := by
  match j, hj, ej with
  | 0, _, ej => exact k300.imp fun _ h => md_args h (md_one ek) (md_one ej)
  | 1, _, ej => exact k301.imp fun _ h => md_args h (md_one ek) (md_one ej)
  | 2, _, ej => exact k302.imp fun _ h => md_args h (md_one ek) (md_one ej)
  | 3, _, ej => exact k303.imp fun _ h => md_args h (md_one ek) (md_one ej)
  | 4, _, ej => exact k304.imp fun _ h => md_args h (md_one ek) (md_one ej)
  | 5, _, ej => exact k305.imp fun _ h => md_args h (md_one ek) (md_one ej)
  | 6, _, ej => exact k306.imp fun _ h => md_args h (md_one ek) (md_one ej)
  | 7, _, ej => exact k307.imp fun _ h => md_args h (md_one ek) (md_one ej)
  | 8, _, ej => exact k308.imp fun _ h => md_args h (md_one ek) (md_one ej)
  | 9, _, ej => exact k309.imp fun _ h => md_args h (md_one ek) (md_one ej)
  | 10, _, ej => exact k310.imp fun _ h => md_args h (md_one ek) (md_one ej)
  | 11, _, ej => exact k311.imp fun _ h => md_args h (md_one ek) (md_one ej)
  | 12, _, ej => exact k312.imp fun _ h => md_args h (md_one ek) (md_one ej)
  | 13, _, ej => exact k313.imp fun _ h => md_args h (md_one ek) (md_one ej)
  | 14, _, ej => exact k314.imp fun _ h => md_args h (md_one ek) (md_one ej)
  | 15, _, ej => exact k315.imp fun _ h => md_args h (md_one ek) (md_one ej)
  | 16, _, ej => exact k316.imp fun _ h => md_args h (md_one ek) (md_one ej)
  | 17, _, ej => exact k317.imp fun _ h => md_args h (md_one ek) (md_one ej)
  | 18, _, ej => exact k318.imp fun _ h => md_args h (md_one ek) (md_one ej)
  | 19, _, ej => exact k319.imp fun _ h => md_args h (md_one ek) (md_one ej)
  | (n + 20), h, _ => exact absurd h (by omega)
theorem law (a : Int) (b : Int) : Ans a b := by
  obtain ⟨k, hk, ek⟩ := placeF_lt a 16 (by decide)
  obtain ⟨j, hj, ej⟩ := placeF_lt b 20 (by decide)
  match k, hk, ek with
  | 0, _, ek => exact a0 a b ek j hj ej
  | 1, _, ek => exact a1 a b ek j hj ej
  | 2, _, ek => exact a2 a b ek j hj ej
  | 3, _, ek => exact a3 a b ek j hj ej
  | 4, _, ek => exact a4 a b ek j hj ej
  | 5, _, ek => exact a5 a b ek j hj ej
  | 6, _, ek => exact a6 a b ek j hj ej
  | 7, _, ek => exact a7 a b ek j hj ej
  | 8, _, ek => exact a8 a b ek j hj ej
  | 9, _, ek => exact a9 a b ek j hj ej
  | 10, _, ek => exact a10 a b ek j hj ej
  | 11, _, ek => exact a11 a b ek j hj ej
  | 12, _, ek => exact a12 a b ek j hj ej
  | 13, _, ek => exact a13 a b ek j hj ej
  | 14, _, ek => exact a14 a b ek j hj ej
  | 15, _, ek => exact a15 a b ek j hj ej
  | (n + 16), h, _ => exact absurd h (by omega)
end Go.Am
