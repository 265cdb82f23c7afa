import Derived.Test.YthncmdkiljcjnaaGreatDoorCodeT
import Derived.KernelRfl
set_option linter.all false
set_option maxRecDepth 100000
namespace Go.Am
open Go
theorem c3_1_0 : isT (R3 1 0) = true := by kernel_rfl
theorem c3_1_1 : isT (R3 1 1) = true := by kernel_rfl
theorem c3_1_2 : isT (R3 1 2) = true := by kernel_rfl
theorem c3_1_3 : isT (R3 1 3) = true := by kernel_rfl
theorem c3_1_4 : isT (R3 1 4) = true := by kernel_rfl
theorem c3_1_5 : isT (R3 1 5) = true := by kernel_rfl
theorem c3_1_6 : isT (R3 1 6) = true := by kernel_rfl
theorem c3_1_7 : isT (R3 1 7) = true := by kernel_rfl
theorem c3_1_8 : isT (R3 1 8) = true := by kernel_rfl
theorem c3_1_9 : isT (R3 1 9) = true := by kernel_rfl
theorem c3_1_10 : isT (R3 1 10) = true := by kernel_rfl
theorem c3_1_11 : isT (R3 1 11) = true := by kernel_rfl
theorem c3_1_12 : isT (R3 1 12) = true := by kernel_rfl
theorem c3_1_13 : isT (R3 1 13) = true := by kernel_rfl
theorem c3_1 (j : Nat) (hj : j < 14) : isT (R3 1 j) = true := by
  match j, hj with
  | 0, _ => exact c3_1_0
  | 1, _ => exact c3_1_1
  | 2, _ => exact c3_1_2
  | 3, _ => exact c3_1_3
  | 4, _ => exact c3_1_4
  | 5, _ => exact c3_1_5
  | 6, _ => exact c3_1_6
  | 7, _ => exact c3_1_7
  | 8, _ => exact c3_1_8
  | 9, _ => exact c3_1_9
  | 10, _ => exact c3_1_10
  | 11, _ => exact c3_1_11
  | 12, _ => exact c3_1_12
  | 13, _ => exact c3_1_13
  | (n + 14), h => exact absurd h (by omega)
end Go.Am
