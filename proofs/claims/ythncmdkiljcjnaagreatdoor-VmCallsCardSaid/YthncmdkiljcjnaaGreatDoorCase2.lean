import Derived.Test.YthncmdkiljcjnaaGreatDoorCodeT
import Derived.KernelRfl
set_option linter.all false
set_option maxRecDepth 100000
namespace Go.Am
open Go
theorem c3_2_0 : isT (R3 2 0) = true := by kernel_rfl
theorem c3_2_1 : isT (R3 2 1) = true := by kernel_rfl
theorem c3_2_2 : isT (R3 2 2) = true := by kernel_rfl
theorem c3_2_3 : isT (R3 2 3) = true := by kernel_rfl
theorem c3_2_4 : isT (R3 2 4) = true := by kernel_rfl
theorem c3_2_5 : isT (R3 2 5) = true := by kernel_rfl
theorem c3_2_6 : isT (R3 2 6) = true := by kernel_rfl
theorem c3_2_7 : isT (R3 2 7) = true := by kernel_rfl
theorem c3_2_8 : isT (R3 2 8) = true := by kernel_rfl
theorem c3_2_9 : isT (R3 2 9) = true := by kernel_rfl
theorem c3_2_10 : isT (R3 2 10) = true := by kernel_rfl
theorem c3_2_11 : isT (R3 2 11) = true := by kernel_rfl
theorem c3_2_12 : isT (R3 2 12) = true := by kernel_rfl
theorem c3_2_13 : isT (R3 2 13) = true := by kernel_rfl
theorem c3_2 (j : Nat) (hj : j < 14) : isT (R3 2 j) = true := by
  match j, hj with
  | 0, _ => exact c3_2_0
  | 1, _ => exact c3_2_1
  | 2, _ => exact c3_2_2
  | 3, _ => exact c3_2_3
  | 4, _ => exact c3_2_4
  | 5, _ => exact c3_2_5
  | 6, _ => exact c3_2_6
  | 7, _ => exact c3_2_7
  | 8, _ => exact c3_2_8
  | 9, _ => exact c3_2_9
  | 10, _ => exact c3_2_10
  | 11, _ => exact c3_2_11
  | 12, _ => exact c3_2_12
  | 13, _ => exact c3_2_13
  | (n + 14), h => exact absurd h (by omega)
end Go.Am
