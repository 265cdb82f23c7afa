import Derived.Test.YthncmdkiljcjnaaGreatDoorCodeT
import Derived.KernelRfl
set_option linter.all false
set_option maxRecDepth 100000
namespace Go.Am
open Go
theorem c3_3_0 : isT (R3 3 0) = true := by kernel_rfl
theorem c3_3_1 : isT (R3 3 1) = true := by kernel_rfl
theorem c3_3_2 : isT (R3 3 2) = true := by kernel_rfl
theorem c3_3_3 : isT (R3 3 3) = true := by kernel_rfl
theorem c3_3_4 : isT (R3 3 4) = true := by kernel_rfl
theorem c3_3_5 : isT (R3 3 5) = true := by kernel_rfl
theorem c3_3_6 : isT (R3 3 6) = true := by kernel_rfl
theorem c3_3_7 : isT (R3 3 7) = true := by kernel_rfl
theorem c3_3_8 : isT (R3 3 8) = true := by kernel_rfl
theorem c3_3_9 : isT (R3 3 9) = true := by kernel_rfl
theorem c3_3_10 : isT (R3 3 10) = true := by kernel_rfl
theorem c3_3_11 : isT (R3 3 11) = true := by kernel_rfl
theorem c3_3_12 : isT (R3 3 12) = true := by kernel_rfl
theorem c3_3_13 : isT (R3 3 13) = true := by kernel_rfl
theorem c3_3 (j : Nat) (hj : j < 14) : isT (R3 3 j) = true := by
  match j, hj with
  | 0, _ => exact c3_3_0
  | 1, _ => exact c3_3_1
  | 2, _ => exact c3_3_2
  | 3, _ => exact c3_3_3
  | 4, _ => exact c3_3_4
  | 5, _ => exact c3_3_5
  | 6, _ => exact c3_3_6
  | 7, _ => exact c3_3_7
  | 8, _ => exact c3_3_8
  | 9, _ => exact c3_3_9
  | 10, _ => exact c3_3_10
  | 11, _ => exact c3_3_11
  | 12, _ => exact c3_3_12
  | 13, _ => exact c3_3_13
  | (n + 14), h => exact absurd h (by omega)
end Go.Am
