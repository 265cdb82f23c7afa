import Derived.Test.YthncmdkiljcjnaaGreatDoorCodeT
import Derived.KernelRfl
set_option linter.all false
set_option maxRecDepth 100000
namespace Go.Am
open Go
theorem c3_9_0 : isT (R3 9 0) = true := by kernel_rfl
theorem c3_9_1 : isT (R3 9 1) = true := by kernel_rfl
theorem c3_9_2 : isT (R3 9 2) = true := by kernel_rfl
theorem c3_9_3 : isT (R3 9 3) = true := by kernel_rfl
theorem c3_9_4 : isT (R3 9 4) = true := by kernel_rfl
theorem c3_9_5 : isT (R3 9 5) = true := by kernel_rfl
theorem c3_9_6 : isT (R3 9 6) = true := by kernel_rfl
theorem c3_9_7 : isT (R3 9 7) = true := by kernel_rfl
theorem c3_9_8 : isT (R3 9 8) = true := by kernel_rfl
theorem c3_9_9 : isT (R3 9 9) = true := by kernel_rfl
theorem c3_9_10 : isT (R3 9 10) = true := by kernel_rfl
theorem c3_9_11 : isT (R3 9 11) = true := by kernel_rfl
theorem c3_9_12 : isT (R3 9 12) = true := by kernel_rfl
theorem c3_9_13 : isT (R3 9 13) = true := by kernel_rfl
theorem c3_9 (j : Nat) (hj : j < 14) : isT (R3 9 j) = true := by
  match j, hj with
  | 0, _ => exact c3_9_0
  | 1, _ => exact c3_9_1
  | 2, _ => exact c3_9_2
  | 3, _ => exact c3_9_3
  | 4, _ => exact c3_9_4
  | 5, _ => exact c3_9_5
  | 6, _ => exact c3_9_6
  | 7, _ => exact c3_9_7
  | 8, _ => exact c3_9_8
  | 9, _ => exact c3_9_9
  | 10, _ => exact c3_9_10
  | 11, _ => exact c3_9_11
  | 12, _ => exact c3_9_12
  | 13, _ => exact c3_9_13
  | (n + 14), h => exact absurd h (by omega)
end Go.Am
