import Derived.Test.YthncmdkiljcjnaaGreatDoorCodeT
import Derived.KernelRfl
set_option linter.all false
set_option maxRecDepth 100000
namespace Go.Am
open Go
theorem c3_10_0 : isT (R3 10 0) = true := by kernel_rfl
theorem c3_10_1 : isT (R3 10 1) = true := by kernel_rfl
theorem c3_10_2 : isT (R3 10 2) = true := by kernel_rfl
theorem c3_10_3 : isT (R3 10 3) = true := by kernel_rfl
theorem c3_10_4 : isT (R3 10 4) = true := by kernel_rfl
theorem c3_10_5 : isT (R3 10 5) = true := by kernel_rfl
theorem c3_10_6 : isT (R3 10 6) = true := by kernel_rfl
theorem c3_10_7 : isT (R3 10 7) = true := by kernel_rfl
theorem c3_10_8 : isT (R3 10 8) = true := by kernel_rfl
theorem c3_10_9 : isT (R3 10 9) = true := by kernel_rfl
theorem c3_10_10 : isT (R3 10 10) = true := by kernel_rfl
theorem c3_10_11 : isT (R3 10 11) = true := by kernel_rfl
theorem c3_10_12 : isT (R3 10 12) = true := by kernel_rfl
theorem c3_10_13 : isT (R3 10 13) = true := by kernel_rfl
theorem c3_10 (j : Nat) (hj : j < 14) : isT (R3 10 j) = true := by
  match j, hj with
  | 0, _ => exact c3_10_0
  | 1, _ => exact c3_10_1
  | 2, _ => exact c3_10_2
  | 3, _ => exact c3_10_3
  | 4, _ => exact c3_10_4
  | 5, _ => exact c3_10_5
  | 6, _ => exact c3_10_6
  | 7, _ => exact c3_10_7
  | 8, _ => exact c3_10_8
  | 9, _ => exact c3_10_9
  | 10, _ => exact c3_10_10
  | 11, _ => exact c3_10_11
  | 12, _ => exact c3_10_12
  | 13, _ => exact c3_10_13
  | (n + 14), h => exact absurd h (by omega)
end Go.Am
