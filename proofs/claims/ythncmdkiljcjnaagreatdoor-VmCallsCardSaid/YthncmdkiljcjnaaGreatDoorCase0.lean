import Derived.Test.YthncmdkiljcjnaaGreatDoorCodeT
import Derived.KernelRfl
set_option linter.all false
set_option maxRecDepth 100000
namespace Go.Am
open Go
theorem c3_0_0 : isT (R3 0 0) = true := by kernel_rfl
theorem c3_0_1 : isT (R3 0 1) = true := by kernel_rfl
theorem c3_0_2 : isT (R3 0 2) = true := by kernel_rfl
theorem c3_0_3 : isT (R3 0 3) = true := by kernel_rfl
theorem c3_0_4 : isT (R3 0 4) = true := by kernel_rfl
theorem c3_0_5 : isT (R3 0 5) = true := by kernel_rfl
theorem c3_0_6 : isT (R3 0 6) = true := by kernel_rfl
theorem c3_0_7 : isT (R3 0 7) = true := by kernel_rfl
theorem c3_0_8 : isT (R3 0 8) = true := by kernel_rfl
theorem c3_0_9 : isT (R3 0 9) = true := by kernel_rfl
theorem c3_0_10 : isT (R3 0 10) = true := by kernel_rfl
theorem c3_0_11 : isT (R3 0 11) = true := by kernel_rfl
theorem c3_0_12 : isT (R3 0 12) = true := by kernel_rfl
theorem c3_0_13 : isT (R3 0 13) = true := by kernel_rfl
theorem c3_0 (j : Nat) (hj : j < 14) : isT (R3 0 j) = true := by
  match j, hj with
  | 0, _ => exact c3_0_0
  | 1, _ => exact c3_0_1
  | 2, _ => exact c3_0_2
  | 3, _ => exact c3_0_3
  | 4, _ => exact c3_0_4
  | 5, _ => exact c3_0_5
  | 6, _ => exact c3_0_6
  | 7, _ => exact c3_0_7
  | 8, _ => exact c3_0_8
  | 9, _ => exact c3_0_9
  | 10, _ => exact c3_0_10
  | 11, _ => exact c3_0_11
  | 12, _ => exact c3_0_12
  | 13, _ => exact c3_0_13
  | (n + 14), h => exact absurd h (by omega)
end Go.Am
