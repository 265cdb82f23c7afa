import Derived.Test.YthncmdkiljcjnaaGreatDoorCodeT
import Derived.KernelRfl
set_option linter.all false
set_option maxRecDepth 100000
namespace Go.Am
open Go
theorem c3_8_0 : isT (R3 8 0) = true := by kernel_rfl
theorem c3_8_1 : isT (R3 8 1) = true := by kernel_rfl
theorem c3_8_2 : isT (R3 8 2) = true := by kernel_rfl
theorem c3_8_3 : isT (R3 8 3) = true := by kernel_rfl
theorem c3_8_4 : isT (R3 8 4) = true := by kernel_rfl
theorem c3_8_5 : isT (R3 8 5) = true := by kernel_rfl
theorem c3_8_6 : isT (R3 8 6) = true := by kernel_rfl
theorem c3_8_7 : isT (R3 8 7) = true := by kernel_rfl
theorem c3_8_8 : isT (R3 8 8) = true := by kernel_rfl
theorem c3_8_9 : isT (R3 8 9) = true := by kernel_rfl
theorem c3_8_10 : isT (R3 8 10) = true := by kernel_rfl
theorem c3_8_11 : isT (R3 8 11) = true := by kernel_rfl
theorem c3_8_12 : isT (R3 8 12) = true := by kernel_rfl
theorem c3_8_13 : isT (R3 8 13) = true := by kernel_rfl
theorem c3_8 (j : Nat) (hj : j < 14) : isT (R3 8 j) = true := by
  match j, hj with
  | 0, _ => exact c3_8_0
  | 1, _ => exact c3_8_1
  | 2, _ => exact c3_8_2
  | 3, _ => exact c3_8_3
  | 4, _ => exact c3_8_4
  | 5, _ => exact c3_8_5
  | 6, _ => exact c3_8_6
  | 7, _ => exact c3_8_7
  | 8, _ => exact c3_8_8
  | 9, _ => exact c3_8_9
  | 10, _ => exact c3_8_10
  | 11, _ => exact c3_8_11
  | 12, _ => exact c3_8_12
  | 13, _ => exact c3_8_13
  | (n + 14), h => exact absurd h (by omega)
end Go.Am
