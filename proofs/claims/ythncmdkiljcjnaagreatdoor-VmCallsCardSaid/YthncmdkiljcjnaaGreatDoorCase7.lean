import Derived.Test.YthncmdkiljcjnaaGreatDoorCodeT
import Derived.KernelRfl
set_option linter.all false
set_option maxRecDepth 100000
namespace Go.Am
open Go
theorem c3_7_0 : isT (R3 7 0) = true := by kernel_rfl
theorem c3_7_1 : isT (R3 7 1) = true := by kernel_rfl
theorem c3_7_2 : isT (R3 7 2) = true := by kernel_rfl
theorem c3_7_3 : isT (R3 7 3) = true := by kernel_rfl
theorem c3_7_4 : isT (R3 7 4) = true := by kernel_rfl
theorem c3_7_5 : isT (R3 7 5) = true := by kernel_rfl
theorem c3_7_6 : isT (R3 7 6) = true := by kernel_rfl
theorem c3_7_7 : isT (R3 7 7) = true := by kernel_rfl
theorem c3_7_8 : isT (R3 7 8) = true := by kernel_rfl
theorem c3_7_9 : isT (R3 7 9) = true := by kernel_rfl
theorem c3_7_10 : isT (R3 7 10) = true := by kernel_rfl
theorem c3_7_11 : isT (R3 7 11) = true := by kernel_rfl
theorem c3_7_12 : isT (R3 7 12) = true := by kernel_rfl
theorem c3_7_13 : isT (R3 7 13) = true := by kernel_rfl
theorem c3_7 (j : Nat) (hj : j < 14) : isT (R3 7 j) = true := by
  match j, hj with
  | 0, _ => exact c3_7_0
  | 1, _ => exact c3_7_1
  | 2, _ => exact c3_7_2
  | 3, _ => exact c3_7_3
  | 4, _ => exact c3_7_4
  | 5, _ => exact c3_7_5
  | 6, _ => exact c3_7_6
  | 7, _ => exact c3_7_7
  | 8, _ => exact c3_7_8
  | 9, _ => exact c3_7_9
  | 10, _ => exact c3_7_10
  | 11, _ => exact c3_7_11
  | 12, _ => exact c3_7_12
  | 13, _ => exact c3_7_13
  | (n + 14), h => exact absurd h (by omega)
end Go.Am
