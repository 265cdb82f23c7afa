import Derived.Test.YthncmdkiljcjnaaGreatDoorCodeT
import Derived.KernelRfl
set_option linter.all false
set_option maxRecDepth 100000
namespace Go.Am
open Go
theorem c3_5_0 : isT (R3 5 0) = true := by kernel_rfl
theorem c3_5_1 : isT (R3 5 1) = true := by kernel_rfl
theorem c3_5_2 : isT (R3 5 2) = true := by kernel_rfl
theorem c3_5_3 : isT (R3 5 3) = true := by kernel_rfl
theorem c3_5_4 : isT (R3 5 4) = true := by kernel_rfl
theorem c3_5_5 : isT (R3 5 5) = true := by kernel_rfl
theorem c3_5_6 : isT (R3 5 6) = true := by kernel_rfl
theorem c3_5_7 : isT (R3 5 7) = true := by kernel_rfl
theorem c3_5_8 : isT (R3 5 8) = true := by kernel_rfl
theorem c3_5_9 : isT (R3 5 9) = true := by kernel_rfl
theorem c3_5_10 : isT (R3 5 10) = true := by kernel_rfl
theorem c3_5_11 : isT (R3 5 11) = true := by kernel_rfl
theorem c3_5_12 : isT (R3 5 12) = true := by kernel_rfl
theorem c3_5_13 : isT (R3 5 13) = true := by kernel_rfl
theorem c3_5 (j : Nat) (hj : j < 14) : isT (R3 5 j) = true := by
  match j, hj with
  | 0, _ => exact c3_5_0
  | 1, _ => exact c3_5_1
  | 2, _ => exact c3_5_2
  | 3, _ => exact c3_5_3
  | 4, _ => exact c3_5_4
  | 5, _ => exact c3_5_5
  | 6, _ => exact c3_5_6
  | 7, _ => exact c3_5_7
  | 8, _ => exact c3_5_8
  | 9, _ => exact c3_5_9
  | 10, _ => exact c3_5_10
  | 11, _ => exact c3_5_11
  | 12, _ => exact c3_5_12
  | 13, _ => exact c3_5_13
  | (n + 14), h => exact absurd h (by omega)
end Go.Am
