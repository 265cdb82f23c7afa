import Derived.Test.YthncmdkiljcjnaaGreatDoorCodeT
import Derived.KernelRfl
set_option linter.all false
set_option maxRecDepth 100000
namespace Go.Am
open Go
theorem c3_4_0 : isT (R3 4 0) = true := by kernel_rfl
theorem c3_4_1 : isT (R3 4 1) = true := by kernel_rfl
theorem c3_4_2 : isT (R3 4 2) = true := by kernel_rfl
theorem c3_4_3 : isT (R3 4 3) = true := by kernel_rfl
theorem c3_4_4 : isT (R3 4 4) = true := by kernel_rfl
theorem c3_4_5 : isT (R3 4 5) = true := by kernel_rfl
theorem c3_4_6 : isT (R3 4 6) = true := by kernel_rfl
theorem c3_4_7 : isT (R3 4 7) = true := by kernel_rfl
theorem c3_4_8 : isT (R3 4 8) = true := by kernel_rfl
theorem c3_4_9 : isT (R3 4 9) = true := by kernel_rfl
theorem c3_4_10 : isT (R3 4 10) = true := by kernel_rfl
theorem c3_4_11 : isT (R3 4 11) = true := by kernel_rfl
theorem c3_4_12 : isT (R3 4 12) = true := by kernel_rfl
theorem c3_4_13 : isT (R3 4 13) = true := by kernel_rfl
theorem c3_4 (j : Nat) (hj : j < 14) : isT (R3 4 j) = true := by
  match j, hj with
  | 0, _ => exact c3_4_0
  | 1, _ => exact c3_4_1
  | 2, _ => exact c3_4_2
  | 3, _ => exact c3_4_3
  | 4, _ => exact c3_4_4
  | 5, _ => exact c3_4_5
  | 6, _ => exact c3_4_6
  | 7, _ => exact c3_4_7
  | 8, _ => exact c3_4_8
  | 9, _ => exact c3_4_9
  | 10, _ => exact c3_4_10
  | 11, _ => exact c3_4_11
  | 12, _ => exact c3_4_12
  | 13, _ => exact c3_4_13
  | (n + 14), h => exact absurd h (by omega)
end Go.Am
