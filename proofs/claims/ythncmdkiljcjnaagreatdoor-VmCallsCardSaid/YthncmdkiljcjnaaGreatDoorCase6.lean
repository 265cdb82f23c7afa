import Derived.Test.YthncmdkiljcjnaaGreatDoorCodeT
import Derived.KernelRfl
set_option linter.all false
set_option maxRecDepth 100000
namespace Go.Am
open Go
theorem c3_6_0 : isT (R3 6 0) = true := by kernel_rfl
theorem c3_6_1 : isT (R3 6 1) = true := by kernel_rfl
theorem c3_6_2 : isT (R3 6 2) = true := by kernel_rfl
theorem c3_6_3 : isT (R3 6 3) = true := by kernel_rfl
theorem c3_6_4 : isT (R3 6 4) = true := by kernel_rfl
theorem c3_6_5 : isT (R3 6 5) = true := by kernel_rfl
theorem c3_6_6 : isT (R3 6 6) = true := by kernel_rfl
theorem c3_6_7 : isT (R3 6 7) = true := by kernel_rfl
theorem c3_6_8 : isT (R3 6 8) = true := by kernel_rfl
theorem c3_6_9 : isT (R3 6 9) = true := by kernel_rfl
theorem c3_6_10 : isT (R3 6 10) = true := by kernel_rfl
theorem c3_6_11 : isT (R3 6 11) = true := by kernel_rfl
theorem c3_6_12 : isT (R3 6 12) = true := by kernel_rfl
theorem c3_6_13 : isT (R3 6 13) = true := by kernel_rfl
theorem c3_6 (j : Nat) (hj : j < 14) : isT (R3 6 j) = true := by
  match j, hj with
  | 0, _ => exact c3_6_0
  | 1, _ => exact c3_6_1
  | 2, _ => exact c3_6_2
  | 3, _ => exact c3_6_3
  | 4, _ => exact c3_6_4
  | 5, _ => exact c3_6_5
  | 6, _ => exact c3_6_6
  | 7, _ => exact c3_6_7
  | 8, _ => exact c3_6_8
  | 9, _ => exact c3_6_9
  | 10, _ => exact c3_6_10
  | 11, _ => exact c3_6_11
  | 12, _ => exact c3_6_12
  | 13, _ => exact c3_6_13
  | (n + 14), h => exact absurd h (by omega)
end Go.Am
