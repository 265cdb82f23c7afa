import Derived.Test.YthncmdkiljcjnaaGreatDoorCodeT
import Derived.KernelRfl
set_option linter.all false
set_option maxRecDepth 100000
namespace Go.Am
open Go
theorem c3_11_0 : isT (R3 11 0) = true := by kernel_rfl
theorem c3_11_1 : isT (R3 11 1) = true := by kernel_rfl
theorem c3_11_2 : isT (R3 11 2) = true := by kernel_rfl
theorem c3_11_3 : isT (R3 11 3) = true := by kernel_rfl
theorem c3_11_4 : isT (R3 11 4) = true := by kernel_rfl
theorem c3_11_5 : isT (R3 11 5) = true := by kernel_rfl
theorem c3_11_6 : isT (R3 11 6) = true := by kernel_rfl
theorem c3_11_7 : isT (R3 11 7) = true := by kernel_rfl
theorem c3_11_8 : isT (R3 11 8) = true := by kernel_rfl
theorem c3_11_9 : isT (R3 11 9) = true := by kernel_rfl
theorem c3_11_10 : isT (R3 11 10) = true := by kernel_rfl
theorem c3_11_11 : isT (R3 11 11) = true := by kernel_rfl
theorem c3_11_12 : isT (R3 11 12) = true := by kernel_rfl
theorem c3_11_13 : isT (R3 11 13) = true := by kernel_rfl
theorem c3_11 (j : Nat) (hj : j < 14) : isT (R3 11 j) = true := by
  match j, hj with
  | 0, _ => exact c3_11_0
  | 1, _ => exact c3_11_1
  | 2, _ => exact c3_11_2
  | 3, _ => exact c3_11_3
  | 4, _ => exact c3_11_4
  | 5, _ => exact c3_11_5
  | 6, _ => exact c3_11_6
  | 7, _ => exact c3_11_7
  | 8, _ => exact c3_11_8
  | 9, _ => exact c3_11_9
  | 10, _ => exact c3_11_10
  | 11, _ => exact c3_11_11
  | 12, _ => exact c3_11_12
  | 13, _ => exact c3_11_13
  | (n + 14), h => exact absurd h (by omega)
end Go.Am
