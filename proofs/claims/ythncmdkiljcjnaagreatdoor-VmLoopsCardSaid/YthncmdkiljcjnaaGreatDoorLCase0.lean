import Derived.Test.YthncmdkiljcjnaaGreatDoorLTab
import Derived.KernelRfl
set_option linter.all false
set_option maxRecDepth 100000
namespace Go.Am
open Go
theorem c5_0_0 : isT (R5 [p21_0,p21_1,p21_2] [p22_0,p22_1,p22_2] [p23_0,p23_1,p23_2] [p65_0,p65_1] 0 0) = true := by kernel_rfl
theorem c5_0_1 : isT (R5 [p21_0,p21_6,p21_2] [p22_0,p22_6,p22_2] [p23_0,p23_6,p23_2] [p65_0,p65_3] 0 1) = true := by kernel_rfl
theorem c5_0_2 : isT (R5 [p21_0,p21_7,p21_2] [p22_0,p22_7,p22_2] [p23_0,p23_7,p23_2] [p65_0,p65_4] 0 2) = true := by kernel_rfl
theorem c5_0_3 : isT (R5 [p21_0,p21_8,p21_2] [p22_0,p22_8,p22_2] [p23_0,p23_8,p23_2] [p65_0,p65_5] 0 3) = true := by kernel_rfl
theorem c5_0_4 : isT (R5 [p21_0,p21_9,p21_2] [p22_0,p22_9,p22_2] [p23_0,p23_9,p23_2] [p65_0,p65_6] 0 4) = true := by kernel_rfl
theorem c5_1_0 : isT (R5 [p21_10,p21_11,p21_2] [p22_10,p22_11,p22_2] [p23_10,p23_11,p23_2] [p65_7,p65_1] 1 0) = true := by kernel_rfl
theorem c5_1_1 : isT (R5 [p21_10,p21_12,p21_2] [p22_10,p22_12,p22_2] [p23_10,p23_12,p23_2] [p65_7,p65_3] 1 1) = true := by kernel_rfl
theorem c5_1_2 : isT (R5 [p21_10,p21_13,p21_2] [p22_10,p22_13,p22_2] [p23_10,p23_13,p23_2] [p65_7,p65_4] 1 2) = true := by kernel_rfl
theorem c5_1_3 : isT (R5 [p21_10,p21_14,p21_2] [p22_10,p22_14,p22_2] [p23_10,p23_14,p23_2] [p65_7,p65_5] 1 3) = true := by kernel_rfl
theorem c5_1_4 : isT (R5 [p21_10,p21_15,p21_2] [p22_10,p22_15,p22_2] [p23_10,p23_15,p23_2] [p65_7,p65_6] 1 4) = true := by kernel_rfl
end Go.Am
