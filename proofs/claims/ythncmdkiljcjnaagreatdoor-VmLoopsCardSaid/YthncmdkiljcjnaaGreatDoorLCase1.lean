import Derived.Test.YthncmdkiljcjnaaGreatDoorLTab
import Derived.KernelRfl
set_option linter.all false
set_option maxRecDepth 100000
namespace Go.Am
open Go
theorem c5_2_0 : isT (R5 [p21_16,p21_17,p21_2] [p22_16,p22_17,p22_2] [p23_16,p23_17,p23_2] [p65_8,p65_1] 2 0) = true := by kernel_rfl
theorem c5_2_1 : isT (R5 [p21_16,p21_18,p21_2] [p22_16,p22_18,p22_2] [p23_16,p23_18,p23_2] [p65_8,p65_3] 2 1) = true := by kernel_rfl
theorem c5_2_2 : isT (R5 [p21_16,p21_19,p21_2] [p22_16,p22_19,p22_2] [p23_16,p23_19,p23_2] [p65_8,p65_4] 2 2) = true := by kernel_rfl
theorem c5_2_3 : isT (R5 [p21_16,p21_20,p21_2] [p22_16,p22_20,p22_2] [p23_16,p23_20,p23_2] [p65_8,p65_5] 2 3) = true := by kernel_rfl
theorem c5_2_4 : isT (R5 [p21_16,p21_21,p21_2] [p22_16,p22_21,p22_2] [p23_16,p23_21,p23_2] [p65_8,p65_6] 2 4) = true := by kernel_rfl
theorem c5_3_0 : isT (R5 [p21_22,p21_23,p21_2] [p22_22,p22_23,p22_2] [p23_22,p23_23,p23_2] [p65_9,p65_1] 3 0) = true := by kernel_rfl
theorem c5_3_1 : isT (R5 [p21_22,p21_24,p21_2] [p22_22,p22_24,p22_2] [p23_22,p23_24,p23_2] [p65_9,p65_3] 3 1) = true := by kernel_rfl
theorem c5_3_2 : isT (R5 [p21_22,p21_25,p21_2] [p22_22,p22_25,p22_2] [p23_22,p23_25,p23_2] [p65_9,p65_4] 3 2) = true := by kernel_rfl
theorem c5_3_3 : isT (R5 [p21_22,p21_26,p21_2] [p22_22,p22_26,p22_2] [p23_22,p23_26,p23_2] [p65_9,p65_5] 3 3) = true := by kernel_rfl
theorem c5_3_4 : isT (R5 [p21_22,p21_27,p21_2] [p22_22,p22_27,p22_2] [p23_22,p23_27,p23_2] [p65_9,p65_6] 3 4) = true := by kernel_rfl
end Go.Am
