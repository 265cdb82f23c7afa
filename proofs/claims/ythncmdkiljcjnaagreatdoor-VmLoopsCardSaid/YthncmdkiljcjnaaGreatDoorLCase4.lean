import Derived.Test.YthncmdkiljcjnaaGreatDoorLTab
import Derived.KernelRfl
set_option linter.all false
set_option maxRecDepth 100000
namespace Go.Am
open Go
theorem c5_8_0 : isT (R5 [p21_52,p21_53,p21_2] [p22_52,p22_53,p22_2] [p23_52,p23_53,p23_2] [p65_14,p65_1] 8 0) = true := by kernel_rfl
theorem c5_8_1 : isT (R5 [p21_52,p21_54,p21_2] [p22_52,p22_54,p22_2] [p23_52,p23_54,p23_2] [p65_14,p65_3] 8 1) = true := by kernel_rfl
theorem c5_8_2 : isT (R5 [p21_52,p21_55,p21_2] [p22_52,p22_55,p22_2] [p23_52,p23_55,p23_2] [p65_14,p65_4] 8 2) = true := by kernel_rfl
theorem c5_8_3 : isT (R5 [p21_52,p21_56,p21_2] [p22_52,p22_56,p22_2] [p23_52,p23_56,p23_2] [p65_14,p65_5] 8 3) = true := by kernel_rfl
theorem c5_8_4 : isT (R5 [p21_52,p21_57,p21_2] [p22_52,p22_57,p22_2] [p23_52,p23_57,p23_2] [p65_14,p65_6] 8 4) = true := by kernel_rfl
theorem c5_9_0 : isT (R5 [p21_58,p21_59,p21_2] [p22_58,p22_59,p22_2] [p23_58,p23_59,p23_2] [p65_15,p65_1] 9 0) = true := by kernel_rfl
theorem c5_9_1 : isT (R5 [p21_58,p21_60,p21_2] [p22_58,p22_60,p22_2] [p23_58,p23_60,p23_2] [p65_15,p65_3] 9 1) = true := by kernel_rfl
theorem c5_9_2 : isT (R5 [p21_58,p21_61,p21_2] [p22_58,p22_61,p22_2] [p23_58,p23_61,p23_2] [p65_15,p65_4] 9 2) = true := by kernel_rfl
theorem c5_9_3 : isT (R5 [p21_58,p21_62,p21_2] [p22_58,p22_62,p22_2] [p23_58,p23_62,p23_2] [p65_15,p65_5] 9 3) = true := by kernel_rfl
theorem c5_9_4 : isT (R5 [p21_58,p21_63,p21_2] [p22_58,p22_63,p22_2] [p23_58,p23_63,p23_2] [p65_15,p65_6] 9 4) = true := by kernel_rfl
end Go.Am
