import Derived.Test.YthncmdkiljcjnaaGreatDoorLTab
import Derived.KernelRfl
set_option linter.all false
set_option maxRecDepth 100000
namespace Go.Am
open Go
theorem c5_12_0 : isT (R5 [p21_76,p21_77,p21_2] [p22_76,p22_77,p22_2] [p23_76,p23_77,p23_2] [p65_18,p65_1] 12 0) = true := by kernel_rfl
theorem c5_12_1 : isT (R5 [p21_76,p21_78,p21_2] [p22_76,p22_78,p22_2] [p23_76,p23_78,p23_2] [p65_18,p65_3] 12 1) = true := by kernel_rfl
theorem c5_12_2 : isT (R5 [p21_76,p21_79,p21_2] [p22_76,p22_79,p22_2] [p23_76,p23_79,p23_2] [p65_18,p65_4] 12 2) = true := by kernel_rfl
theorem c5_12_3 : isT (R5 [p21_76,p21_80,p21_2] [p22_76,p22_80,p22_2] [p23_76,p23_80,p23_2] [p65_18,p65_5] 12 3) = true := by kernel_rfl
theorem c5_12_4 : isT (R5 [p21_76,p21_81,p21_2] [p22_76,p22_81,p22_2] [p23_76,p23_81,p23_2] [p65_18,p65_6] 12 4) = true := by kernel_rfl
theorem c5_13_0 : isT (R5 [p21_82,p21_83,p21_2] [p22_82,p22_83,p22_2] [p23_82,p23_83,p23_2] [p65_19,p65_1] 13 0) = true := by kernel_rfl
theorem c5_13_1 : isT (R5 [p21_82,p21_84,p21_2] [p22_82,p22_84,p22_2] [p23_82,p23_84,p23_2] [p65_19,p65_3] 13 1) = true := by kernel_rfl
theorem c5_13_2 : isT (R5 [p21_82,p21_85,p21_2] [p22_82,p22_85,p22_2] [p23_82,p23_85,p23_2] [p65_19,p65_4] 13 2) = true := by kernel_rfl
theorem c5_13_3 : isT (R5 [p21_82,p21_86,p21_2] [p22_82,p22_86,p22_2] [p23_82,p23_86,p23_2] [p65_19,p65_5] 13 3) = true := by kernel_rfl
theorem c5_13_4 : isT (R5 [p21_82,p21_87,p21_2] [p22_82,p22_87,p22_2] [p23_82,p23_87,p23_2] [p65_19,p65_6] 13 4) = true := by kernel_rfl
end Go.Am
