import Derived.Test.YthncmdkiljcjnaaGreatDoorLTab
import Derived.KernelRfl
set_option linter.all false
set_option maxRecDepth 100000
namespace Go.Am
open Go
theorem c5_14_0 : isT (R5 [p21_88,p21_89,p21_2] [p22_88,p22_89,p22_2] [p23_88,p23_89,p23_2] [p65_20,p65_1] 14 0) = true := by kernel_rfl
theorem c5_14_1 : isT (R5 [p21_88,p21_90,p21_2] [p22_88,p22_90,p22_2] [p23_88,p23_90,p23_2] [p65_20,p65_3] 14 1) = true := by kernel_rfl
theorem c5_14_2 : isT (R5 [p21_88,p21_91,p21_2] [p22_88,p22_91,p22_2] [p23_88,p23_91,p23_2] [p65_20,p65_4] 14 2) = true := by kernel_rfl
theorem c5_14_3 : isT (R5 [p21_88,p21_92,p21_2] [p22_88,p22_92,p22_2] [p23_88,p23_92,p23_2] [p65_20,p65_5] 14 3) = true := by kernel_rfl
theorem c5_14_4 : isT (R5 [p21_88,p21_93,p21_2] [p22_88,p22_93,p22_2] [p23_88,p23_93,p23_2] [p65_20,p65_6] 14 4) = true := by kernel_rfl
theorem c5_15_0 : isT (R5 [p21_94,p21_95,p21_2] [p22_94,p22_95,p22_2] [p23_94,p23_95,p23_2] [p65_21,p65_1] 15 0) = true := by kernel_rfl
theorem c5_15_1 : isT (R5 [p21_94,p21_96,p21_2] [p22_94,p22_96,p22_2] [p23_94,p23_96,p23_2] [p65_21,p65_3] 15 1) = true := by kernel_rfl
theorem c5_15_2 : isT (R5 [p21_94,p21_97,p21_2] [p22_94,p22_97,p22_2] [p23_94,p23_97,p23_2] [p65_21,p65_4] 15 2) = true := by kernel_rfl
theorem c5_15_3 : isT (R5 [p21_94,p21_98,p21_2] [p22_94,p22_98,p22_2] [p23_94,p23_98,p23_2] [p65_21,p65_5] 15 3) = true := by kernel_rfl
theorem c5_15_4 : isT (R5 [p21_94,p21_99,p21_2] [p22_94,p22_99,p22_2] [p23_94,p23_99,p23_2] [p65_21,p65_6] 15 4) = true := by kernel_rfl
end Go.Am
