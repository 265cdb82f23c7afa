import Derived.Test.YthncmdkiljcjnaaGreatDoorLTab
import Derived.KernelRfl
set_option linter.all false
set_option maxRecDepth 100000
namespace Go.Am
open Go
theorem c5_16_0 : isT (R5 [p21_100,p21_101,p21_2] [p22_100,p22_101,p22_2] [p23_100,p23_101,p23_2] [p65_22,p65_1] 16 0) = true := by kernel_rfl
theorem c5_16_1 : isT (R5 [p21_100,p21_102,p21_2] [p22_100,p22_102,p22_2] [p23_100,p23_102,p23_2] [p65_22,p65_3] 16 1) = true := by kernel_rfl
theorem c5_16_2 : isT (R5 [p21_100,p21_103,p21_2] [p22_100,p22_103,p22_2] [p23_100,p23_103,p23_2] [p65_22,p65_4] 16 2) = true := by kernel_rfl
theorem c5_16_3 : isT (R5 [p21_100,p21_104,p21_2] [p22_100,p22_104,p22_2] [p23_100,p23_104,p23_2] [p65_22,p65_5] 16 3) = true := by kernel_rfl
theorem c5_16_4 : isT (R5 [p21_100,p21_105,p21_2] [p22_100,p22_105,p22_2] [p23_100,p23_105,p23_2] [p65_22,p65_6] 16 4) = true := by kernel_rfl
theorem c5_17_0 : isT (R5 [p21_106,p21_107,p21_2] [p22_106,p22_107,p22_2] [p23_106,p23_107,p23_2] [p65_23,p65_1] 17 0) = true := by kernel_rfl
theorem c5_17_1 : isT (R5 [p21_106,p21_108,p21_2] [p22_106,p22_108,p22_2] [p23_106,p23_108,p23_2] [p65_23,p65_3] 17 1) = true := by kernel_rfl
theorem c5_17_2 : isT (R5 [p21_106,p21_109,p21_2] [p22_106,p22_109,p22_2] [p23_106,p23_109,p23_2] [p65_23,p65_4] 17 2) = true := by kernel_rfl
theorem c5_17_3 : isT (R5 [p21_106,p21_110,p21_2] [p22_106,p22_110,p22_2] [p23_106,p23_110,p23_2] [p65_23,p65_5] 17 3) = true := by kernel_rfl
theorem c5_17_4 : isT (R5 [p21_106,p21_111,p21_2] [p22_106,p22_111,p22_2] [p23_106,p23_111,p23_2] [p65_23,p65_6] 17 4) = true := by kernel_rfl
end Go.Am
