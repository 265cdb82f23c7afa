import Derived.Test.YthncmdkiljcjnaaGreatDoorLTab
import Derived.KernelRfl
set_option linter.all false
set_option maxRecDepth 100000
namespace Go.Am
open Go
theorem c5_22_0 : isT (R5 [p21_136,p21_137,p21_2] [p22_136,p22_137,p22_2] [p23_136,p23_137,p23_2] [p65_28,p65_1] 22 0) = true := by kernel_rfl
theorem c5_22_1 : isT (R5 [p21_136,p21_138,p21_2] [p22_136,p22_138,p22_2] [p23_136,p23_138,p23_2] [p65_28,p65_3] 22 1) = true := by kernel_rfl
theorem c5_22_2 : isT (R5 [p21_136,p21_139,p21_2] [p22_136,p22_139,p22_2] [p23_136,p23_139,p23_2] [p65_28,p65_4] 22 2) = true := by kernel_rfl
theorem c5_22_3 : isT (R5 [p21_136,p21_140,p21_2] [p22_136,p22_140,p22_2] [p23_136,p23_140,p23_2] [p65_28,p65_5] 22 3) = true := by kernel_rfl
theorem c5_22_4 : isT (R5 [p21_136,p21_141,p21_2] [p22_136,p22_141,p22_2] [p23_136,p23_141,p23_2] [p65_28,p65_6] 22 4) = true := by kernel_rfl
theorem c5_23_0 : isT (R5 [p21_142,p21_143,p21_2] [p22_142,p22_143,p22_2] [p23_142,p23_143,p23_2] [p65_29,p65_1] 23 0) = true := by kernel_rfl
theorem c5_23_1 : isT (R5 [p21_142,p21_144,p21_2] [p22_142,p22_144,p22_2] [p23_142,p23_144,p23_2] [p65_29,p65_3] 23 1) = true := by kernel_rfl
theorem c5_23_2 : isT (R5 [p21_142,p21_145,p21_2] [p22_142,p22_145,p22_2] [p23_142,p23_145,p23_2] [p65_29,p65_4] 23 2) = true := by kernel_rfl
theorem c5_23_3 : isT (R5 [p21_142,p21_146,p21_2] [p22_142,p22_146,p22_2] [p23_142,p23_146,p23_2] [p65_29,p65_5] 23 3) = true := by kernel_rfl
theorem c5_23_4 : isT (R5 [p21_142,p21_147,p21_2] [p22_142,p22_147,p22_2] [p23_142,p23_147,p23_2] [p65_29,p65_6] 23 4) = true := by kernel_rfl
end Go.Am
