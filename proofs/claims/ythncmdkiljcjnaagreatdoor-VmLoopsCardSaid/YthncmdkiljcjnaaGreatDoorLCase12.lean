import Derived.Test.YthncmdkiljcjnaaGreatDoorLTab
import Derived.KernelRfl
set_option linter.all false
set_option maxRecDepth 100000
namespace Go.Am
open Go
theorem c5_24_0 : isT (R5 [p21_148,p21_149,p21_2] [p22_148,p22_149,p22_2] [p23_148,p23_149,p23_2] [p65_30,p65_1] 24 0) = true := by kernel_rfl
theorem c5_24_1 : isT (R5 [p21_148,p21_150,p21_2] [p22_148,p22_150,p22_2] [p23_148,p23_150,p23_2] [p65_30,p65_3] 24 1) = true := by kernel_rfl
theorem c5_24_2 : isT (R5 [p21_148,p21_151,p21_2] [p22_148,p22_151,p22_2] [p23_148,p23_151,p23_2] [p65_30,p65_4] 24 2) = true := by kernel_rfl
theorem c5_24_3 : isT (R5 [p21_148,p21_152,p21_2] [p22_148,p22_152,p22_2] [p23_148,p23_152,p23_2] [p65_30,p65_5] 24 3) = true := by kernel_rfl
theorem c5_24_4 : isT (R5 [p21_148,p21_153,p21_2] [p22_148,p22_153,p22_2] [p23_148,p23_153,p23_2] [p65_30,p65_6] 24 4) = true := by kernel_rfl
theorem c5_25_0 : isT (R5 [p21_154,p21_155,p21_2] [p22_154,p22_155,p22_2] [p23_154,p23_155,p23_2] [p65_31,p65_1] 25 0) = true := by kernel_rfl
theorem c5_25_1 : isT (R5 [p21_154,p21_156,p21_2] [p22_154,p22_156,p22_2] [p23_154,p23_156,p23_2] [p65_31,p65_3] 25 1) = true := by kernel_rfl
theorem c5_25_2 : isT (R5 [p21_154,p21_157,p21_2] [p22_154,p22_157,p22_2] [p23_154,p23_157,p23_2] [p65_31,p65_4] 25 2) = true := by kernel_rfl
theorem c5_25_3 : isT (R5 [p21_154,p21_158,p21_2] [p22_154,p22_158,p22_2] [p23_154,p23_158,p23_2] [p65_31,p65_5] 25 3) = true := by kernel_rfl
theorem c5_25_4 : isT (R5 [p21_154,p21_159,p21_2] [p22_154,p22_159,p22_2] [p23_154,p23_159,p23_2] [p65_31,p65_6] 25 4) = true := by kernel_rfl
end Go.Am
