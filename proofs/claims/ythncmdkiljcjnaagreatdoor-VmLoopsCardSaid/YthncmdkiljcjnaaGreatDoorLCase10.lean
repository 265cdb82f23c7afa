import Derived.Test.YthncmdkiljcjnaaGreatDoorLTab
import Derived.KernelRfl
set_option linter.all false
set_option maxRecDepth 100000
namespace Go.Am
open Go
theorem c5_20_0 : isT (R5 [p21_124,p21_125,p21_2] [p22_124,p22_125,p22_2] [p23_124,p23_125,p23_2] [p65_26,p65_1] 20 0) = true := by kernel_rfl
theorem c5_20_1 : isT (R5 [p21_124,p21_126,p21_2] [p22_124,p22_126,p22_2] [p23_124,p23_126,p23_2] [p65_26,p65_3] 20 1) = true := by kernel_rfl
theorem c5_20_2 : isT (R5 [p21_124,p21_127,p21_2] [p22_124,p22_127,p22_2] [p23_124,p23_127,p23_2] [p65_26,p65_4] 20 2) = true := by kernel_rfl
theorem c5_20_3 : isT (R5 [p21_124,p21_128,p21_2] [p22_124,p22_128,p22_2] [p23_124,p23_128,p23_2] [p65_26,p65_5] 20 3) = true := by kernel_rfl
theorem c5_20_4 : isT (R5 [p21_124,p21_129,p21_2] [p22_124,p22_129,p22_2] [p23_124,p23_129,p23_2] [p65_26,p65_6] 20 4) = true := by kernel_rfl
theorem c5_21_0 : isT (R5 [p21_130,p21_131,p21_2] [p22_130,p22_131,p22_2] [p23_130,p23_131,p23_2] [p65_27,p65_1] 21 0) = true := by kernel_rfl
theorem c5_21_1 : isT (R5 [p21_130,p21_132,p21_2] [p22_130,p22_132,p22_2] [p23_130,p23_132,p23_2] [p65_27,p65_3] 21 1) = true := by kernel_rfl
theorem c5_21_2 : isT (R5 [p21_130,p21_133,p21_2] [p22_130,p22_133,p22_2] [p23_130,p23_133,p23_2] [p65_27,p65_4] 21 2) = true := by kernel_rfl
theorem c5_21_3 : isT (R5 [p21_130,p21_134,p21_2] [p22_130,p22_134,p22_2] [p23_130,p23_134,p23_2] [p65_27,p65_5] 21 3) = true := by kernel_rfl
theorem c5_21_4 : isT (R5 [p21_130,p21_135,p21_2] [p22_130,p22_135,p22_2] [p23_130,p23_135,p23_2] [p65_27,p65_6] 21 4) = true := by kernel_rfl
end Go.Am
