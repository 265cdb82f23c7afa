import Derived.Test.YthncmdkiljcjnaaGreatDoorLTab
import Derived.KernelRfl
set_option linter.all false
set_option maxRecDepth 100000
namespace Go.Am
open Go
theorem c5_26_0 : isT (R5 [p21_160,p21_161,p21_2] [p22_160,p22_161,p22_2] [p23_160,p23_161,p23_2] [p65_32,p65_1] 26 0) = true := by kernel_rfl
theorem c5_26_1 : isT (R5 [p21_160,p21_162,p21_2] [p22_160,p22_162,p22_2] [p23_160,p23_162,p23_2] [p65_32,p65_3] 26 1) = true := by kernel_rfl
theorem c5_26_2 : isT (R5 [p21_160,p21_163,p21_2] [p22_160,p22_163,p22_2] [p23_160,p23_163,p23_2] [p65_32,p65_4] 26 2) = true := by kernel_rfl
theorem c5_26_3 : isT (R5 [p21_160,p21_164,p21_2] [p22_160,p22_164,p22_2] [p23_160,p23_164,p23_2] [p65_32,p65_5] 26 3) = true := by kernel_rfl
theorem c5_26_4 : isT (R5 [p21_160,p21_165,p21_2] [p22_160,p22_165,p22_2] [p23_160,p23_165,p23_2] [p65_32,p65_6] 26 4) = true := by kernel_rfl
theorem c5_27_0 : isT (R5 [p21_166,p21_167,p21_2] [p22_166,p22_167,p22_2] [p23_166,p23_167,p23_2] [p65_33,p65_1] 27 0) = true := by kernel_rfl
theorem c5_27_1 : isT (R5 [p21_166,p21_168,p21_2] [p22_166,p22_168,p22_2] [p23_166,p23_168,p23_2] [p65_33,p65_3] 27 1) = true := by kernel_rfl
theorem c5_27_2 : isT (R5 [p21_166,p21_169,p21_2] [p22_166,p22_169,p22_2] [p23_166,p23_169,p23_2] [p65_33,p65_4] 27 2) = true := by kernel_rfl
theorem c5_27_3 : isT (R5 [p21_166,p21_170,p21_2] [p22_166,p22_170,p22_2] [p23_166,p23_170,p23_2] [p65_33,p65_5] 27 3) = true := by kernel_rfl
theorem c5_27_4 : isT (R5 [p21_166,p21_171,p21_2] [p22_166,p22_171,p22_2] [p23_166,p23_171,p23_2] [p65_33,p65_6] 27 4) = true := by kernel_rfl
end Go.Am
