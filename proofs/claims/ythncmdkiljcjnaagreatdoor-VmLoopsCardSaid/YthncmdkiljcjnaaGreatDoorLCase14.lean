import Derived.Test.YthncmdkiljcjnaaGreatDoorLTab
import Derived.KernelRfl
set_option linter.all false
set_option maxRecDepth 100000
namespace Go.Am
open Go
theorem c5_28_0 : isT (R5 [p21_172,p21_173,p21_2] [p22_172,p22_173,p22_2] [p23_172,p23_173,p23_2] [p65_34,p65_1] 28 0) = true := by kernel_rfl
theorem c5_28_1 : isT (R5 [p21_172,p21_174,p21_2] [p22_172,p22_174,p22_2] [p23_172,p23_174,p23_2] [p65_34,p65_3] 28 1) = true := by kernel_rfl
theorem c5_28_2 : isT (R5 [p21_172,p21_175,p21_2] [p22_172,p22_175,p22_2] [p23_172,p23_175,p23_2] [p65_34,p65_4] 28 2) = true := by kernel_rfl
theorem c5_28_3 : isT (R5 [p21_172,p21_176,p21_2] [p22_172,p22_176,p22_2] [p23_172,p23_176,p23_2] [p65_34,p65_5] 28 3) = true := by kernel_rfl
theorem c5_28_4 : isT (R5 [p21_172,p21_177,p21_2] [p22_172,p22_177,p22_2] [p23_172,p23_177,p23_2] [p65_34,p65_6] 28 4) = true := by kernel_rfl
theorem c5_29_0 : isT (R5 [p21_178,p21_179,p21_2] [p22_178,p22_179,p22_2] [p23_178,p23_179,p23_2] [p65_35,p65_1] 29 0) = true := by kernel_rfl
theorem c5_29_1 : isT (R5 [p21_178,p21_180,p21_2] [p22_178,p22_180,p22_2] [p23_178,p23_180,p23_2] [p65_35,p65_3] 29 1) = true := by kernel_rfl
theorem c5_29_2 : isT (R5 [p21_178,p21_181,p21_2] [p22_178,p22_181,p22_2] [p23_178,p23_181,p23_2] [p65_35,p65_4] 29 2) = true := by kernel_rfl
theorem c5_29_3 : isT (R5 [p21_178,p21_182,p21_2] [p22_178,p22_182,p22_2] [p23_178,p23_182,p23_2] [p65_35,p65_5] 29 3) = true := by kernel_rfl
theorem c5_29_4 : isT (R5 [p21_178,p21_183,p21_2] [p22_178,p22_183,p22_2] [p23_178,p23_183,p23_2] [p65_35,p65_6] 29 4) = true := by kernel_rfl
end Go.Am
