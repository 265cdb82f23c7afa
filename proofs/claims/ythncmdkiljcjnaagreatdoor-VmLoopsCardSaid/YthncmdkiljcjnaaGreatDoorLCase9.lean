import Derived.Test.YthncmdkiljcjnaaGreatDoorLTab
import Derived.KernelRfl
set_option linter.all false
set_option maxRecDepth 100000
namespace Go.Am
open Go
theorem c5_18_0 : isT (R5 [p21_112,p21_113,p21_2] [p22_112,p22_113,p22_2] [p23_112,p23_113,p23_2] [p65_24,p65_1] 18 0) = true := by kernel_rfl
theorem c5_18_1 : isT (R5 [p21_112,p21_114,p21_2] [p22_112,p22_114,p22_2] [p23_112,p23_114,p23_2] [p65_24,p65_3] 18 1) = true := by kernel_rfl
theorem c5_18_2 : isT (R5 [p21_112,p21_115,p21_2] [p22_112,p22_115,p22_2] [p23_112,p23_115,p23_2] [p65_24,p65_4] 18 2) = true := by kernel_rfl
theorem c5_18_3 : isT (R5 [p21_112,p21_116,p21_2] [p22_112,p22_116,p22_2] [p23_112,p23_116,p23_2] [p65_24,p65_5] 18 3) = true := by kernel_rfl
theorem c5_18_4 : isT (R5 [p21_112,p21_117,p21_2] [p22_112,p22_117,p22_2] [p23_112,p23_117,p23_2] [p65_24,p65_6] 18 4) = true := by kernel_rfl
theorem c5_19_0 : isT (R5 [p21_118,p21_119,p21_2] [p22_118,p22_119,p22_2] [p23_118,p23_119,p23_2] [p65_25,p65_1] 19 0) = true := by kernel_rfl
theorem c5_19_1 : isT (R5 [p21_118,p21_120,p21_2] [p22_118,p22_120,p22_2] [p23_118,p23_120,p23_2] [p65_25,p65_3] 19 1) = true := by kernel_rfl
theorem c5_19_2 : isT (R5 [p21_118,p21_121,p21_2] [p22_118,p22_121,p22_2] [p23_118,p23_121,p23_2] [p65_25,p65_4] 19 2) = true := by kernel_rfl
theorem c5_19_3 : isT (R5 [p21_118,p21_122,p21_2] [p22_118,p22_122,p22_2] [p23_118,p23_122,p23_2] [p65_25,p65_5] 19 3) = true := by kernel_rfl
theorem c5_19_4 : isT (R5 [p21_118,p21_123,p21_2] [p22_118,p22_123,p22_2] [p23_118,p23_123,p23_2] [p65_25,p65_6] 19 4) = true := by kernel_rfl
end Go.Am
