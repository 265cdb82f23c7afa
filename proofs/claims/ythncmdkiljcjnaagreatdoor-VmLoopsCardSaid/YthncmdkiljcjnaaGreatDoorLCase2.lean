import Derived.Test.YthncmdkiljcjnaaGreatDoorLTab
import Derived.KernelRfl
set_option linter.all false
set_option maxRecDepth 100000
namespace Go.Am
open Go
theorem c5_4_0 : isT (R5 [p21_28,p21_29,p21_2] [p22_28,p22_29,p22_2] [p23_28,p23_29,p23_2] [p65_10,p65_1] 4 0) = true := by kernel_rfl
theorem c5_4_1 : isT (R5 [p21_28,p21_30,p21_2] [p22_28,p22_30,p22_2] [p23_28,p23_30,p23_2] [p65_10,p65_3] 4 1) = true := by kernel_rfl
theorem c5_4_2 : isT (R5 [p21_28,p21_31,p21_2] [p22_28,p22_31,p22_2] [p23_28,p23_31,p23_2] [p65_10,p65_4] 4 2) = true := by kernel_rfl
theorem c5_4_3 : isT (R5 [p21_28,p21_32,p21_2] [p22_28,p22_32,p22_2] [p23_28,p23_32,p23_2] [p65_10,p65_5] 4 3) = true := by kernel_rfl
theorem c5_4_4 : isT (R5 [p21_28,p21_33,p21_2] [p22_28,p22_33,p22_2] [p23_28,p23_33,p23_2] [p65_10,p65_6] 4 4) = true := by kernel_rfl
theorem c5_5_0 : isT (R5 [p21_34,p21_35,p21_2] [p22_34,p22_35,p22_2] [p23_34,p23_35,p23_2] [p65_11,p65_1] 5 0) = true := by kernel_rfl
theorem c5_5_1 : isT (R5 [p21_34,p21_36,p21_2] [p22_34,p22_36,p22_2] [p23_34,p23_36,p23_2] [p65_11,p65_3] 5 1) = true := by kernel_rfl
theorem c5_5_2 : isT (R5 [p21_34,p21_37,p21_2] [p22_34,p22_37,p22_2] [p23_34,p23_37,p23_2] [p65_11,p65_4] 5 2) = true := by kernel_rfl
theorem c5_5_3 : isT (R5 [p21_34,p21_38,p21_2] [p22_34,p22_38,p22_2] [p23_34,p23_38,p23_2] [p65_11,p65_5] 5 3) = true := by kernel_rfl
theorem c5_5_4 : isT (R5 [p21_34,p21_39,p21_2] [p22_34,p22_39,p22_2] [p23_34,p23_39,p23_2] [p65_11,p65_6] 5 4) = true := by kernel_rfl
end Go.Am
