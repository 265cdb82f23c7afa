import Derived.Test.YthncmdkiljcjnaaGreatDoorLTab
import Derived.KernelRfl
set_option linter.all false
set_option maxRecDepth 100000
namespace Go.Am
open Go
theorem c5_6_0 : isT (R5 [p21_40,p21_41,p21_2] [p22_40,p22_41,p22_2] [p23_40,p23_41,p23_2] [p65_12,p65_1] 6 0) = true := by kernel_rfl
theorem c5_6_1 : isT (R5 [p21_40,p21_42,p21_2] [p22_40,p22_42,p22_2] [p23_40,p23_42,p23_2] [p65_12,p65_3] 6 1) = true := by kernel_rfl
theorem c5_6_2 : isT (R5 [p21_40,p21_43,p21_2] [p22_40,p22_43,p22_2] [p23_40,p23_43,p23_2] [p65_12,p65_4] 6 2) = true := by kernel_rfl
theorem c5_6_3 : isT (R5 [p21_40,p21_44,p21_2] [p22_40,p22_44,p22_2] [p23_40,p23_44,p23_2] [p65_12,p65_5] 6 3) = true := by kernel_rfl
theorem c5_6_4 : isT (R5 [p21_40,p21_45,p21_2] [p22_40,p22_45,p22_2] [p23_40,p23_45,p23_2] [p65_12,p65_6] 6 4) = true := by kernel_rfl
theorem c5_7_0 : isT (R5 [p21_46,p21_47,p21_2] [p22_46,p22_47,p22_2] [p23_46,p23_47,p23_2] [p65_13,p65_1] 7 0) = true := by kernel_rfl
theorem c5_7_1 : isT (R5 [p21_46,p21_48,p21_2] [p22_46,p22_48,p22_2] [p23_46,p23_48,p23_2] [p65_13,p65_3] 7 1) = true := by kernel_rfl
theorem c5_7_2 : isT (R5 [p21_46,p21_49,p21_2] [p22_46,p22_49,p22_2] [p23_46,p23_49,p23_2] [p65_13,p65_4] 7 2) = true := by kernel_rfl
theorem c5_7_3 : isT (R5 [p21_46,p21_50,p21_2] [p22_46,p22_50,p22_2] [p23_46,p23_50,p23_2] [p65_13,p65_5] 7 3) = true := by kernel_rfl
theorem c5_7_4 : isT (R5 [p21_46,p21_51,p21_2] [p22_46,p22_51,p22_2] [p23_46,p23_51,p23_2] [p65_13,p65_6] 7 4) = true := by kernel_rfl
end Go.Am
