import Derived.Test.YthncmdkiljcjnaaGreatDoorLTab
import Derived.KernelRfl
set_option linter.all false
set_option maxRecDepth 100000
namespace Go.Am
open Go
theorem c5_10_0 : isT (R5 [p21_64,p21_65,p21_2] [p22_64,p22_65,p22_2] [p23_64,p23_65,p23_2] [p65_16,p65_1] 10 0) = true := by kernel_rfl
theorem c5_10_1 : isT (R5 [p21_64,p21_66,p21_2] [p22_64,p22_66,p22_2] [p23_64,p23_66,p23_2] [p65_16,p65_3] 10 1) = true := by kernel_rfl
theorem c5_10_2 : isT (R5 [p21_64,p21_67,p21_2] [p22_64,p22_67,p22_2] [p23_64,p23_67,p23_2] [p65_16,p65_4] 10 2) = true := by kernel_rfl
theorem c5_10_3 : isT (R5 [p21_64,p21_68,p21_2] [p22_64,p22_68,p22_2] [p23_64,p23_68,p23_2] [p65_16,p65_5] 10 3) = true := by kernel_rfl
theorem c5_10_4 : isT (R5 [p21_64,p21_69,p21_2] [p22_64,p22_69,p22_2] [p23_64,p23_69,p23_2] [p65_16,p65_6] 10 4) = true := by kernel_rfl
theorem c5_11_0 : isT (R5 [p21_70,p21_71,p21_2] [p22_70,p22_71,p22_2] [p23_70,p23_71,p23_2] [p65_17,p65_1] 11 0) = true := by kernel_rfl
theorem c5_11_1 : isT (R5 [p21_70,p21_72,p21_2] [p22_70,p22_72,p22_2] [p23_70,p23_72,p23_2] [p65_17,p65_3] 11 1) = true := by kernel_rfl
theorem c5_11_2 : isT (R5 [p21_70,p21_73,p21_2] [p22_70,p22_73,p22_2] [p23_70,p23_73,p23_2] [p65_17,p65_4] 11 2) = true := by kernel_rfl
theorem c5_11_3 : isT (R5 [p21_70,p21_74,p21_2] [p22_70,p22_74,p22_2] [p23_70,p23_74,p23_2] [p65_17,p65_5] 11 3) = true := by kernel_rfl
theorem c5_11_4 : isT (R5 [p21_70,p21_75,p21_2] [p22_70,p22_75,p22_2] [p23_70,p23_75,p23_2] [p65_17,p65_6] 11 4) = true := by kernel_rfl
end Go.Am
