import Derived.Test.YtpcijpelimgnmaaGreatDoorSTab
import Derived.KernelRfl
set_option linter.all false
set_option maxRecDepth 100000
namespace Go.Am
open Go
theorem e14_0 : sealR (ev (EnA [] [] [] [] [] [] [] [] [] [] [] [] [] [] [] [] []) 2000 14 p14_0.1 Heap.empty) = some p14_0.2 := by kernel_rfl
theorem e14_3 : sealR (ev (EnA [] [] [] [] [] [] [] [] [] [] [] [] [] [] [] [] []) 2000 14 p14_3.1 Heap.empty) = some p14_3.2 := by kernel_rfl
theorem e40_9 : sealR (ev (EnA [p71_2] [] [p136_2] [] [] [] [] [] [] [] [] [] [] [] [] [] []) 2000 40 p40_9.1 Heap.empty) = some p40_9.2 := by kernel_rfl
theorem e40_10 : sealR (ev (EnA [] [] [] [] [] [] [] [] [] [] [] [] [] [] [] [] []) 2000 40 p40_10.1 Heap.empty) = some p40_10.2 := by kernel_rfl
theorem e41_4 : sealR (ev (EnA [] [] [] [] [] [] [] [] [] [] [] [] [] [] [] [] []) 2000 41 p41_4.1 Heap.empty) = some p41_4.2 := by kernel_rfl
theorem e41_12 : sealR (ev (EnA [] [] [] [] [] [] [] [] [] [] [] [] [] [] [] [] []) 2000 41 p41_12.1 Heap.empty) = some p41_12.2 := by kernel_rfl
theorem e42_7 : sealR (ev (EnA [] [] [] [] [] [] [] [] [] [] [] [] [] [] [] [] []) 2000 42 p42_7.1 Heap.empty) = some p42_7.2 := by kernel_rfl
theorem e71_2 : sealR (ev (EnA [] [] [] [] [] [] [] [] [] [] [] [] [] [] [] [] []) 2000 71 p71_2.1 Heap.empty) = some p71_2.2 := by kernel_rfl
theorem e99_2 : sealR (ev (EnA [] [] [p136_12,p136_2] [p221_8] [] [] [] [] [] [] [] [] [] [] [] [] []) 2000 99 p99_2.1 Heap.empty) = some p99_2.2 := by kernel_rfl
theorem e136_0 : sealR (ev (EnA [] [] [] [] [] [] [] [] [] [] [] [] [] [] [] [] []) 2000 136 p136_0.1 Heap.empty) = some p136_0.2 := by kernel_rfl
theorem e136_5 : sealR (ev (EnA [] [] [] [] [] [] [] [] [] [] [] [] [] [] [] [] []) 2000 136 p136_5.1 Heap.empty) = some p136_5.2 := by kernel_rfl
theorem e136_9 : sealR (ev (EnA [] [] [] [] [] [] [] [] [] [] [] [] [] [] [] [] []) 2000 136 p136_9.1 Heap.empty) = some p136_9.2 := by kernel_rfl
theorem e138_2 : sealR (ev (EnA [] [] [p136_5] [] [] [] [] [] [] [] [] [] [] [] [] [] []) 2000 138 p138_2.1 Heap.empty) = some p138_2.2 := by kernel_rfl
theorem e138_6 : sealR (ev (EnA [] [] [p136_13] [] [] [] [] [] [] [] [] [] [] [] [] [] []) 2000 138 p138_6.1 Heap.empty) = some p138_6.2 := by kernel_rfl
theorem e146_0 : sealR (ev (EnA [] [] [] [] [] [] [] [] [] [] [] [] [] [] [] [] []) 2000 146 p146_0.1 Heap.empty) = some p146_0.2 := by kernel_rfl
theorem e146_8 : sealR (ev (EnA [] [] [] [] [] [] [] [] [] [] [] [] [] [] [] [] []) 2000 146 p146_8.1 Heap.empty) = some p146_8.2 := by kernel_rfl
theorem e146_10 : sealR (ev (EnA [] [] [] [] [] [] [] [] [] [] [] [] [] [] [] [] []) 2000 146 p146_10.1 Heap.empty) = some p146_10.2 := by kernel_rfl
theorem e147_1 : sealR (ev (EnA [] [] [p136_3] [p221_1] [] [] [] [] [] [] [] [] [] [] [] [] []) 2000 147 p147_1.1 Heap.empty) = some p147_1.2 := by kernel_rfl
theorem e147_5 : sealR (ev (EnA [] [] [p136_10] [p221_7] [] [] [] [] [] [] [] [] [] [] [] [] []) 2000 147 p147_5.1 Heap.empty) = some p147_5.2 := by kernel_rfl
theorem e221_1 : sealR (ev (EnA [] [] [] [] [] [] [] [] [] [] [] [] [] [] [] [] []) 2000 221 p221_1.1 Heap.empty) = some p221_1.2 := by kernel_rfl
end Go.Am
set_option maxRecDepth 100000
namespace Go.Am
open Go
theorem e14_1 : sealR (ev (EnA [] [] [] [] [] [] [] [] [] [] [] [] [] [] [] [] []) 2000 14 p14_1.1 Heap.empty) = some p14_1.2 := by kernel_rfl
theorem e40_1 : sealR (ev (EnA [p71_0] [] [p136_2] [] [] [] [] [] [] [] [] [] [] [] [] [] []) 2000 40 p40_1.1 Heap.empty) = some p40_1.2 := by kernel_rfl
theorem e40_11 : sealR (ev (EnA [] [] [] [] [] [] [] [] [] [] [] [] [] [] [] [] []) 2000 40 p40_11.1 Heap.empty) = some p40_11.2 := by kernel_rfl
theorem e41_0 : sealR (ev (EnA [] [] [] [] [] [] [] [] [] [] [] [] [] [] [] [] []) 2000 41 p41_0.1 Heap.empty) = some p41_0.2 := by kernel_rfl
theorem e41_8 : sealR (ev (EnA [] [] [] [] [] [] [] [] [] [] [] [] [] [] [] [] []) 2000 41 p41_8.1 Heap.empty) = some p41_8.2 := by kernel_rfl
theorem e42_10 : sealR (ev (EnA [] [] [] [] [] [] [] [] [] [] [] [] [] [] [] [] []) 2000 42 p42_10.1 Heap.empty) = some p42_10.2 := by kernel_rfl
theorem e84_3 : sealR (ev (EnA [] [] [] [] [] [] [] [] [] [] [] [] [] [] [] [] []) 2000 84 p84_3.1 Heap.empty) = some p84_3.2 := by kernel_rfl
theorem e136_7 : sealR (ev (EnA [] [] [] [] [] [] [] [] [] [] [] [] [] [] [] [] []) 2000 136 p136_7.1 Heap.empty) = some p136_7.2 := by kernel_rfl
theorem e138_3 : sealR (ev (EnA [] [] [p136_7] [] [] [] [] [] [] [] [] [] [] [] [] [] []) 2000 138 p138_3.1 Heap.empty) = some p138_3.2 := by kernel_rfl
theorem e146_1 : sealR (ev (EnA [] [] [] [] [] [] [] [] [] [] [] [] [] [] [] [] []) 2000 146 p146_1.1 Heap.empty) = some p146_1.2 := by kernel_rfl
theorem e146_5 : sealR (ev (EnA [] [] [] [] [] [] [] [] [] [] [] [] [] [] [] [] []) 2000 146 p146_5.1 Heap.empty) = some p146_5.2 := by kernel_rfl
theorem e146_14 : sealR (ev (EnA [] [] [] [] [] [] [] [] [] [] [] [] [] [] [] [] []) 2000 146 p146_14.1 Heap.empty) = some p146_14.2 := by kernel_rfl
theorem e155_5 : sealR (ev (EnA [] [p146_10] [p136_9] [] [] [] [] [] [] [] [] [] [] [] [] [] []) 2000 155 p155_5.1 Heap.empty) = some p155_5.2 := by kernel_rfl
theorem e158_2 : sealR (ev (EnA [] [] [] [] [] [] [] [] [] [] [] [] [] [] [] [] []) 2000 158 p158_2.1 Heap.empty) = some p158_2.2 := by kernel_rfl
theorem e158_3 : sealR (ev (EnA [] [] [] [] [] [] [] [] [] [] [] [] [] [] [] [] []) 2000 158 p158_3.1 Heap.empty) = some p158_3.2 := by kernel_rfl
theorem e158_5 : sealR (ev (EnA [] [] [] [] [] [] [] [] [] [] [] [] [] [] [] [] []) 2000 158 p158_5.1 Heap.empty) = some p158_5.2 := by kernel_rfl
theorem e163_1 : sealR (ev (EnA [] [] [] [] [] [] [] [] [] [] [p158_3] [] [] [] [] [] []) 2000 163 p163_1.1 Heap.empty) = some p163_1.2 := by kernel_rfl
theorem e221_5 : sealR (ev (EnA [] [] [] [] [] [] [] [] [] [] [] [] [] [] [] [] []) 2000 221 p221_5.1 Heap.empty) = some p221_5.2 := by kernel_rfl
theorem e221_6 : sealR (ev (EnA [] [] [] [] [] [] [] [] [] [] [] [] [] [] [] [] []) 2000 221 p221_6.1 Heap.empty) = some p221_6.2 := by kernel_rfl
theorem e221_7 : sealR (ev (EnA [] [] [] [] [] [] [] [] [] [] [] [] [] [] [] [] []) 2000 221 p221_7.1 Heap.empty) = some p221_7.2 := by kernel_rfl
end Go.Am
