import Derived.Test.YtpcijpelimgnmaaGreatDoorSTab
import Derived.KernelRfl
set_option linter.all false
set_option maxRecDepth 100000
namespace Go.Am
open Go
theorem e14_2 : sealR (ev (EnA [] [] [] [] [] [] [] [] [] [] [] [] [] [] [] [] []) 2000 14 p14_2.1 Heap.empty) = some p14_2.2 := by kernel_rfl
theorem e40_0 : sealR (ev (EnA [] [] [] [] [] [] [] [] [] [] [] [] [] [] [] [] []) 2000 40 p40_0.1 Heap.empty) = some p40_0.2 := by kernel_rfl
theorem e40_6 : sealR (ev (EnA [] [] [] [] [] [] [] [] [] [] [] [] [] [] [] [] []) 2000 40 p40_6.1 Heap.empty) = some p40_6.2 := by kernel_rfl
theorem e41_6 : sealR (ev (EnA [] [] [] [] [] [] [] [] [] [] [] [] [] [] [] [] []) 2000 41 p41_6.1 Heap.empty) = some p41_6.2 := by kernel_rfl
theorem e41_9 : sealR (ev (EnA [] [] [] [] [] [] [] [] [] [] [] [] [] [] [] [] []) 2000 41 p41_9.1 Heap.empty) = some p41_9.2 := by kernel_rfl
theorem e42_0 : sealR (ev (EnA [] [] [] [] [] [] [] [] [] [] [] [] [] [] [] [] []) 2000 42 p42_0.1 Heap.empty) = some p42_0.2 := by kernel_rfl
theorem e42_3 : sealR (ev (EnA [] [] [] [] [] [] [] [] [] [] [] [] [] [] [] [] []) 2000 42 p42_3.1 Heap.empty) = some p42_3.2 := by kernel_rfl
theorem e42_4 : sealR (ev (EnA [] [] [] [] [] [] [] [] [] [] [] [] [] [] [] [] []) 2000 42 p42_4.1 Heap.empty) = some p42_4.2 := by kernel_rfl
theorem e42_12 : sealR (ev (EnA [] [] [] [] [] [] [] [] [] [] [] [] [] [] [] [] []) 2000 42 p42_12.1 Heap.empty) = some p42_12.2 := by kernel_rfl
theorem e84_1 : sealR (ev (EnA [] [] [] [] [] [] [] [] [] [] [] [] [] [] [] [] []) 2000 84 p84_1.1 Heap.empty) = some p84_1.2 := by kernel_rfl
theorem e136_4 : sealR (ev (EnA [] [] [] [] [] [] [] [] [] [] [] [] [] [] [] [] []) 2000 136 p136_4.1 Heap.empty) = some p136_4.2 := by kernel_rfl
theorem e136_6 : sealR (ev (EnA [] [] [] [] [] [] [] [] [] [] [] [] [] [] [] [] []) 2000 136 p136_6.1 Heap.empty) = some p136_6.2 := by kernel_rfl
theorem e136_15 : sealR (ev (EnA [] [] [] [] [] [] [] [] [] [] [] [] [] [] [] [] []) 2000 136 p136_15.1 Heap.empty) = some p136_15.2 := by kernel_rfl
theorem e138_1 : sealR (ev (EnA [] [] [p136_3] [] [] [] [] [] [] [] [] [] [] [] [] [] []) 2000 138 p138_1.1 Heap.empty) = some p138_1.2 := by kernel_rfl
theorem e146_7 : sealR (ev (EnA [] [] [] [] [] [] [] [] [] [] [] [] [] [] [] [] []) 2000 146 p146_7.1 Heap.empty) = some p146_7.2 := by kernel_rfl
theorem e147_3 : sealR (ev (EnA [] [] [p136_7] [p221_5] [] [] [] [] [] [] [] [] [] [] [] [] []) 2000 147 p147_3.1 Heap.empty) = some p147_3.2 := by kernel_rfl
theorem e155_0 : sealR (ev (EnA [] [p146_1] [p136_1] [] [] [] [] [] [] [] [] [] [] [] [] [] []) 2000 155 p155_0.1 Heap.empty) = some p155_0.2 := by kernel_rfl
theorem e158_1 : sealR (ev (EnA [] [] [] [] [] [] [] [] [] [] [] [] [] [] [] [] []) 2000 158 p158_1.1 Heap.empty) = some p158_1.2 := by kernel_rfl
theorem e221_9 : sealR (ev (EnA [] [] [] [] [] [] [] [] [] [] [] [] [] [] [] [] []) 2000 221 p221_9.1 Heap.empty) = some p221_9.2 := by kernel_rfl
end Go.Am
set_option maxRecDepth 100000
namespace Go.Am
open Go
theorem e40_12 : sealR (ev (EnA [] [] [] [] [] [] [] [] [] [] [] [] [] [] [] [] []) 2000 40 p40_12.1 Heap.empty) = some p40_12.2 := by kernel_rfl
theorem e41_10 : sealR (ev (EnA [] [] [] [] [] [] [] [] [] [] [] [] [] [] [] [] []) 2000 41 p41_10.1 Heap.empty) = some p41_10.2 := by kernel_rfl
theorem e42_8 : sealR (ev (EnA [] [] [] [] [] [] [] [] [] [] [] [] [] [] [] [] []) 2000 42 p42_8.1 Heap.empty) = some p42_8.2 := by kernel_rfl
theorem e42_9 : sealR (ev (EnA [] [] [] [] [] [] [] [] [] [] [] [] [] [] [] [] []) 2000 42 p42_9.1 Heap.empty) = some p42_9.2 := by kernel_rfl
theorem e71_0 : sealR (ev (EnA [] [] [] [] [] [] [] [] [] [] [] [] [] [] [] [] []) 2000 71 p71_0.1 Heap.empty) = some p71_0.2 := by kernel_rfl
theorem e71_1 : sealR (ev (EnA [] [] [] [] [] [] [] [] [] [] [] [] [] [] [] [] []) 2000 71 p71_1.1 Heap.empty) = some p71_1.2 := by kernel_rfl
theorem e84_4 : sealR (ev (EnA [] [] [] [] [] [] [] [] [] [] [] [] [] [] [] [] []) 2000 84 p84_4.1 Heap.empty) = some p84_4.2 := by kernel_rfl
theorem e99_1 : sealR (ev (EnA [] [] [p136_4,p136_2] [p221_4] [] [] [] [] [] [] [] [] [] [] [] [] []) 2000 99 p99_1.1 Heap.empty) = some p99_1.2 := by kernel_rfl
theorem e136_11 : sealR (ev (EnA [] [] [] [] [] [] [] [] [] [] [] [] [] [] [] [] []) 2000 136 p136_11.1 Heap.empty) = some p136_11.2 := by kernel_rfl
theorem e136_13 : sealR (ev (EnA [] [] [] [] [] [] [] [] [] [] [] [] [] [] [] [] []) 2000 136 p136_13.1 Heap.empty) = some p136_13.2 := by kernel_rfl
theorem e146_4 : sealR (ev (EnA [] [] [] [] [] [] [] [] [] [] [] [] [] [] [] [] []) 2000 146 p146_4.1 Heap.empty) = some p146_4.2 := by kernel_rfl
theorem e146_9 : sealR (ev (EnA [] [] [] [] [] [] [] [] [] [] [] [] [] [] [] [] []) 2000 146 p146_9.1 Heap.empty) = some p146_9.2 := by kernel_rfl
theorem e155_1 : sealR (ev (EnA [] [p146_4] [p136_4] [] [] [] [] [] [] [] [] [] [] [] [] [] []) 2000 155 p155_1.1 Heap.empty) = some p155_1.2 := by kernel_rfl
theorem e155_4 : sealR (ev (EnA [] [] [] [] [] [] [] [] [] [] [] [] [] [] [] [] []) 2000 155 p155_4.1 Heap.empty) = some p155_4.2 := by kernel_rfl
theorem e155_9 : sealR (ev (EnA [] [p146_13] [p136_14] [] [] [] [] [] [] [] [] [] [] [] [] [] []) 2000 155 p155_9.1 Heap.empty) = some p155_9.2 := by kernel_rfl
theorem e159_0 : sealR (ev (EnA [] [] [] [] [] [] [] [] [] [] [] [] [] [] [] [] []) 2000 159 p159_0.1 Heap.empty) = some p159_0.2 := by kernel_rfl
theorem e159_1 : sealR (ev (EnA [] [] [] [] [] [] [] [] [] [] [] [] [] [] [] [] []) 2000 159 p159_1.1 Heap.empty) = some p159_1.2 := by kernel_rfl
theorem e159_2 : sealR (ev (EnA [] [] [] [] [] [] [] [] [] [] [] [] [] [] [] [] []) 2000 159 p159_2.1 Heap.empty) = some p159_2.2 := by kernel_rfl
theorem e221_11 : sealR (ev (EnA [] [] [] [] [] [] [] [] [] [] [] [] [] [] [] [] []) 2000 221 p221_11.1 Heap.empty) = some p221_11.2 := by kernel_rfl
end Go.Am
