import Derived.Test.YtpcijpelimgnmaaGreatDoorSTab
import Derived.KernelRfl
set_option linter.all false
set_option maxRecDepth 100000
namespace Go.Am
open Go
theorem e9_0 : sealR (ev (EnA [] [p146_3,p146_5,p146_6,p146_7,p146_8] [] [] [] [p40_2,p40_3,p40_4,p40_5] [p41_2,p41_3,p41_4,p41_5] [p42_2,p42_3,p42_4,p42_5] [p138_1,p138_2,p138_3] [p155_1,p155_2,p155_3,p155_4] [p158_0,p158_3] [p159_0,p159_1] [] [p84_1,p84_2,p84_3] [p163_0,p163_1] [p147_1,p147_2,p147_3] []) 2000 9 p9_0.1 Heap.empty) = some p9_0.2 := by kernel_rfl
end Go.Am
set_option maxRecDepth 100000
namespace Go.Am
open Go
theorem e40_5 : sealR (ev (EnA [] [] [] [] [] [] [] [] [] [] [] [] [] [] [] [] []) 2000 40 p40_5.1 Heap.empty) = some p40_5.2 := by kernel_rfl
theorem e41_3 : sealR (ev (EnA [] [] [] [] [] [] [] [] [] [] [] [] [] [] [] [] []) 2000 41 p41_3.1 Heap.empty) = some p41_3.2 := by kernel_rfl
theorem e41_7 : sealR (ev (EnA [] [] [] [] [] [] [] [] [] [] [] [] [] [] [] [] []) 2000 41 p41_7.1 Heap.empty) = some p41_7.2 := by kernel_rfl
theorem e42_1 : sealR (ev (EnA [] [] [] [] [] [] [] [] [] [] [] [] [] [] [] [] []) 2000 42 p42_1.1 Heap.empty) = some p42_1.2 := by kernel_rfl
theorem e42_11 : sealR (ev (EnA [] [] [] [] [] [] [] [] [] [] [] [] [] [] [] [] []) 2000 42 p42_11.1 Heap.empty) = some p42_11.2 := by kernel_rfl
theorem e84_2 : sealR (ev (EnA [] [] [] [] [] [] [] [] [] [] [] [] [] [] [] [] []) 2000 84 p84_2.1 Heap.empty) = some p84_2.2 := by kernel_rfl
theorem e136_2 : sealR (ev (EnA [] [] [] [] [] [] [] [] [] [] [] [] [] [] [] [] []) 2000 136 p136_2.1 Heap.empty) = some p136_2.2 := by kernel_rfl
theorem e136_3 : sealR (ev (EnA [] [] [] [] [] [] [] [] [] [] [] [] [] [] [] [] []) 2000 136 p136_3.1 Heap.empty) = some p136_3.2 := by kernel_rfl
theorem e136_12 : sealR (ev (EnA [] [] [] [] [] [] [] [] [] [] [] [] [] [] [] [] []) 2000 136 p136_12.1 Heap.empty) = some p136_12.2 := by kernel_rfl
theorem e136_14 : sealR (ev (EnA [] [] [] [] [] [] [] [] [] [] [] [] [] [] [] [] []) 2000 136 p136_14.1 Heap.empty) = some p136_14.2 := by kernel_rfl
theorem e138_5 : sealR (ev (EnA [] [] [p136_10] [] [] [] [] [] [] [] [] [] [] [] [] [] []) 2000 138 p138_5.1 Heap.empty) = some p138_5.2 := by kernel_rfl
theorem e146_2 : sealR (ev (EnA [] [] [] [] [] [] [] [] [] [] [] [] [] [] [] [] []) 2000 146 p146_2.1 Heap.empty) = some p146_2.2 := by kernel_rfl
theorem e146_11 : sealR (ev (EnA [] [] [] [] [] [] [] [] [] [] [] [] [] [] [] [] []) 2000 146 p146_11.1 Heap.empty) = some p146_11.2 := by kernel_rfl
theorem e147_0 : sealR (ev (EnA [] [] [p136_0] [p221_0] [] [] [] [] [] [] [] [] [] [] [] [] []) 2000 147 p147_0.1 Heap.empty) = some p147_0.2 := by kernel_rfl
theorem e147_6 : sealR (ev (EnA [] [] [p136_13] [p221_9] [] [] [] [] [] [] [] [] [] [] [] [] []) 2000 147 p147_6.1 Heap.empty) = some p147_6.2 := by kernel_rfl
theorem e155_6 : sealR (ev (EnA [] [] [] [] [] [] [] [] [] [] [] [] [] [] [] [] []) 2000 155 p155_6.1 Heap.empty) = some p155_6.2 := by kernel_rfl
theorem e158_0 : sealR (ev (EnA [] [] [] [] [] [] [] [] [] [] [] [] [] [] [] [] []) 2000 158 p158_0.1 Heap.empty) = some p158_0.2 := by kernel_rfl
theorem e163_0 : sealR (ev (EnA [] [] [] [] [p99_0,p99_1] [] [] [] [] [] [p158_1,p158_2] [] [p14_0] [] [] [] []) 2000 163 p163_0.1 Heap.empty) = some p163_0.2 := by kernel_rfl
theorem e221_3 : sealR (ev (EnA [] [] [] [] [] [] [] [] [] [] [] [] [] [] [] [] []) 2000 221 p221_3.1 Heap.empty) = some p221_3.2 := by kernel_rfl
theorem e221_4 : sealR (ev (EnA [] [] [] [] [] [] [] [] [] [] [] [] [] [] [] [] []) 2000 221 p221_4.1 Heap.empty) = some p221_4.2 := by kernel_rfl
end Go.Am
