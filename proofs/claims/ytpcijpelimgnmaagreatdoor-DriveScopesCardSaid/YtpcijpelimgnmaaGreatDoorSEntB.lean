import Derived.Test.YtpcijpelimgnmaaGreatDoorSTab
import Derived.KernelRfl
set_option linter.all false
set_option maxRecDepth 100000
namespace Go.Am
open Go
theorem e40_2 : sealR (ev (EnA [] [] [] [] [] [] [] [] [] [] [] [] [] [] [] [] []) 2000 40 p40_2.1 Heap.empty) = some p40_2.2 := by kernel_rfl
theorem e40_7 : sealR (ev (EnA [] [] [] [] [] [] [] [] [] [] [] [] [] [] [] [] []) 2000 40 p40_7.1 Heap.empty) = some p40_7.2 := by kernel_rfl
theorem e41_1 : sealR (ev (EnA [] [] [] [] [] [] [] [] [] [] [] [] [] [] [] [] []) 2000 41 p41_1.1 Heap.empty) = some p41_1.2 := by kernel_rfl
theorem e41_5 : sealR (ev (EnA [] [] [] [] [] [] [] [] [] [] [] [] [] [] [] [] []) 2000 41 p41_5.1 Heap.empty) = some p41_5.2 := by kernel_rfl
theorem e42_6 : sealR (ev (EnA [] [] [] [] [] [] [] [] [] [] [] [] [] [] [] [] []) 2000 42 p42_6.1 Heap.empty) = some p42_6.2 := by kernel_rfl
theorem e84_0 : sealR (ev (EnA [] [] [] [] [] [] [] [] [] [] [] [] [] [] [] [] []) 2000 84 p84_0.1 Heap.empty) = some p84_0.2 := by kernel_rfl
theorem e84_5 : sealR (ev (EnA [] [] [] [] [] [] [] [] [] [] [] [] [] [] [] [] []) 2000 84 p84_5.1 Heap.empty) = some p84_5.2 := by kernel_rfl
theorem e99_0 : sealR (ev (EnA [] [] [p136_6,p136_2] [p221_3] [] [] [] [] [] [] [] [] [] [] [] [] []) 2000 99 p99_0.1 Heap.empty) = some p99_0.2 := by kernel_rfl
theorem e136_8 : sealR (ev (EnA [] [] [] [] [] [] [] [] [] [] [] [] [] [] [] [] []) 2000 136 p136_8.1 Heap.empty) = some p136_8.2 := by kernel_rfl
theorem e138_0 : sealR (ev (EnA [] [] [p136_0] [] [] [] [] [] [] [] [] [] [] [] [] [] []) 2000 138 p138_0.1 Heap.empty) = some p138_0.2 := by kernel_rfl
theorem e138_4 : sealR (ev (EnA [] [] [p136_8] [] [] [] [] [] [] [] [] [] [] [] [] [] []) 2000 138 p138_4.1 Heap.empty) = some p138_4.2 := by kernel_rfl
theorem e146_3 : sealR (ev (EnA [] [] [] [] [] [] [] [] [] [] [] [] [] [] [] [] []) 2000 146 p146_3.1 Heap.empty) = some p146_3.2 := by kernel_rfl
theorem e146_12 : sealR (ev (EnA [] [] [] [] [] [] [] [] [] [] [] [] [] [] [] [] []) 2000 146 p146_12.1 Heap.empty) = some p146_12.2 := by kernel_rfl
theorem e147_2 : sealR (ev (EnA [] [] [p136_5] [p221_2] [] [] [] [] [] [] [] [] [] [] [] [] []) 2000 147 p147_2.1 Heap.empty) = some p147_2.2 := by kernel_rfl
theorem e147_4 : sealR (ev (EnA [] [] [p136_8] [p221_6] [] [] [] [] [] [] [] [] [] [] [] [] []) 2000 147 p147_4.1 Heap.empty) = some p147_4.2 := by kernel_rfl
theorem e155_3 : sealR (ev (EnA [] [] [] [] [] [] [] [] [] [] [] [] [] [] [] [] []) 2000 155 p155_3.1 Heap.empty) = some p155_3.2 := by kernel_rfl
theorem e155_7 : sealR (ev (EnA [] [p146_13] [p136_11] [] [] [] [] [] [] [] [] [] [] [] [] [] []) 2000 155 p155_7.1 Heap.empty) = some p155_7.2 := by kernel_rfl
theorem e158_4 : sealR (ev (EnA [] [] [] [] [] [] [] [] [] [] [] [] [] [] [] [] []) 2000 158 p158_4.1 Heap.empty) = some p158_4.2 := by kernel_rfl
theorem e221_8 : sealR (ev (EnA [] [] [] [] [] [] [] [] [] [] [] [] [] [] [] [] []) 2000 221 p221_8.1 Heap.empty) = some p221_8.2 := by kernel_rfl
end Go.Am
set_option maxRecDepth 100000
namespace Go.Am
open Go
theorem e40_3 : sealR (ev (EnA [p71_1] [] [p136_2] [] [] [] [] [] [] [] [] [] [] [] [] [] []) 2000 40 p40_3.1 Heap.empty) = some p40_3.2 := by kernel_rfl
theorem e40_4 : sealR (ev (EnA [] [] [] [] [] [] [] [] [] [] [] [] [] [] [] [] []) 2000 40 p40_4.1 Heap.empty) = some p40_4.2 := by kernel_rfl
theorem e40_8 : sealR (ev (EnA [] [] [] [] [] [] [] [] [] [] [] [] [] [] [] [] []) 2000 40 p40_8.1 Heap.empty) = some p40_8.2 := by kernel_rfl
theorem e41_2 : sealR (ev (EnA [] [] [] [] [] [] [] [] [] [] [] [] [] [] [] [] []) 2000 41 p41_2.1 Heap.empty) = some p41_2.2 := by kernel_rfl
theorem e41_11 : sealR (ev (EnA [] [] [] [] [] [] [] [] [] [] [] [] [] [] [] [] []) 2000 41 p41_11.1 Heap.empty) = some p41_11.2 := by kernel_rfl
theorem e42_2 : sealR (ev (EnA [] [] [] [] [] [] [] [] [] [] [] [] [] [] [] [] []) 2000 42 p42_2.1 Heap.empty) = some p42_2.2 := by kernel_rfl
theorem e42_5 : sealR (ev (EnA [] [] [] [] [] [] [] [] [] [] [] [] [] [] [] [] []) 2000 42 p42_5.1 Heap.empty) = some p42_5.2 := by kernel_rfl
theorem e84_6 : sealR (ev (EnA [] [] [] [] [] [] [] [] [] [] [] [] [] [] [] [] []) 2000 84 p84_6.1 Heap.empty) = some p84_6.2 := by kernel_rfl
theorem e99_3 : sealR (ev (EnA [] [] [p136_15,p136_16,p136_2] [p221_10,p221_11] [] [] [] [] [] [] [] [] [] [] [] [] []) 2000 99 p99_3.1 Heap.empty) = some p99_3.2 := by kernel_rfl
theorem e136_1 : sealR (ev (EnA [] [] [] [] [] [] [] [] [] [] [] [] [] [] [] [] []) 2000 136 p136_1.1 Heap.empty) = some p136_1.2 := by kernel_rfl
theorem e136_10 : sealR (ev (EnA [] [] [] [] [] [] [] [] [] [] [] [] [] [] [] [] []) 2000 136 p136_10.1 Heap.empty) = some p136_10.2 := by kernel_rfl
theorem e136_16 : sealR (ev (EnA [] [] [] [] [] [] [] [] [] [] [] [] [] [] [] [] []) 2000 136 p136_16.1 Heap.empty) = some p136_16.2 := by kernel_rfl
theorem e146_6 : sealR (ev (EnA [] [] [] [] [] [] [] [] [] [] [] [] [] [] [] [] []) 2000 146 p146_6.1 Heap.empty) = some p146_6.2 := by kernel_rfl
theorem e146_13 : sealR (ev (EnA [] [] [] [] [] [] [] [] [] [] [] [] [] [] [] [] []) 2000 146 p146_13.1 Heap.empty) = some p146_13.2 := by kernel_rfl
theorem e155_2 : sealR (ev (EnA [] [] [] [] [] [] [] [] [] [] [] [] [] [] [] [] []) 2000 155 p155_2.1 Heap.empty) = some p155_2.2 := by kernel_rfl
theorem e155_8 : sealR (ev (EnA [] [] [] [] [] [] [] [] [] [] [] [] [] [] [] [] []) 2000 155 p155_8.1 Heap.empty) = some p155_8.2 := by kernel_rfl
theorem e221_0 : sealR (ev (EnA [] [] [] [] [] [] [] [] [] [] [] [] [] [] [] [] []) 2000 221 p221_0.1 Heap.empty) = some p221_0.2 := by kernel_rfl
theorem e221_2 : sealR (ev (EnA [] [] [] [] [] [] [] [] [] [] [] [] [] [] [] [] []) 2000 221 p221_2.1 Heap.empty) = some p221_2.2 := by kernel_rfl
theorem e221_10 : sealR (ev (EnA [] [] [] [] [] [] [] [] [] [] [] [] [] [] [] [] []) 2000 221 p221_10.1 Heap.empty) = some p221_10.2 := by kernel_rfl
end Go.Am
