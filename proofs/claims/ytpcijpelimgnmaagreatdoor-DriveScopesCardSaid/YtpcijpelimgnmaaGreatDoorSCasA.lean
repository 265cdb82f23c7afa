import Derived.Test.YtpcijpelimgnmaaGreatDoorSTab
import Derived.KernelRfl
set_option linter.all false
set_option maxRecDepth 100000
namespace Go.Am
open Go
theorem c0 : isT (ev (EnA [] [p146_0,p146_2] [] [] [] [p40_0,p40_1] [p41_0,p41_1] [p42_0,p42_1] [p138_0] [p155_0] [] [] [] [p84_0] [] [p147_0] [p9_0]) 2000 4 [(.md [(8,0)]), (.md [(3,0)])] Heap.empty) = true := by kernel_rfl
theorem c1 : isT (ev (EnA [] [p146_0,p146_2] [] [] [] [p40_0,p40_1] [p41_0,p41_1] [p42_0,p42_1] [p138_0] [p155_0] [] [] [] [p84_0] [] [p147_0] [p9_0]) 2000 4 [(.md [(8,0)]), (.md [(3,1)])] Heap.empty) = true := by kernel_rfl
end Go.Am
set_option maxRecDepth 100000
namespace Go.Am
open Go
theorem c5 : isT (ev (EnA [] [p146_9,p146_11,p146_0,p146_2] [] [] [] [p40_6,p40_0,p40_1,p40_7] [p41_6,p41_0,p41_1,p41_7] [p42_6,p42_0,p42_1,p42_7] [p138_4,p138_0] [p155_5,p155_0] [] [] [] [p84_4,p84_0] [] [p147_4,p147_0] [p9_0]) 2000 4 [(.md [(8,1)]), (.md [(3,2)])] Heap.empty) = true := by kernel_rfl
theorem c6 : isT (ev (EnA [] [p146_12,p146_11,p146_0,p146_2] [] [] [p99_2] [p40_8,p40_6,p40_0,p40_1,p40_9,p40_10] [p41_8,p41_6,p41_0,p41_1,p41_9,p41_10] [p42_8,p42_6,p42_0,p42_1,p42_9,p42_10] [p138_5,p138_0] [p155_6,p155_7,p155_0] [p158_4] [p159_2] [p14_1] [p84_5,p84_0] [] [p147_5,p147_0] [p9_0]) 2000 4 [(.md [(8,2)]), (.md [(3,0)])] Heap.empty) = true := by kernel_rfl
theorem c15 : isT (ev (EnA [] [p146_9,p146_11,p146_14,p146_0,p146_2] [] [] [p99_3] [p40_6,p40_11,p40_12,p40_0,p40_1] [p41_6,p41_11,p41_12,p41_0,p41_1] [p42_6,p42_11,p42_12,p42_0,p42_1] [p138_4,p138_6,p138_0] [p155_5,p155_8,p155_9,p155_0] [p158_5] [p159_2] [p14_2,p14_3] [p84_4,p84_6,p84_0] [] [p147_4,p147_6,p147_0] [p9_0]) 2000 4 [(.md [(8,5)]), (.md [(3,0)])] Heap.empty) = true := by kernel_rfl
end Go.Am
