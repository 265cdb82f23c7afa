import Derived.Test.YtpcijpelimgnmaaGreatDoorCTab
import Derived.KernelRfl
set_option linter.all false
set_option maxRecDepth 100000
namespace Go.Am
open Go
theorem c11 : isT (ev (EnA [] [p146_12,p146_25,p146_26,p146_27,p146_3,p146_5] [] [] [p99_7,p99_6,p99_8,p99_9,p99_11,p99_12,p99_14,p99_15,p99_17,p99_18,p99_20,p99_21,p99_23,p99_24] [p40_7,p40_21,p40_22,p40_2,p40_8,p40_9,p40_10,p40_11,p40_12] [p41_7,p41_21,p41_22,p41_2,p41_8,p41_9,p41_10,p41_11,p41_12] [p42_7,p42_21,p42_22,p42_2,p42_8,p42_9,p42_10,p42_11,p42_12] [p138_6,p138_15,p138_16,p138_2] [p155_9,p155_10,p155_19,p155_1,p155_20,p155_3,p155_4] [p158_9,p158_23,p158_24] [p159_4,p159_13,p159_14] [] [p84_6,p84_15,p84_16,p84_2] [p163_4,p163_13,p163_14] [p147_6,p147_15,p147_16,p147_2] [p9_0]) 2000 3 [(.md [(6,5)]), (.bool false)] Heap.empty) = true := by kernel_rfl
end Go.Am
set_option maxRecDepth 100000
namespace Go.Am
open Go
theorem c0 : isT (ev (EnA [] [p146_0,p146_1,p146_2,p146_3,p146_5] [] [] [] [p40_0,p40_1,p40_2] [p41_0,p41_1,p41_2] [p42_0,p42_1,p42_2] [p138_0,p138_1,p138_2] [p155_0,p155_1,p155_2,p155_3,p155_4] [p158_0,p158_2] [p159_0,p159_1] [] [p84_0,p84_1,p84_2] [p163_0,p163_1] [p147_0,p147_1,p147_2] [p9_0]) 2000 3 [(.md [(6,0)]), (.bool true)] Heap.empty) = true := by kernel_rfl
end Go.Am
