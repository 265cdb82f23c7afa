import Derived.Test.YtpcijpelimgnmaaGreatDoorCTab
import Derived.KernelRfl
set_option linter.all false
set_option maxRecDepth 100000
namespace Go.Am
open Go
theorem c9 : isT (ev (EnA [] [p146_12,p146_22,p146_23,p146_24,p146_3,p146_5] [] [] [p99_7,p99_6,p99_8,p99_9,p99_11,p99_12,p99_14,p99_15,p99_17,p99_18,p99_20,p99_21] [p40_7,p40_19,p40_20,p40_2,p40_8,p40_9,p40_10,p40_11,p40_12] [p41_7,p41_19,p41_20,p41_2,p41_8,p41_9,p41_10,p41_11,p41_12] [p42_7,p42_19,p42_20,p42_2,p42_8,p42_9,p42_10,p42_11,p42_12] [p138_6,p138_13,p138_14,p138_2] [p155_9,p155_10,p155_17,p155_1,p155_18,p155_3,p155_4] [p158_9,p158_20,p158_21] [p159_4,p159_11,p159_12] [] [p84_6,p84_13,p84_14,p84_2] [p163_4,p163_11,p163_12] [p147_6,p147_13,p147_14,p147_2] [p9_0]) 2000 3 [(.md [(6,4)]), (.bool false)] Heap.empty) = true := by kernel_rfl
end Go.Am
set_option maxRecDepth 100000
namespace Go.Am
open Go
theorem c7 : isT (ev (EnA [] [p146_12,p146_19,p146_20,p146_21,p146_3,p146_5] [] [] [p99_7,p99_6,p99_8,p99_9,p99_11,p99_12,p99_14,p99_15,p99_17,p99_18] [p40_7,p40_17,p40_18,p40_2,p40_8,p40_9,p40_10,p40_11,p40_12] [p41_7,p41_17,p41_18,p41_2,p41_8,p41_9,p41_10,p41_11,p41_12] [p42_7,p42_17,p42_18,p42_2,p42_8,p42_9,p42_10,p42_11,p42_12] [p138_6,p138_11,p138_12,p138_2] [p155_9,p155_10,p155_15,p155_1,p155_16,p155_3,p155_4] [p158_9,p158_17,p158_18] [p159_4,p159_9,p159_10] [] [p84_6,p84_11,p84_12,p84_2] [p163_4,p163_9,p163_10] [p147_6,p147_11,p147_12,p147_2] [p9_0]) 2000 3 [(.md [(6,3)]), (.bool false)] Heap.empty) = true := by kernel_rfl
end Go.Am
