import Derived.Test.YtpcijpelimgnmaaGreatDoorCTab
import Derived.KernelRfl
set_option linter.all false
set_option maxRecDepth 100000
namespace Go.Am
open Go
theorem e40_16 : sealR (ev (EnA [] [] [] [] [] [] [] [] [] [] [] [] [] [] [] [] []) 2000 40 p40_16.1 Heap.empty) = some p40_16.2 := by kernel_rfl
theorem e40_19 : sealR (ev (EnA [] [] [] [] [] [] [] [] [] [] [] [] [] [] [] [] []) 2000 40 p40_19.1 Heap.empty) = some p40_19.2 := by kernel_rfl
theorem e41_3 : sealR (ev (EnA [] [] [] [] [] [] [] [] [] [] [] [] [] [] [] [] []) 2000 41 p41_3.1 Heap.empty) = some p41_3.2 := by kernel_rfl
theorem e41_14 : sealR (ev (EnA [] [] [] [] [] [] [] [] [] [] [] [] [] [] [] [] []) 2000 41 p41_14.1 Heap.empty) = some p41_14.2 := by kernel_rfl
theorem e41_22 : sealR (ev (EnA [] [] [] [] [] [] [] [] [] [] [] [] [] [] [] [] []) 2000 41 p41_22.1 Heap.empty) = some p41_22.2 := by kernel_rfl
theorem e42_3 : sealR (ev (EnA [] [] [] [] [] [] [] [] [] [] [] [] [] [] [] [] []) 2000 42 p42_3.1 Heap.empty) = some p42_3.2 := by kernel_rfl
theorem e42_14 : sealR (ev (EnA [] [] [] [] [] [] [] [] [] [] [] [] [] [] [] [] []) 2000 42 p42_14.1 Heap.empty) = some p42_14.2 := by kernel_rfl
theorem e42_22 : sealR (ev (EnA [] [] [] [] [] [] [] [] [] [] [] [] [] [] [] [] []) 2000 42 p42_22.1 Heap.empty) = some p42_22.2 := by kernel_rfl
theorem e84_8 : sealR (ev (EnA [] [] [] [] [] [] [] [] [] [] [] [] [] [] [] [] []) 2000 84 p84_8.1 Heap.empty) = some p84_8.2 := by kernel_rfl
theorem e84_16 : sealR (ev (EnA [] [] [] [] [] [] [] [] [] [] [] [] [] [] [] [] []) 2000 84 p84_16.1 Heap.empty) = some p84_16.2 := by kernel_rfl
theorem e99_4 : sealR (ev (EnA [] [] [p136_16,p136_2] [p221_16] [] [] [] [] [] [] [] [] [] [] [] [] []) 2000 99 p99_4.1 Heap.empty) = some p99_4.2 := by kernel_rfl
theorem e99_6 : sealR (ev (EnA [] [] [p136_2] [] [] [] [] [] [] [] [] [] [] [] [] [] []) 2000 99 p99_6.1 Heap.empty) = some p99_6.2 := by kernel_rfl
theorem e99_8 : sealR (ev (EnA [] [] [p136_23,p136_24,p136_3,p136_4,p136_5,p136_2] [p221_20,p221_21,p221_2,p221_3,p221_4] [] [] [] [] [] [] [] [] [] [] [] [] []) 2000 99 p99_8.1 Heap.empty) = some p99_8.2 := by kernel_rfl
theorem e99_14 : sealR (ev (EnA [] [] [p136_37,p136_24,p136_3,p136_4,p136_5,p136_2] [p221_34,p221_21,p221_2,p221_3,p221_4] [] [] [] [] [] [] [] [] [] [] [] [] []) 2000 99 p99_14.1 Heap.empty) = some p99_14.2 := by kernel_rfl
theorem e136_0 : sealR (ev (EnA [] [] [] [] [] [] [] [] [] [] [] [] [] [] [] [] []) 2000 136 p136_0.1 Heap.empty) = some p136_0.2 := by kernel_rfl
theorem e136_3 : sealR (ev (EnA [] [] [] [] [] [] [] [] [] [] [] [] [] [] [] [] []) 2000 136 p136_3.1 Heap.empty) = some p136_3.2 := by kernel_rfl
theorem e136_11 : sealR (ev (EnA [] [] [] [] [] [] [] [] [] [] [] [] [] [] [] [] []) 2000 136 p136_11.1 Heap.empty) = some p136_11.2 := by kernel_rfl
theorem e136_20 : sealR (ev (EnA [] [] [] [] [] [] [] [] [] [] [] [] [] [] [] [] []) 2000 136 p136_20.1 Heap.empty) = some p136_20.2 := by kernel_rfl
theorem e136_29 : sealR (ev (EnA [] [] [] [] [] [] [] [] [] [] [] [] [] [] [] [] []) 2000 136 p136_29.1 Heap.empty) = some p136_29.2 := by kernel_rfl
theorem e136_37 : sealR (ev (EnA [] [] [] [] [] [] [] [] [] [] [] [] [] [] [] [] []) 2000 136 p136_37.1 Heap.empty) = some p136_37.2 := by kernel_rfl
theorem e136_41 : sealR (ev (EnA [] [] [] [] [] [] [] [] [] [] [] [] [] [] [] [] []) 2000 136 p136_41.1 Heap.empty) = some p136_41.2 := by kernel_rfl
theorem e136_51 : sealR (ev (EnA [] [] [] [] [] [] [] [] [] [] [] [] [] [] [] [] []) 2000 136 p136_51.1 Heap.empty) = some p136_51.2 := by kernel_rfl
theorem e136_61 : sealR (ev (EnA [] [] [] [] [] [] [] [] [] [] [] [] [] [] [] [] []) 2000 136 p136_61.1 Heap.empty) = some p136_61.2 := by kernel_rfl
theorem e138_5 : sealR (ev (EnA [] [] [p136_19] [] [] [] [] [] [] [] [] [] [] [] [] [] []) 2000 138 p138_5.1 Heap.empty) = some p138_5.2 := by kernel_rfl
theorem e138_13 : sealR (ev (EnA [] [] [p136_47] [] [] [] [] [] [] [] [] [] [] [] [] [] []) 2000 138 p138_13.1 Heap.empty) = some p138_13.2 := by kernel_rfl
theorem e146_3 : sealR (ev (EnA [] [] [] [] [] [] [] [] [] [] [] [] [] [] [] [] []) 2000 146 p146_3.1 Heap.empty) = some p146_3.2 := by kernel_rfl
theorem e146_7 : sealR (ev (EnA [] [] [] [] [] [] [] [] [] [] [] [] [] [] [] [] []) 2000 146 p146_7.1 Heap.empty) = some p146_7.2 := by kernel_rfl
theorem e146_16 : sealR (ev (EnA [] [] [] [] [] [] [] [] [] [] [] [] [] [] [] [] []) 2000 146 p146_16.1 Heap.empty) = some p146_16.2 := by kernel_rfl
theorem e146_24 : sealR (ev (EnA [] [] [] [] [] [] [] [] [] [] [] [] [] [] [] [] []) 2000 146 p146_24.1 Heap.empty) = some p146_24.2 := by kernel_rfl
theorem e147_10 : sealR (ev (EnA [] [] [p136_36] [p221_33] [] [] [] [] [] [] [] [] [] [] [] [] []) 2000 147 p147_10.1 Heap.empty) = some p147_10.2 := by kernel_rfl
theorem e155_14 : sealR (ev (EnA [] [] [] [] [] [] [] [] [] [] [] [] [] [] [] [] []) 2000 155 p155_14.1 Heap.empty) = some p155_14.2 := by kernel_rfl
theorem e158_1 : sealR (ev (EnA [] [] [] [] [] [] [] [] [] [] [] [] [] [] [] [] []) 2000 158 p158_1.1 Heap.empty) = some p158_1.2 := by kernel_rfl
theorem e158_2 : sealR (ev (EnA [] [] [] [] [] [] [] [] [] [] [] [] [] [] [] [] []) 2000 158 p158_2.1 Heap.empty) = some p158_2.2 := by kernel_rfl
theorem e158_18 : sealR (ev (EnA [] [] [] [] [] [] [] [] [] [] [] [] [] [] [] [] []) 2000 158 p158_18.1 Heap.empty) = some p158_18.2 := by kernel_rfl
theorem e159_1 : sealR (ev (EnA [] [] [] [] [] [] [] [] [] [] [] [] [] [] [] [] []) 2000 159 p159_1.1 Heap.empty) = some p159_1.2 := by kernel_rfl
theorem e159_7 : sealR (ev (EnA [] [] [] [] [] [] [] [] [] [] [] [] [] [] [] [] []) 2000 159 p159_7.1 Heap.empty) = some p159_7.2 := by kernel_rfl
theorem e159_10 : sealR (ev (EnA [] [] [] [] [] [] [] [] [] [] [] [] [] [] [] [] []) 2000 159 p159_10.1 Heap.empty) = some p159_10.2 := by kernel_rfl
theorem e159_12 : sealR (ev (EnA [] [] [] [] [] [] [] [] [] [] [] [] [] [] [] [] []) 2000 159 p159_12.1 Heap.empty) = some p159_12.2 := by kernel_rfl
theorem e163_4 : sealR (ev (EnA [] [] [] [] [p99_5,p99_6] [] [] [] [] [] [p158_9,p158_10] [] [p14_2] [] [] [] []) 2000 163 p163_4.1 Heap.empty) = some p163_4.2 := by kernel_rfl
theorem e163_7 : sealR (ev (EnA [] [] [] [] [p99_13,p99_1] [] [] [] [] [] [p158_14,p158_1] [] [p14_0,p14_3,p14_4] [] [] [] []) 2000 163 p163_7.1 Heap.empty) = some p163_7.2 := by kernel_rfl
theorem e221_4 : sealR (ev (EnA [] [] [] [] [] [] [] [] [] [] [] [] [] [] [] [] []) 2000 221 p221_4.1 Heap.empty) = some p221_4.2 := by kernel_rfl
theorem e221_6 : sealR (ev (EnA [] [] [] [] [] [] [] [] [] [] [] [] [] [] [] [] []) 2000 221 p221_6.1 Heap.empty) = some p221_6.2 := by kernel_rfl
theorem e221_7 : sealR (ev (EnA [] [] [] [] [] [] [] [] [] [] [] [] [] [] [] [] []) 2000 221 p221_7.1 Heap.empty) = some p221_7.2 := by kernel_rfl
theorem e221_15 : sealR (ev (EnA [] [] [] [] [] [] [] [] [] [] [] [] [] [] [] [] []) 2000 221 p221_15.1 Heap.empty) = some p221_15.2 := by kernel_rfl
theorem e221_19 : sealR (ev (EnA [] [] [] [] [] [] [] [] [] [] [] [] [] [] [] [] []) 2000 221 p221_19.1 Heap.empty) = some p221_19.2 := by kernel_rfl
theorem e221_28 : sealR (ev (EnA [] [] [] [] [] [] [] [] [] [] [] [] [] [] [] [] []) 2000 221 p221_28.1 Heap.empty) = some p221_28.2 := by kernel_rfl
theorem e221_29 : sealR (ev (EnA [] [] [] [] [] [] [] [] [] [] [] [] [] [] [] [] []) 2000 221 p221_29.1 Heap.empty) = some p221_29.2 := by kernel_rfl
theorem e221_38 : sealR (ev (EnA [] [] [] [] [] [] [] [] [] [] [] [] [] [] [] [] []) 2000 221 p221_38.1 Heap.empty) = some p221_38.2 := by kernel_rfl
theorem e221_49 : sealR (ev (EnA [] [] [] [] [] [] [] [] [] [] [] [] [] [] [] [] []) 2000 221 p221_49.1 Heap.empty) = some p221_49.2 := by kernel_rfl
theorem e221_50 : sealR (ev (EnA [] [] [] [] [] [] [] [] [] [] [] [] [] [] [] [] []) 2000 221 p221_50.1 Heap.empty) = some p221_50.2 := by kernel_rfl
end Go.Am
set_option maxRecDepth 100000
namespace Go.Am
open Go
theorem e14_0 : sealR (ev (EnA [] [] [] [] [] [] [] [] [] [] [] [] [] [] [] [] []) 2000 14 p14_0.1 Heap.empty) = some p14_0.2 := by kernel_rfl
theorem e14_6 : sealR (ev (EnA [] [] [] [] [] [] [] [] [] [] [] [] [] [] [] [] []) 2000 14 p14_6.1 Heap.empty) = some p14_6.2 := by kernel_rfl
theorem e40_9 : sealR (ev (EnA [] [] [] [] [] [] [] [] [] [] [] [] [] [] [] [] []) 2000 40 p40_9.1 Heap.empty) = some p40_9.2 := by kernel_rfl
theorem e40_17 : sealR (ev (EnA [] [] [] [] [] [] [] [] [] [] [] [] [] [] [] [] []) 2000 40 p40_17.1 Heap.empty) = some p40_17.2 := by kernel_rfl
theorem e41_7 : sealR (ev (EnA [] [] [] [] [] [] [] [] [] [] [] [] [] [] [] [] []) 2000 41 p41_7.1 Heap.empty) = some p41_7.2 := by kernel_rfl
theorem e41_17 : sealR (ev (EnA [] [] [] [] [] [] [] [] [] [] [] [] [] [] [] [] []) 2000 41 p41_17.1 Heap.empty) = some p41_17.2 := by kernel_rfl
theorem e42_8 : sealR (ev (EnA [] [] [] [] [] [] [] [] [] [] [] [] [] [] [] [] []) 2000 42 p42_8.1 Heap.empty) = some p42_8.2 := by kernel_rfl
theorem e42_18 : sealR (ev (EnA [] [] [] [] [] [] [] [] [] [] [] [] [] [] [] [] []) 2000 42 p42_18.1 Heap.empty) = some p42_18.2 := by kernel_rfl
theorem e84_2 : sealR (ev (EnA [] [] [] [] [] [] [] [] [] [] [] [] [] [] [] [] []) 2000 84 p84_2.1 Heap.empty) = some p84_2.2 := by kernel_rfl
theorem e84_10 : sealR (ev (EnA [] [] [] [] [] [] [] [] [] [] [] [] [] [] [] [] []) 2000 84 p84_10.1 Heap.empty) = some p84_10.2 := by kernel_rfl
theorem e99_3 : sealR (ev (EnA [] [] [p136_18,p136_2] [p221_15] [] [] [] [] [] [] [] [] [] [] [] [] []) 2000 99 p99_3.1 Heap.empty) = some p99_3.2 := by kernel_rfl
theorem e99_15 : sealR (ev (EnA [] [] [p136_38,p136_2] [p221_35] [] [] [] [] [] [] [] [] [] [] [] [] []) 2000 99 p99_15.1 Heap.empty) = some p99_15.2 := by kernel_rfl
theorem e99_22 : sealR (ev (EnA [] [] [p136_57,p136_58,p136_59,p136_60,p136_61,p136_62,p136_2] [p221_54,p221_55,p221_56,p221_57,p221_58,p221_59] [] [] [] [] [] [] [] [] [] [] [] [] []) 2000 99 p99_22.1 Heap.empty) = some p99_22.2 := by kernel_rfl
theorem e99_23 : sealR (ev (EnA [] [] [p136_64,p136_24,p136_3,p136_4,p136_5,p136_2] [p221_61,p221_21,p221_2,p221_3,p221_4] [] [] [] [] [] [] [] [] [] [] [] [] []) 2000 99 p99_23.1 Heap.empty) = some p99_23.2 := by kernel_rfl
theorem e136_8 : sealR (ev (EnA [] [] [] [] [] [] [] [] [] [] [] [] [] [] [] [] []) 2000 136 p136_8.1 Heap.empty) = some p136_8.2 := by kernel_rfl
theorem e136_17 : sealR (ev (EnA [] [] [] [] [] [] [] [] [] [] [] [] [] [] [] [] []) 2000 136 p136_17.1 Heap.empty) = some p136_17.2 := by kernel_rfl
theorem e136_23 : sealR (ev (EnA [] [] [] [] [] [] [] [] [] [] [] [] [] [] [] [] []) 2000 136 p136_23.1 Heap.empty) = some p136_23.2 := by kernel_rfl
theorem e136_26 : sealR (ev (EnA [] [] [] [] [] [] [] [] [] [] [] [] [] [] [] [] []) 2000 136 p136_26.1 Heap.empty) = some p136_26.2 := by kernel_rfl
theorem e136_36 : sealR (ev (EnA [] [] [] [] [] [] [] [] [] [] [] [] [] [] [] [] []) 2000 136 p136_36.1 Heap.empty) = some p136_36.2 := by kernel_rfl
theorem e136_48 : sealR (ev (EnA [] [] [] [] [] [] [] [] [] [] [] [] [] [] [] [] []) 2000 136 p136_48.1 Heap.empty) = some p136_48.2 := by kernel_rfl
theorem e136_54 : sealR (ev (EnA [] [] [] [] [] [] [] [] [] [] [] [] [] [] [] [] []) 2000 136 p136_54.1 Heap.empty) = some p136_54.2 := by kernel_rfl
theorem e136_58 : sealR (ev (EnA [] [] [] [] [] [] [] [] [] [] [] [] [] [] [] [] []) 2000 136 p136_58.1 Heap.empty) = some p136_58.2 := by kernel_rfl
theorem e138_2 : sealR (ev (EnA [] [] [p136_13] [] [] [] [] [] [] [] [] [] [] [] [] [] []) 2000 138 p138_2.1 Heap.empty) = some p138_2.2 := by kernel_rfl
theorem e138_9 : sealR (ev (EnA [] [] [p136_32] [] [] [] [] [] [] [] [] [] [] [] [] [] []) 2000 138 p138_9.1 Heap.empty) = some p138_9.2 := by kernel_rfl
theorem e146_2 : sealR (ev (EnA [] [] [] [] [] [] [] [] [] [] [] [] [] [] [] [] []) 2000 146 p146_2.1 Heap.empty) = some p146_2.2 := by kernel_rfl
theorem e146_4 : sealR (ev (EnA [] [] [] [] [] [] [] [] [] [] [] [] [] [] [] [] []) 2000 146 p146_4.1 Heap.empty) = some p146_4.2 := by kernel_rfl
theorem e146_11 : sealR (ev (EnA [] [] [] [] [] [] [] [] [] [] [] [] [] [] [] [] []) 2000 146 p146_11.1 Heap.empty) = some p146_11.2 := by kernel_rfl
theorem e146_20 : sealR (ev (EnA [] [] [] [] [] [] [] [] [] [] [] [] [] [] [] [] []) 2000 146 p146_20.1 Heap.empty) = some p146_20.2 := by kernel_rfl
theorem e147_3 : sealR (ev (EnA [] [] [p136_15] [p221_13] [] [] [] [] [] [] [] [] [] [] [] [] []) 2000 147 p147_3.1 Heap.empty) = some p147_3.2 := by kernel_rfl
theorem e147_5 : sealR (ev (EnA [] [] [p136_19] [p221_17] [] [] [] [] [] [] [] [] [] [] [] [] []) 2000 147 p147_5.1 Heap.empty) = some p147_5.2 := by kernel_rfl
theorem e147_9 : sealR (ev (EnA [] [] [p136_32] [p221_29] [] [] [] [] [] [] [] [] [] [] [] [] []) 2000 147 p147_9.1 Heap.empty) = some p147_9.2 := by kernel_rfl
theorem e155_11 : sealR (ev (EnA [] [] [] [] [] [] [] [] [] [] [] [] [] [] [] [] []) 2000 155 p155_11.1 Heap.empty) = some p155_11.2 := by kernel_rfl
theorem e155_15 : sealR (ev (EnA [] [] [] [] [] [] [] [] [] [] [] [] [] [] [] [] []) 2000 155 p155_15.1 Heap.empty) = some p155_15.2 := by kernel_rfl
theorem e155_19 : sealR (ev (EnA [] [] [] [] [] [] [] [] [] [] [] [] [] [] [] [] []) 2000 155 p155_19.1 Heap.empty) = some p155_19.2 := by kernel_rfl
theorem e158_11 : sealR (ev (EnA [] [] [] [] [] [] [] [] [] [] [] [] [] [] [] [] []) 2000 158 p158_11.1 Heap.empty) = some p158_11.2 := by kernel_rfl
theorem e158_19 : sealR (ev (EnA [] [] [] [] [] [] [] [] [] [] [] [] [] [] [] [] []) 2000 158 p158_19.1 Heap.empty) = some p158_19.2 := by kernel_rfl
theorem e158_23 : sealR (ev (EnA [] [] [] [] [] [] [] [] [] [] [] [] [] [] [] [] []) 2000 158 p158_23.1 Heap.empty) = some p158_23.2 := by kernel_rfl
theorem e159_0 : sealR (ev (EnA [] [] [] [] [] [] [] [] [] [] [] [] [] [] [] [] []) 2000 159 p159_0.1 Heap.empty) = some p159_0.2 := by kernel_rfl
theorem e159_4 : sealR (ev (EnA [] [] [] [] [] [] [] [] [] [] [] [] [] [] [] [] []) 2000 159 p159_4.1 Heap.empty) = some p159_4.2 := by kernel_rfl
theorem e163_10 : sealR (ev (EnA [] [] [] [] [p99_16,p99_2] [] [] [] [] [] [p158_19,p158_4] [] [p14_0,p14_3,p14_4,p14_5] [] [] [] []) 2000 163 p163_10.1 Heap.empty) = some p163_10.2 := by kernel_rfl
theorem e163_11 : sealR (ev (EnA [] [] [] [] [p99_19,p99_1] [] [] [] [] [] [p158_20,p158_1] [] [p14_0,p14_3,p14_4,p14_5,p14_6] [] [] [] []) 2000 163 p163_11.1 Heap.empty) = some p163_11.2 := by kernel_rfl
theorem e163_14 : sealR (ev (EnA [] [] [] [] [p99_22,p99_2] [] [] [] [] [] [p158_25,p158_4] [] [p14_0,p14_3,p14_4,p14_5,p14_6,p14_7] [] [] [] []) 2000 163 p163_14.1 Heap.empty) = some p163_14.2 := by kernel_rfl
theorem e221_8 : sealR (ev (EnA [] [] [] [] [] [] [] [] [] [] [] [] [] [] [] [] []) 2000 221 p221_8.1 Heap.empty) = some p221_8.2 := by kernel_rfl
theorem e221_12 : sealR (ev (EnA [] [] [] [] [] [] [] [] [] [] [] [] [] [] [] [] []) 2000 221 p221_12.1 Heap.empty) = some p221_12.2 := by kernel_rfl
theorem e221_30 : sealR (ev (EnA [] [] [] [] [] [] [] [] [] [] [] [] [] [] [] [] []) 2000 221 p221_30.1 Heap.empty) = some p221_30.2 := by kernel_rfl
theorem e221_37 : sealR (ev (EnA [] [] [] [] [] [] [] [] [] [] [] [] [] [] [] [] []) 2000 221 p221_37.1 Heap.empty) = some p221_37.2 := by kernel_rfl
theorem e221_40 : sealR (ev (EnA [] [] [] [] [] [] [] [] [] [] [] [] [] [] [] [] []) 2000 221 p221_40.1 Heap.empty) = some p221_40.2 := by kernel_rfl
theorem e221_55 : sealR (ev (EnA [] [] [] [] [] [] [] [] [] [] [] [] [] [] [] [] []) 2000 221 p221_55.1 Heap.empty) = some p221_55.2 := by kernel_rfl
theorem e221_61 : sealR (ev (EnA [] [] [] [] [] [] [] [] [] [] [] [] [] [] [] [] []) 2000 221 p221_61.1 Heap.empty) = some p221_61.2 := by kernel_rfl
theorem e221_62 : sealR (ev (EnA [] [] [] [] [] [] [] [] [] [] [] [] [] [] [] [] []) 2000 221 p221_62.1 Heap.empty) = some p221_62.2 := by kernel_rfl
end Go.Am
