import Derived.Test.YtpcijpelimgnmaaGreatDoorCTab
import Derived.KernelRfl
set_option linter.all false
set_option maxRecDepth 100000
namespace Go.Am
open Go
theorem e9_0 : sealR (ev (EnA [] [p146_6,p146_8,p146_9,p146_10,p146_11] [] [] [] [p40_3,p40_4,p40_5,p40_6] [p41_3,p41_4,p41_5,p41_6] [p42_3,p42_4,p42_5,p42_6] [p138_3,p138_4,p138_5] [p155_5,p155_6,p155_7,p155_8] [p158_5,p158_8] [p159_2,p159_3] [] [p84_3,p84_4,p84_5] [p163_2,p163_3] [p147_3,p147_4,p147_5] []) 2000 9 p9_0.1 Heap.empty) = some p9_0.2 := by kernel_rfl
theorem e14_4 : sealR (ev (EnA [] [] [] [] [] [] [] [] [] [] [] [] [] [] [] [] []) 2000 14 p14_4.1 Heap.empty) = some p14_4.2 := by kernel_rfl
theorem e40_2 : sealR (ev (EnA [] [] [] [] [] [] [] [] [] [] [] [] [] [] [] [] []) 2000 40 p40_2.1 Heap.empty) = some p40_2.2 := by kernel_rfl
theorem e40_7 : sealR (ev (EnA [] [] [] [] [] [] [] [] [] [] [] [] [] [] [] [] []) 2000 40 p40_7.1 Heap.empty) = some p40_7.2 := by kernel_rfl
theorem e41_6 : sealR (ev (EnA [] [] [] [] [] [] [] [] [] [] [] [] [] [] [] [] []) 2000 41 p41_6.1 Heap.empty) = some p41_6.2 := by kernel_rfl
theorem e41_12 : sealR (ev (EnA [] [] [] [] [] [] [] [] [] [] [] [] [] [] [] [] []) 2000 41 p41_12.1 Heap.empty) = some p41_12.2 := by kernel_rfl
theorem e41_16 : sealR (ev (EnA [] [] [] [] [] [] [] [] [] [] [] [] [] [] [] [] []) 2000 41 p41_16.1 Heap.empty) = some p41_16.2 := by kernel_rfl
theorem e42_11 : sealR (ev (EnA [] [] [] [] [] [] [] [] [] [] [] [] [] [] [] [] []) 2000 42 p42_11.1 Heap.empty) = some p42_11.2 := by kernel_rfl
theorem e42_20 : sealR (ev (EnA [] [] [] [] [] [] [] [] [] [] [] [] [] [] [] [] []) 2000 42 p42_20.1 Heap.empty) = some p42_20.2 := by kernel_rfl
theorem e84_1 : sealR (ev (EnA [] [] [] [] [] [] [] [] [] [] [] [] [] [] [] [] []) 2000 84 p84_1.1 Heap.empty) = some p84_1.2 := by kernel_rfl
theorem e84_9 : sealR (ev (EnA [] [] [] [] [] [] [] [] [] [] [] [] [] [] [] [] []) 2000 84 p84_9.1 Heap.empty) = some p84_9.2 := by kernel_rfl
theorem e99_0 : sealR (ev (EnA [] [] [p136_1,p136_2] [p221_1] [] [] [] [] [] [] [] [] [] [] [] [] []) 2000 99 p99_0.1 Heap.empty) = some p99_0.2 := by kernel_rfl
theorem e99_18 : sealR (ev (EnA [] [] [p136_46,p136_2] [p221_43] [] [] [] [] [] [] [] [] [] [] [] [] []) 2000 99 p99_18.1 Heap.empty) = some p99_18.2 := by kernel_rfl
theorem e99_20 : sealR (ev (EnA [] [] [p136_54,p136_24,p136_3,p136_4,p136_5,p136_2] [p221_51,p221_21,p221_2,p221_3,p221_4] [] [] [] [] [] [] [] [] [] [] [] [] []) 2000 99 p99_20.1 Heap.empty) = some p99_20.2 := by kernel_rfl
theorem e136_4 : sealR (ev (EnA [] [] [] [] [] [] [] [] [] [] [] [] [] [] [] [] []) 2000 136 p136_4.1 Heap.empty) = some p136_4.2 := by kernel_rfl
theorem e136_12 : sealR (ev (EnA [] [] [] [] [] [] [] [] [] [] [] [] [] [] [] [] []) 2000 136 p136_12.1 Heap.empty) = some p136_12.2 := by kernel_rfl
theorem e136_21 : sealR (ev (EnA [] [] [] [] [] [] [] [] [] [] [] [] [] [] [] [] []) 2000 136 p136_21.1 Heap.empty) = some p136_21.2 := by kernel_rfl
theorem e136_32 : sealR (ev (EnA [] [] [] [] [] [] [] [] [] [] [] [] [] [] [] [] []) 2000 136 p136_32.1 Heap.empty) = some p136_32.2 := by kernel_rfl
theorem e136_38 : sealR (ev (EnA [] [] [] [] [] [] [] [] [] [] [] [] [] [] [] [] []) 2000 136 p136_38.1 Heap.empty) = some p136_38.2 := by kernel_rfl
theorem e136_42 : sealR (ev (EnA [] [] [] [] [] [] [] [] [] [] [] [] [] [] [] [] []) 2000 136 p136_42.1 Heap.empty) = some p136_42.2 := by kernel_rfl
theorem e136_52 : sealR (ev (EnA [] [] [] [] [] [] [] [] [] [] [] [] [] [] [] [] []) 2000 136 p136_52.1 Heap.empty) = some p136_52.2 := by kernel_rfl
theorem e136_62 : sealR (ev (EnA [] [] [] [] [] [] [] [] [] [] [] [] [] [] [] [] []) 2000 136 p136_62.1 Heap.empty) = some p136_62.2 := by kernel_rfl
theorem e138_7 : sealR (ev (EnA [] [] [p136_26] [] [] [] [] [] [] [] [] [] [] [] [] [] []) 2000 138 p138_7.1 Heap.empty) = some p138_7.2 := by kernel_rfl
theorem e138_15 : sealR (ev (EnA [] [] [p136_56] [] [] [] [] [] [] [] [] [] [] [] [] [] []) 2000 138 p138_15.1 Heap.empty) = some p138_15.2 := by kernel_rfl
theorem e146_6 : sealR (ev (EnA [] [] [] [] [] [] [] [] [] [] [] [] [] [] [] [] []) 2000 146 p146_6.1 Heap.empty) = some p146_6.2 := by kernel_rfl
theorem e146_18 : sealR (ev (EnA [] [] [] [] [] [] [] [] [] [] [] [] [] [] [] [] []) 2000 146 p146_18.1 Heap.empty) = some p146_18.2 := by kernel_rfl
theorem e146_26 : sealR (ev (EnA [] [] [] [] [] [] [] [] [] [] [] [] [] [] [] [] []) 2000 146 p146_26.1 Heap.empty) = some p146_26.2 := by kernel_rfl
theorem e147_0 : sealR (ev (EnA [] [] [p136_0] [p221_0] [] [] [] [] [] [] [] [] [] [] [] [] []) 2000 147 p147_0.1 Heap.empty) = some p147_0.2 := by kernel_rfl
theorem e147_2 : sealR (ev (EnA [] [] [p136_13] [p221_12] [] [] [] [] [] [] [] [] [] [] [] [] []) 2000 147 p147_2.1 Heap.empty) = some p147_2.2 := by kernel_rfl
theorem e147_12 : sealR (ev (EnA [] [] [p136_44] [p221_41] [] [] [] [] [] [] [] [] [] [] [] [] []) 2000 147 p147_12.1 Heap.empty) = some p147_12.2 := by kernel_rfl
theorem e155_10 : sealR (ev (EnA [] [] [] [] [] [] [] [] [] [] [] [] [] [] [] [] []) 2000 155 p155_10.1 Heap.empty) = some p155_10.2 := by kernel_rfl
theorem e158_5 : sealR (ev (EnA [] [] [] [] [] [] [] [] [] [] [] [] [] [] [] [] []) 2000 158 p158_5.1 Heap.empty) = some p158_5.2 := by kernel_rfl
theorem e158_16 : sealR (ev (EnA [] [] [] [] [] [] [] [] [] [] [] [] [] [] [] [] []) 2000 158 p158_16.1 Heap.empty) = some p158_16.2 := by kernel_rfl
theorem e221_0 : sealR (ev (EnA [] [] [] [] [] [] [] [] [] [] [] [] [] [] [] [] []) 2000 221 p221_0.1 Heap.empty) = some p221_0.2 := by kernel_rfl
theorem e221_16 : sealR (ev (EnA [] [] [] [] [] [] [] [] [] [] [] [] [] [] [] [] []) 2000 221 p221_16.1 Heap.empty) = some p221_16.2 := by kernel_rfl
theorem e221_17 : sealR (ev (EnA [] [] [] [] [] [] [] [] [] [] [] [] [] [] [] [] []) 2000 221 p221_17.1 Heap.empty) = some p221_17.2 := by kernel_rfl
theorem e221_27 : sealR (ev (EnA [] [] [] [] [] [] [] [] [] [] [] [] [] [] [] [] []) 2000 221 p221_27.1 Heap.empty) = some p221_27.2 := by kernel_rfl
theorem e221_36 : sealR (ev (EnA [] [] [] [] [] [] [] [] [] [] [] [] [] [] [] [] []) 2000 221 p221_36.1 Heap.empty) = some p221_36.2 := by kernel_rfl
theorem e221_43 : sealR (ev (EnA [] [] [] [] [] [] [] [] [] [] [] [] [] [] [] [] []) 2000 221 p221_43.1 Heap.empty) = some p221_43.2 := by kernel_rfl
theorem e221_47 : sealR (ev (EnA [] [] [] [] [] [] [] [] [] [] [] [] [] [] [] [] []) 2000 221 p221_47.1 Heap.empty) = some p221_47.2 := by kernel_rfl
theorem e221_54 : sealR (ev (EnA [] [] [] [] [] [] [] [] [] [] [] [] [] [] [] [] []) 2000 221 p221_54.1 Heap.empty) = some p221_54.2 := by kernel_rfl
end Go.Am
set_option maxRecDepth 100000
namespace Go.Am
open Go
theorem e14_7 : sealR (ev (EnA [] [] [] [] [] [] [] [] [] [] [] [] [] [] [] [] []) 2000 14 p14_7.1 Heap.empty) = some p14_7.2 := by kernel_rfl
theorem e40_3 : sealR (ev (EnA [] [] [] [] [] [] [] [] [] [] [] [] [] [] [] [] []) 2000 40 p40_3.1 Heap.empty) = some p40_3.2 := by kernel_rfl
theorem e40_8 : sealR (ev (EnA [] [] [] [] [] [] [] [] [] [] [] [] [] [] [] [] []) 2000 40 p40_8.1 Heap.empty) = some p40_8.2 := by kernel_rfl
theorem e40_14 : sealR (ev (EnA [] [] [] [] [] [] [] [] [] [] [] [] [] [] [] [] []) 2000 40 p40_14.1 Heap.empty) = some p40_14.2 := by kernel_rfl
theorem e41_0 : sealR (ev (EnA [] [] [] [] [] [] [] [] [] [] [] [] [] [] [] [] []) 2000 41 p41_0.1 Heap.empty) = some p41_0.2 := by kernel_rfl
theorem e41_2 : sealR (ev (EnA [] [] [] [] [] [] [] [] [] [] [] [] [] [] [] [] []) 2000 41 p41_2.1 Heap.empty) = some p41_2.2 := by kernel_rfl
theorem e41_13 : sealR (ev (EnA [] [] [] [] [] [] [] [] [] [] [] [] [] [] [] [] []) 2000 41 p41_13.1 Heap.empty) = some p41_13.2 := by kernel_rfl
theorem e41_21 : sealR (ev (EnA [] [] [] [] [] [] [] [] [] [] [] [] [] [] [] [] []) 2000 41 p41_21.1 Heap.empty) = some p41_21.2 := by kernel_rfl
theorem e42_1 : sealR (ev (EnA [] [] [] [] [] [] [] [] [] [] [] [] [] [] [] [] []) 2000 42 p42_1.1 Heap.empty) = some p42_1.2 := by kernel_rfl
theorem e42_4 : sealR (ev (EnA [] [] [] [] [] [] [] [] [] [] [] [] [] [] [] [] []) 2000 42 p42_4.1 Heap.empty) = some p42_4.2 := by kernel_rfl
theorem e42_9 : sealR (ev (EnA [] [] [] [] [] [] [] [] [] [] [] [] [] [] [] [] []) 2000 42 p42_9.1 Heap.empty) = some p42_9.2 := by kernel_rfl
theorem e42_19 : sealR (ev (EnA [] [] [] [] [] [] [] [] [] [] [] [] [] [] [] [] []) 2000 42 p42_19.1 Heap.empty) = some p42_19.2 := by kernel_rfl
theorem e84_7 : sealR (ev (EnA [] [] [] [] [] [] [] [] [] [] [] [] [] [] [] [] []) 2000 84 p84_7.1 Heap.empty) = some p84_7.2 := by kernel_rfl
theorem e84_15 : sealR (ev (EnA [] [] [] [] [] [] [] [] [] [] [] [] [] [] [] [] []) 2000 84 p84_15.1 Heap.empty) = some p84_15.2 := by kernel_rfl
theorem e99_12 : sealR (ev (EnA [] [] [p136_31,p136_2] [p221_28] [] [] [] [] [] [] [] [] [] [] [] [] []) 2000 99 p99_12.1 Heap.empty) = some p99_12.2 := by kernel_rfl
theorem e99_24 : sealR (ev (EnA [] [] [p136_65,p136_2] [p221_62] [] [] [] [] [] [] [] [] [] [] [] [] []) 2000 99 p99_24.1 Heap.empty) = some p99_24.2 := by kernel_rfl
theorem e136_6 : sealR (ev (EnA [] [] [] [] [] [] [] [] [] [] [] [] [] [] [] [] []) 2000 136 p136_6.1 Heap.empty) = some p136_6.2 := by kernel_rfl
theorem e136_16 : sealR (ev (EnA [] [] [] [] [] [] [] [] [] [] [] [] [] [] [] [] []) 2000 136 p136_16.1 Heap.empty) = some p136_16.2 := by kernel_rfl
theorem e136_18 : sealR (ev (EnA [] [] [] [] [] [] [] [] [] [] [] [] [] [] [] [] []) 2000 136 p136_18.1 Heap.empty) = some p136_18.2 := by kernel_rfl
theorem e136_30 : sealR (ev (EnA [] [] [] [] [] [] [] [] [] [] [] [] [] [] [] [] []) 2000 136 p136_30.1 Heap.empty) = some p136_30.2 := by kernel_rfl
theorem e136_34 : sealR (ev (EnA [] [] [] [] [] [] [] [] [] [] [] [] [] [] [] [] []) 2000 136 p136_34.1 Heap.empty) = some p136_34.2 := by kernel_rfl
theorem e136_44 : sealR (ev (EnA [] [] [] [] [] [] [] [] [] [] [] [] [] [] [] [] []) 2000 136 p136_44.1 Heap.empty) = some p136_44.2 := by kernel_rfl
theorem e136_56 : sealR (ev (EnA [] [] [] [] [] [] [] [] [] [] [] [] [] [] [] [] []) 2000 136 p136_56.1 Heap.empty) = some p136_56.2 := by kernel_rfl
theorem e136_64 : sealR (ev (EnA [] [] [] [] [] [] [] [] [] [] [] [] [] [] [] [] []) 2000 136 p136_64.1 Heap.empty) = some p136_64.2 := by kernel_rfl
theorem e138_3 : sealR (ev (EnA [] [] [p136_15] [] [] [] [] [] [] [] [] [] [] [] [] [] []) 2000 138 p138_3.1 Heap.empty) = some p138_3.2 := by kernel_rfl
theorem e138_4 : sealR (ev (EnA [] [] [p136_17] [] [] [] [] [] [] [] [] [] [] [] [] [] []) 2000 138 p138_4.1 Heap.empty) = some p138_4.2 := by kernel_rfl
theorem e138_10 : sealR (ev (EnA [] [] [p136_36] [] [] [] [] [] [] [] [] [] [] [] [] [] []) 2000 138 p138_10.1 Heap.empty) = some p138_10.2 := by kernel_rfl
theorem e146_9 : sealR (ev (EnA [] [] [] [] [] [] [] [] [] [] [] [] [] [] [] [] []) 2000 146 p146_9.1 Heap.empty) = some p146_9.2 := by kernel_rfl
theorem e146_14 : sealR (ev (EnA [] [] [] [] [] [] [] [] [] [] [] [] [] [] [] [] []) 2000 146 p146_14.1 Heap.empty) = some p146_14.2 := by kernel_rfl
theorem e146_22 : sealR (ev (EnA [] [] [] [] [] [] [] [] [] [] [] [] [] [] [] [] []) 2000 146 p146_22.1 Heap.empty) = some p146_22.2 := by kernel_rfl
theorem e147_4 : sealR (ev (EnA [] [] [p136_17] [p221_14] [] [] [] [] [] [] [] [] [] [] [] [] []) 2000 147 p147_4.1 Heap.empty) = some p147_4.2 := by kernel_rfl
theorem e147_8 : sealR (ev (EnA [] [] [p136_29] [p221_26] [] [] [] [] [] [] [] [] [] [] [] [] []) 2000 147 p147_8.1 Heap.empty) = some p147_8.2 := by kernel_rfl
theorem e147_16 : sealR (ev (EnA [] [] [p136_63] [p221_60] [] [] [] [] [] [] [] [] [] [] [] [] []) 2000 147 p147_16.1 Heap.empty) = some p147_16.2 := by kernel_rfl
theorem e155_1 : sealR (ev (EnA [] [] [] [] [] [] [] [] [] [] [] [] [] [] [] [] []) 2000 155 p155_1.1 Heap.empty) = some p155_1.2 := by kernel_rfl
theorem e155_8 : sealR (ev (EnA [] [] [] [] [] [] [] [] [] [] [] [] [] [] [] [] []) 2000 155 p155_8.1 Heap.empty) = some p155_8.2 := by kernel_rfl
theorem e155_12 : sealR (ev (EnA [] [] [] [] [] [] [] [] [] [] [] [] [] [] [] [] []) 2000 155 p155_12.1 Heap.empty) = some p155_12.2 := by kernel_rfl
theorem e155_18 : sealR (ev (EnA [] [] [] [] [] [] [] [] [] [] [] [] [] [] [] [] []) 2000 155 p155_18.1 Heap.empty) = some p155_18.2 := by kernel_rfl
theorem e158_6 : sealR (ev (EnA [] [] [] [] [] [] [] [] [] [] [] [] [] [] [] [] []) 2000 158 p158_6.1 Heap.empty) = some p158_6.2 := by kernel_rfl
theorem e158_8 : sealR (ev (EnA [] [] [] [] [] [] [] [] [] [] [] [] [] [] [] [] []) 2000 158 p158_8.1 Heap.empty) = some p158_8.2 := by kernel_rfl
theorem e158_21 : sealR (ev (EnA [] [] [] [] [] [] [] [] [] [] [] [] [] [] [] [] []) 2000 158 p158_21.1 Heap.empty) = some p158_21.2 := by kernel_rfl
theorem e159_5 : sealR (ev (EnA [] [] [] [] [] [] [] [] [] [] [] [] [] [] [] [] []) 2000 159 p159_5.1 Heap.empty) = some p159_5.2 := by kernel_rfl
theorem e159_11 : sealR (ev (EnA [] [] [] [] [] [] [] [] [] [] [] [] [] [] [] [] []) 2000 159 p159_11.1 Heap.empty) = some p159_11.2 := by kernel_rfl
theorem e163_1 : sealR (ev (EnA [] [] [] [] [p99_0,p99_2] [] [] [] [] [] [p158_3,p158_4] [] [p14_0] [] [] [] []) 2000 163 p163_1.1 Heap.empty) = some p163_1.2 := by kernel_rfl
theorem e163_9 : sealR (ev (EnA [] [] [] [] [p99_16,p99_1] [] [] [] [] [] [p158_17,p158_1] [] [p14_0,p14_3,p14_4,p14_5] [] [] [] []) 2000 163 p163_9.1 Heap.empty) = some p163_9.2 := by kernel_rfl
theorem e221_23 : sealR (ev (EnA [] [] [] [] [] [] [] [] [] [] [] [] [] [] [] [] []) 2000 221 p221_23.1 Heap.empty) = some p221_23.2 := by kernel_rfl
theorem e221_44 : sealR (ev (EnA [] [] [] [] [] [] [] [] [] [] [] [] [] [] [] [] []) 2000 221 p221_44.1 Heap.empty) = some p221_44.2 := by kernel_rfl
theorem e221_48 : sealR (ev (EnA [] [] [] [] [] [] [] [] [] [] [] [] [] [] [] [] []) 2000 221 p221_48.1 Heap.empty) = some p221_48.2 := by kernel_rfl
theorem e221_51 : sealR (ev (EnA [] [] [] [] [] [] [] [] [] [] [] [] [] [] [] [] []) 2000 221 p221_51.1 Heap.empty) = some p221_51.2 := by kernel_rfl
theorem e221_60 : sealR (ev (EnA [] [] [] [] [] [] [] [] [] [] [] [] [] [] [] [] []) 2000 221 p221_60.1 Heap.empty) = some p221_60.2 := by kernel_rfl
end Go.Am
