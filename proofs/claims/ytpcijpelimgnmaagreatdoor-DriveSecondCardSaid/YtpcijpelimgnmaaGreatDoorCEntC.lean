import Derived.Test.YtpcijpelimgnmaaGreatDoorCTab
import Derived.KernelRfl
set_option linter.all false
set_option maxRecDepth 100000
namespace Go.Am
open Go
theorem e14_1 : sealR (ev (EnA [] [] [] [] [] [] [] [] [] [] [] [] [] [] [] [] []) 2000 14 p14_1.1 Heap.empty) = some p14_1.2 := by kernel_rfl
theorem e40_10 : sealR (ev (EnA [p71_1] [] [p136_2] [] [] [] [] [] [] [] [] [] [] [] [] [] []) 2000 40 p40_10.1 Heap.empty) = some p40_10.2 := by kernel_rfl
theorem e40_13 : sealR (ev (EnA [] [] [] [] [] [] [] [] [] [] [] [] [] [] [] [] []) 2000 40 p40_13.1 Heap.empty) = some p40_13.2 := by kernel_rfl
theorem e40_18 : sealR (ev (EnA [] [] [] [] [] [] [] [] [] [] [] [] [] [] [] [] []) 2000 40 p40_18.1 Heap.empty) = some p40_18.2 := by kernel_rfl
theorem e41_8 : sealR (ev (EnA [] [] [] [] [] [] [] [] [] [] [] [] [] [] [] [] []) 2000 41 p41_8.1 Heap.empty) = some p41_8.2 := by kernel_rfl
theorem e41_18 : sealR (ev (EnA [] [] [] [] [] [] [] [] [] [] [] [] [] [] [] [] []) 2000 41 p41_18.1 Heap.empty) = some p41_18.2 := by kernel_rfl
theorem e42_6 : sealR (ev (EnA [] [] [] [] [] [] [] [] [] [] [] [] [] [] [] [] []) 2000 42 p42_6.1 Heap.empty) = some p42_6.2 := by kernel_rfl
theorem e42_16 : sealR (ev (EnA [] [] [] [] [] [] [] [] [] [] [] [] [] [] [] [] []) 2000 42 p42_16.1 Heap.empty) = some p42_16.2 := by kernel_rfl
theorem e71_0 : sealR (ev (EnA [] [] [] [] [] [] [] [] [] [] [] [] [] [] [] [] []) 2000 71 p71_0.1 Heap.empty) = some p71_0.2 := by kernel_rfl
theorem e84_3 : sealR (ev (EnA [] [] [] [] [] [] [] [] [] [] [] [] [] [] [] [] []) 2000 84 p84_3.1 Heap.empty) = some p84_3.2 := by kernel_rfl
theorem e84_11 : sealR (ev (EnA [] [] [] [] [] [] [] [] [] [] [] [] [] [] [] [] []) 2000 84 p84_11.1 Heap.empty) = some p84_11.2 := by kernel_rfl
theorem e99_1 : sealR (ev (EnA [] [] [p136_3,p136_4,p136_5,p136_2] [p221_2,p221_3,p221_4] [] [] [] [] [] [] [] [] [] [] [] [] []) 2000 99 p99_1.1 Heap.empty) = some p99_1.2 := by kernel_rfl
theorem e99_7 : sealR (ev (EnA [] [] [p136_22,p136_4,p136_5,p136_2] [p221_2,p221_3,p221_4] [] [] [] [] [] [] [] [] [] [] [] [] []) 2000 99 p99_7.1 Heap.empty) = some p99_7.2 := by kernel_rfl
theorem e99_9 : sealR (ev (EnA [] [] [p136_25,p136_2] [p221_22] [] [] [] [] [] [] [] [] [] [] [] [] []) 2000 99 p99_9.1 Heap.empty) = some p99_9.2 := by kernel_rfl
theorem e99_17 : sealR (ev (EnA [] [] [p136_45,p136_24,p136_3,p136_4,p136_5,p136_2] [p221_42,p221_21,p221_2,p221_3,p221_4] [] [] [] [] [] [] [] [] [] [] [] [] []) 2000 99 p99_17.1 Heap.empty) = some p99_17.2 := by kernel_rfl
theorem e99_21 : sealR (ev (EnA [] [] [p136_55,p136_2] [p221_52] [] [] [] [] [] [] [] [] [] [] [] [] []) 2000 99 p99_21.1 Heap.empty) = some p99_21.2 := by kernel_rfl
theorem e136_7 : sealR (ev (EnA [] [] [] [] [] [] [] [] [] [] [] [] [] [] [] [] []) 2000 136 p136_7.1 Heap.empty) = some p136_7.2 := by kernel_rfl
theorem e136_24 : sealR (ev (EnA [] [] [] [] [] [] [] [] [] [] [] [] [] [] [] [] []) 2000 136 p136_24.1 Heap.empty) = some p136_24.2 := by kernel_rfl
theorem e136_25 : sealR (ev (EnA [] [] [] [] [] [] [] [] [] [] [] [] [] [] [] [] []) 2000 136 p136_25.1 Heap.empty) = some p136_25.2 := by kernel_rfl
theorem e136_35 : sealR (ev (EnA [] [] [] [] [] [] [] [] [] [] [] [] [] [] [] [] []) 2000 136 p136_35.1 Heap.empty) = some p136_35.2 := by kernel_rfl
theorem e136_47 : sealR (ev (EnA [] [] [] [] [] [] [] [] [] [] [] [] [] [] [] [] []) 2000 136 p136_47.1 Heap.empty) = some p136_47.2 := by kernel_rfl
theorem e136_55 : sealR (ev (EnA [] [] [] [] [] [] [] [] [] [] [] [] [] [] [] [] []) 2000 136 p136_55.1 Heap.empty) = some p136_55.2 := by kernel_rfl
theorem e136_57 : sealR (ev (EnA [] [] [] [] [] [] [] [] [] [] [] [] [] [] [] [] []) 2000 136 p136_57.1 Heap.empty) = some p136_57.2 := by kernel_rfl
theorem e138_14 : sealR (ev (EnA [] [] [p136_53] [] [] [] [] [] [] [] [] [] [] [] [] [] []) 2000 138 p138_14.1 Heap.empty) = some p138_14.2 := by kernel_rfl
theorem e146_10 : sealR (ev (EnA [] [] [] [] [] [] [] [] [] [] [] [] [] [] [] [] []) 2000 146 p146_10.1 Heap.empty) = some p146_10.2 := by kernel_rfl
theorem e146_13 : sealR (ev (EnA [] [] [] [] [] [] [] [] [] [] [] [] [] [] [] [] []) 2000 146 p146_13.1 Heap.empty) = some p146_13.2 := by kernel_rfl
theorem e146_21 : sealR (ev (EnA [] [] [] [] [] [] [] [] [] [] [] [] [] [] [] [] []) 2000 146 p146_21.1 Heap.empty) = some p146_21.2 := by kernel_rfl
theorem e147_7 : sealR (ev (EnA [] [] [p136_26] [p221_23] [] [] [] [] [] [] [] [] [] [] [] [] []) 2000 147 p147_7.1 Heap.empty) = some p147_7.2 := by kernel_rfl
theorem e147_15 : sealR (ev (EnA [] [] [p136_56] [p221_53] [] [] [] [] [] [] [] [] [] [] [] [] []) 2000 147 p147_15.1 Heap.empty) = some p147_15.2 := by kernel_rfl
theorem e155_3 : sealR (ev (EnA [] [] [] [] [] [] [] [] [] [] [] [] [] [] [] [] []) 2000 155 p155_3.1 Heap.empty) = some p155_3.2 := by kernel_rfl
theorem e155_5 : sealR (ev (EnA [] [p146_7] [p136_16] [] [] [] [] [] [] [] [] [] [] [] [] [] []) 2000 155 p155_5.1 Heap.empty) = some p155_5.2 := by kernel_rfl
theorem e155_7 : sealR (ev (EnA [] [] [] [] [] [] [] [] [] [] [] [] [] [] [] [] []) 2000 155 p155_7.1 Heap.empty) = some p155_7.2 := by kernel_rfl
theorem e155_9 : sealR (ev (EnA [] [] [] [] [] [] [] [] [] [] [] [] [] [] [] [] []) 2000 155 p155_9.1 Heap.empty) = some p155_9.2 := by kernel_rfl
theorem e155_13 : sealR (ev (EnA [] [] [] [] [] [] [] [] [] [] [] [] [] [] [] [] []) 2000 155 p155_13.1 Heap.empty) = some p155_13.2 := by kernel_rfl
theorem e158_7 : sealR (ev (EnA [] [] [] [] [] [] [] [] [] [] [] [] [] [] [] [] []) 2000 158 p158_7.1 Heap.empty) = some p158_7.2 := by kernel_rfl
theorem e158_10 : sealR (ev (EnA [] [] [] [] [] [] [] [] [] [] [] [] [] [] [] [] []) 2000 158 p158_10.1 Heap.empty) = some p158_10.2 := by kernel_rfl
theorem e158_15 : sealR (ev (EnA [] [] [] [] [] [] [] [] [] [] [] [] [] [] [] [] []) 2000 158 p158_15.1 Heap.empty) = some p158_15.2 := by kernel_rfl
theorem e158_17 : sealR (ev (EnA [] [] [] [] [] [] [] [] [] [] [] [] [] [] [] [] []) 2000 158 p158_17.1 Heap.empty) = some p158_17.2 := by kernel_rfl
theorem e158_24 : sealR (ev (EnA [] [] [] [] [] [] [] [] [] [] [] [] [] [] [] [] []) 2000 158 p158_24.1 Heap.empty) = some p158_24.2 := by kernel_rfl
theorem e163_0 : sealR (ev (EnA [] [] [] [] [p99_0,p99_1] [] [] [] [] [] [p158_0,p158_1] [] [p14_0] [] [] [] []) 2000 163 p163_0.1 Heap.empty) = some p163_0.2 := by kernel_rfl
theorem e163_2 : sealR (ev (EnA [] [] [] [] [p99_3,p99_4] [] [] [] [] [] [p158_6,p158_7] [] [p14_1] [] [] [] []) 2000 163 p163_2.1 Heap.empty) = some p163_2.2 := by kernel_rfl
theorem e221_3 : sealR (ev (EnA [] [] [] [] [] [] [] [] [] [] [] [] [] [] [] [] []) 2000 221 p221_3.1 Heap.empty) = some p221_3.2 := by kernel_rfl
theorem e221_9 : sealR (ev (EnA [] [] [] [] [] [] [] [] [] [] [] [] [] [] [] [] []) 2000 221 p221_9.1 Heap.empty) = some p221_9.2 := by kernel_rfl
theorem e221_10 : sealR (ev (EnA [] [] [] [] [] [] [] [] [] [] [] [] [] [] [] [] []) 2000 221 p221_10.1 Heap.empty) = some p221_10.2 := by kernel_rfl
theorem e221_21 : sealR (ev (EnA [] [] [] [] [] [] [] [] [] [] [] [] [] [] [] [] []) 2000 221 p221_21.1 Heap.empty) = some p221_21.2 := by kernel_rfl
theorem e221_25 : sealR (ev (EnA [] [] [] [] [] [] [] [] [] [] [] [] [] [] [] [] []) 2000 221 p221_25.1 Heap.empty) = some p221_25.2 := by kernel_rfl
theorem e221_31 : sealR (ev (EnA [] [] [] [] [] [] [] [] [] [] [] [] [] [] [] [] []) 2000 221 p221_31.1 Heap.empty) = some p221_31.2 := by kernel_rfl
theorem e221_41 : sealR (ev (EnA [] [] [] [] [] [] [] [] [] [] [] [] [] [] [] [] []) 2000 221 p221_41.1 Heap.empty) = some p221_41.2 := by kernel_rfl
theorem e221_42 : sealR (ev (EnA [] [] [] [] [] [] [] [] [] [] [] [] [] [] [] [] []) 2000 221 p221_42.1 Heap.empty) = some p221_42.2 := by kernel_rfl
theorem e221_56 : sealR (ev (EnA [] [] [] [] [] [] [] [] [] [] [] [] [] [] [] [] []) 2000 221 p221_56.1 Heap.empty) = some p221_56.2 := by kernel_rfl
end Go.Am
set_option maxRecDepth 100000
namespace Go.Am
open Go
theorem e14_2 : sealR (ev (EnA [] [] [] [] [] [] [] [] [] [] [] [] [] [] [] [] []) 2000 14 p14_2.1 Heap.empty) = some p14_2.2 := by kernel_rfl
theorem e40_4 : sealR (ev (EnA [p71_0] [] [p136_2] [] [] [] [] [] [] [] [] [] [] [] [] [] []) 2000 40 p40_4.1 Heap.empty) = some p40_4.2 := by kernel_rfl
theorem e40_5 : sealR (ev (EnA [] [] [] [] [] [] [] [] [] [] [] [] [] [] [] [] []) 2000 40 p40_5.1 Heap.empty) = some p40_5.2 := by kernel_rfl
theorem e40_15 : sealR (ev (EnA [] [] [] [] [] [] [] [] [] [] [] [] [] [] [] [] []) 2000 40 p40_15.1 Heap.empty) = some p40_15.2 := by kernel_rfl
theorem e40_22 : sealR (ev (EnA [] [] [] [] [] [] [] [] [] [] [] [] [] [] [] [] []) 2000 40 p40_22.1 Heap.empty) = some p40_22.2 := by kernel_rfl
theorem e41_9 : sealR (ev (EnA [] [] [] [] [] [] [] [] [] [] [] [] [] [] [] [] []) 2000 41 p41_9.1 Heap.empty) = some p41_9.2 := by kernel_rfl
theorem e41_19 : sealR (ev (EnA [] [] [] [] [] [] [] [] [] [] [] [] [] [] [] [] []) 2000 41 p41_19.1 Heap.empty) = some p41_19.2 := by kernel_rfl
theorem e42_2 : sealR (ev (EnA [] [] [] [] [] [] [] [] [] [] [] [] [] [] [] [] []) 2000 42 p42_2.1 Heap.empty) = some p42_2.2 := by kernel_rfl
theorem e42_13 : sealR (ev (EnA [] [] [] [] [] [] [] [] [] [] [] [] [] [] [] [] []) 2000 42 p42_13.1 Heap.empty) = some p42_13.2 := by kernel_rfl
theorem e42_21 : sealR (ev (EnA [] [] [] [] [] [] [] [] [] [] [] [] [] [] [] [] []) 2000 42 p42_21.1 Heap.empty) = some p42_21.2 := by kernel_rfl
theorem e84_4 : sealR (ev (EnA [] [] [] [] [] [] [] [] [] [] [] [] [] [] [] [] []) 2000 84 p84_4.1 Heap.empty) = some p84_4.2 := by kernel_rfl
theorem e84_12 : sealR (ev (EnA [] [] [] [] [] [] [] [] [] [] [] [] [] [] [] [] []) 2000 84 p84_12.1 Heap.empty) = some p84_12.2 := by kernel_rfl
theorem e99_10 : sealR (ev (EnA [] [] [p136_27,p136_28,p136_2] [p221_24,p221_25] [] [] [] [] [] [] [] [] [] [] [] [] []) 2000 99 p99_10.1 Heap.empty) = some p99_10.2 := by kernel_rfl
theorem e99_11 : sealR (ev (EnA [] [] [p136_30,p136_24,p136_3,p136_4,p136_5,p136_2] [p221_27,p221_21,p221_2,p221_3,p221_4] [] [] [] [] [] [] [] [] [] [] [] [] []) 2000 99 p99_11.1 Heap.empty) = some p99_11.2 := by kernel_rfl
theorem e136_1 : sealR (ev (EnA [] [] [] [] [] [] [] [] [] [] [] [] [] [] [] [] []) 2000 136 p136_1.1 Heap.empty) = some p136_1.2 := by kernel_rfl
theorem e136_2 : sealR (ev (EnA [] [] [] [] [] [] [] [] [] [] [] [] [] [] [] [] []) 2000 136 p136_2.1 Heap.empty) = some p136_2.2 := by kernel_rfl
theorem e136_10 : sealR (ev (EnA [] [] [] [] [] [] [] [] [] [] [] [] [] [] [] [] []) 2000 136 p136_10.1 Heap.empty) = some p136_10.2 := by kernel_rfl
theorem e136_19 : sealR (ev (EnA [] [] [] [] [] [] [] [] [] [] [] [] [] [] [] [] []) 2000 136 p136_19.1 Heap.empty) = some p136_19.2 := by kernel_rfl
theorem e136_28 : sealR (ev (EnA [] [] [] [] [] [] [] [] [] [] [] [] [] [] [] [] []) 2000 136 p136_28.1 Heap.empty) = some p136_28.2 := by kernel_rfl
theorem e136_31 : sealR (ev (EnA [] [] [] [] [] [] [] [] [] [] [] [] [] [] [] [] []) 2000 136 p136_31.1 Heap.empty) = some p136_31.2 := by kernel_rfl
theorem e136_40 : sealR (ev (EnA [] [] [] [] [] [] [] [] [] [] [] [] [] [] [] [] []) 2000 136 p136_40.1 Heap.empty) = some p136_40.2 := by kernel_rfl
theorem e136_50 : sealR (ev (EnA [] [] [] [] [] [] [] [] [] [] [] [] [] [] [] [] []) 2000 136 p136_50.1 Heap.empty) = some p136_50.2 := by kernel_rfl
theorem e136_60 : sealR (ev (EnA [] [] [] [] [] [] [] [] [] [] [] [] [] [] [] [] []) 2000 136 p136_60.1 Heap.empty) = some p136_60.2 := by kernel_rfl
theorem e136_65 : sealR (ev (EnA [] [] [] [] [] [] [] [] [] [] [] [] [] [] [] [] []) 2000 136 p136_65.1 Heap.empty) = some p136_65.2 := by kernel_rfl
theorem e138_12 : sealR (ev (EnA [] [] [p136_44] [] [] [] [] [] [] [] [] [] [] [] [] [] []) 2000 138 p138_12.1 Heap.empty) = some p138_12.2 := by kernel_rfl
theorem e146_0 : sealR (ev (EnA [] [] [] [] [] [] [] [] [] [] [] [] [] [] [] [] []) 2000 146 p146_0.1 Heap.empty) = some p146_0.2 := by kernel_rfl
theorem e146_5 : sealR (ev (EnA [] [] [] [] [] [] [] [] [] [] [] [] [] [] [] [] []) 2000 146 p146_5.1 Heap.empty) = some p146_5.2 := by kernel_rfl
theorem e146_17 : sealR (ev (EnA [] [] [] [] [] [] [] [] [] [] [] [] [] [] [] [] []) 2000 146 p146_17.1 Heap.empty) = some p146_17.2 := by kernel_rfl
theorem e146_25 : sealR (ev (EnA [] [] [] [] [] [] [] [] [] [] [] [] [] [] [] [] []) 2000 146 p146_25.1 Heap.empty) = some p146_25.2 := by kernel_rfl
theorem e147_1 : sealR (ev (EnA [] [] [p136_6] [p221_5] [] [] [] [] [] [] [] [] [] [] [] [] []) 2000 147 p147_1.1 Heap.empty) = some p147_1.2 := by kernel_rfl
theorem e147_6 : sealR (ev (EnA [] [] [p136_20] [p221_18] [] [] [] [] [] [] [] [] [] [] [] [] []) 2000 147 p147_6.1 Heap.empty) = some p147_6.2 := by kernel_rfl
theorem e147_13 : sealR (ev (EnA [] [] [p136_47] [p221_44] [] [] [] [] [] [] [] [] [] [] [] [] []) 2000 147 p147_13.1 Heap.empty) = some p147_13.2 := by kernel_rfl
theorem e155_2 : sealR (ev (EnA [] [] [] [] [] [] [] [] [] [] [] [] [] [] [] [] []) 2000 155 p155_2.1 Heap.empty) = some p155_2.2 := by kernel_rfl
theorem e158_13 : sealR (ev (EnA [] [] [] [] [] [] [] [] [] [] [] [] [] [] [] [] []) 2000 158 p158_13.1 Heap.empty) = some p158_13.2 := by kernel_rfl
theorem e159_8 : sealR (ev (EnA [] [] [] [] [] [] [] [] [] [] [] [] [] [] [] [] []) 2000 159 p159_8.1 Heap.empty) = some p159_8.2 := by kernel_rfl
theorem e159_9 : sealR (ev (EnA [] [] [] [] [] [] [] [] [] [] [] [] [] [] [] [] []) 2000 159 p159_9.1 Heap.empty) = some p159_9.2 := by kernel_rfl
theorem e159_13 : sealR (ev (EnA [] [] [] [] [] [] [] [] [] [] [] [] [] [] [] [] []) 2000 159 p159_13.1 Heap.empty) = some p159_13.2 := by kernel_rfl
theorem e159_14 : sealR (ev (EnA [] [] [] [] [] [] [] [] [] [] [] [] [] [] [] [] []) 2000 159 p159_14.1 Heap.empty) = some p159_14.2 := by kernel_rfl
theorem e163_5 : sealR (ev (EnA [] [] [] [] [p99_10,p99_1] [] [] [] [] [] [p158_11,p158_1] [] [p14_0,p14_3] [] [] [] []) 2000 163 p163_5.1 Heap.empty) = some p163_5.2 := by kernel_rfl
theorem e163_6 : sealR (ev (EnA [] [] [] [] [p99_10,p99_2] [] [] [] [] [] [p158_13,p158_4] [] [p14_0,p14_3] [] [] [] []) 2000 163 p163_6.1 Heap.empty) = some p163_6.2 := by kernel_rfl
theorem e163_8 : sealR (ev (EnA [] [] [] [] [p99_13,p99_2] [] [] [] [] [] [p158_16,p158_4] [] [p14_0,p14_3,p14_4] [] [] [] []) 2000 163 p163_8.1 Heap.empty) = some p163_8.2 := by kernel_rfl
theorem e163_12 : sealR (ev (EnA [] [] [] [] [p99_19,p99_2] [] [] [] [] [] [p158_22,p158_4] [] [p14_0,p14_3,p14_4,p14_5,p14_6] [] [] [] []) 2000 163 p163_12.1 Heap.empty) = some p163_12.2 := by kernel_rfl
theorem e221_2 : sealR (ev (EnA [] [] [] [] [] [] [] [] [] [] [] [] [] [] [] [] []) 2000 221 p221_2.1 Heap.empty) = some p221_2.2 := by kernel_rfl
theorem e221_13 : sealR (ev (EnA [] [] [] [] [] [] [] [] [] [] [] [] [] [] [] [] []) 2000 221 p221_13.1 Heap.empty) = some p221_13.2 := by kernel_rfl
theorem e221_32 : sealR (ev (EnA [] [] [] [] [] [] [] [] [] [] [] [] [] [] [] [] []) 2000 221 p221_32.1 Heap.empty) = some p221_32.2 := by kernel_rfl
theorem e221_33 : sealR (ev (EnA [] [] [] [] [] [] [] [] [] [] [] [] [] [] [] [] []) 2000 221 p221_33.1 Heap.empty) = some p221_33.2 := by kernel_rfl
theorem e221_34 : sealR (ev (EnA [] [] [] [] [] [] [] [] [] [] [] [] [] [] [] [] []) 2000 221 p221_34.1 Heap.empty) = some p221_34.2 := by kernel_rfl
theorem e221_35 : sealR (ev (EnA [] [] [] [] [] [] [] [] [] [] [] [] [] [] [] [] []) 2000 221 p221_35.1 Heap.empty) = some p221_35.2 := by kernel_rfl
theorem e221_53 : sealR (ev (EnA [] [] [] [] [] [] [] [] [] [] [] [] [] [] [] [] []) 2000 221 p221_53.1 Heap.empty) = some p221_53.2 := by kernel_rfl
theorem e221_57 : sealR (ev (EnA [] [] [] [] [] [] [] [] [] [] [] [] [] [] [] [] []) 2000 221 p221_57.1 Heap.empty) = some p221_57.2 := by kernel_rfl
end Go.Am
