import Derived.Test.YtpcijpelimgnmaaGreatDoorCTab
import Derived.KernelRfl
set_option linter.all false
set_option maxRecDepth 100000
namespace Go.Am
open Go
theorem e14_3 : sealR (ev (EnA [] [] [] [] [] [] [] [] [] [] [] [] [] [] [] [] []) 2000 14 p14_3.1 Heap.empty) = some p14_3.2 := by kernel_rfl
theorem e40_11 : sealR (ev (EnA [] [] [] [] [] [] [] [] [] [] [] [] [] [] [] [] []) 2000 40 p40_11.1 Heap.empty) = some p40_11.2 := by kernel_rfl
theorem e40_20 : sealR (ev (EnA [] [] [] [] [] [] [] [] [] [] [] [] [] [] [] [] []) 2000 40 p40_20.1 Heap.empty) = some p40_20.2 := by kernel_rfl
theorem e41_4 : sealR (ev (EnA [] [] [] [] [] [] [] [] [] [] [] [] [] [] [] [] []) 2000 41 p41_4.1 Heap.empty) = some p41_4.2 := by kernel_rfl
theorem e41_10 : sealR (ev (EnA [] [] [] [] [] [] [] [] [] [] [] [] [] [] [] [] []) 2000 41 p41_10.1 Heap.empty) = some p41_10.2 := by kernel_rfl
theorem e41_11 : sealR (ev (EnA [] [] [] [] [] [] [] [] [] [] [] [] [] [] [] [] []) 2000 41 p41_11.1 Heap.empty) = some p41_11.2 := by kernel_rfl
theorem e41_20 : sealR (ev (EnA [] [] [] [] [] [] [] [] [] [] [] [] [] [] [] [] []) 2000 41 p41_20.1 Heap.empty) = some p41_20.2 := by kernel_rfl
theorem e42_5 : sealR (ev (EnA [] [] [] [] [] [] [] [] [] [] [] [] [] [] [] [] []) 2000 42 p42_5.1 Heap.empty) = some p42_5.2 := by kernel_rfl
theorem e42_15 : sealR (ev (EnA [] [] [] [] [] [] [] [] [] [] [] [] [] [] [] [] []) 2000 42 p42_15.1 Heap.empty) = some p42_15.2 := by kernel_rfl
theorem e71_1 : sealR (ev (EnA [] [] [] [] [] [] [] [] [] [] [] [] [] [] [] [] []) 2000 71 p71_1.1 Heap.empty) = some p71_1.2 := by kernel_rfl
theorem e84_5 : sealR (ev (EnA [] [] [] [] [] [] [] [] [] [] [] [] [] [] [] [] []) 2000 84 p84_5.1 Heap.empty) = some p84_5.2 := by kernel_rfl
theorem e84_13 : sealR (ev (EnA [] [] [] [] [] [] [] [] [] [] [] [] [] [] [] [] []) 2000 84 p84_13.1 Heap.empty) = some p84_13.2 := by kernel_rfl
theorem e99_5 : sealR (ev (EnA [] [] [p136_21,p136_2] [p221_19] [] [] [] [] [] [] [] [] [] [] [] [] []) 2000 99 p99_5.1 Heap.empty) = some p99_5.2 := by kernel_rfl
theorem e99_16 : sealR (ev (EnA [] [] [p136_40,p136_41,p136_42,p136_43,p136_2] [p221_37,p221_38,p221_39,p221_40] [] [] [] [] [] [] [] [] [] [] [] [] []) 2000 99 p99_16.1 Heap.empty) = some p99_16.2 := by kernel_rfl
theorem e99_19 : sealR (ev (EnA [] [] [p136_48,p136_49,p136_50,p136_51,p136_52,p136_2] [p221_45,p221_46,p221_47,p221_48,p221_49] [] [] [] [] [] [] [] [] [] [] [] [] []) 2000 99 p99_19.1 Heap.empty) = some p99_19.2 := by kernel_rfl
theorem e136_9 : sealR (ev (EnA [] [] [] [] [] [] [] [] [] [] [] [] [] [] [] [] []) 2000 136 p136_9.1 Heap.empty) = some p136_9.2 := by kernel_rfl
theorem e136_13 : sealR (ev (EnA [] [] [] [] [] [] [] [] [] [] [] [] [] [] [] [] []) 2000 136 p136_13.1 Heap.empty) = some p136_13.2 := by kernel_rfl
theorem e136_15 : sealR (ev (EnA [] [] [] [] [] [] [] [] [] [] [] [] [] [] [] [] []) 2000 136 p136_15.1 Heap.empty) = some p136_15.2 := by kernel_rfl
theorem e136_27 : sealR (ev (EnA [] [] [] [] [] [] [] [] [] [] [] [] [] [] [] [] []) 2000 136 p136_27.1 Heap.empty) = some p136_27.2 := by kernel_rfl
theorem e136_39 : sealR (ev (EnA [] [] [] [] [] [] [] [] [] [] [] [] [] [] [] [] []) 2000 136 p136_39.1 Heap.empty) = some p136_39.2 := by kernel_rfl
theorem e136_46 : sealR (ev (EnA [] [] [] [] [] [] [] [] [] [] [] [] [] [] [] [] []) 2000 136 p136_46.1 Heap.empty) = some p136_46.2 := by kernel_rfl
theorem e136_49 : sealR (ev (EnA [] [] [] [] [] [] [] [] [] [] [] [] [] [] [] [] []) 2000 136 p136_49.1 Heap.empty) = some p136_49.2 := by kernel_rfl
theorem e136_59 : sealR (ev (EnA [] [] [] [] [] [] [] [] [] [] [] [] [] [] [] [] []) 2000 136 p136_59.1 Heap.empty) = some p136_59.2 := by kernel_rfl
theorem e138_1 : sealR (ev (EnA [] [] [p136_6] [] [] [] [] [] [] [] [] [] [] [] [] [] []) 2000 138 p138_1.1 Heap.empty) = some p138_1.2 := by kernel_rfl
theorem e138_6 : sealR (ev (EnA [] [] [p136_20] [] [] [] [] [] [] [] [] [] [] [] [] [] []) 2000 138 p138_6.1 Heap.empty) = some p138_6.2 := by kernel_rfl
theorem e138_11 : sealR (ev (EnA [] [] [p136_39] [] [] [] [] [] [] [] [] [] [] [] [] [] []) 2000 138 p138_11.1 Heap.empty) = some p138_11.2 := by kernel_rfl
theorem e146_12 : sealR (ev (EnA [] [] [] [] [] [] [] [] [] [] [] [] [] [] [] [] []) 2000 146 p146_12.1 Heap.empty) = some p146_12.2 := by kernel_rfl
theorem e146_15 : sealR (ev (EnA [] [] [] [] [] [] [] [] [] [] [] [] [] [] [] [] []) 2000 146 p146_15.1 Heap.empty) = some p146_15.2 := by kernel_rfl
theorem e146_23 : sealR (ev (EnA [] [] [] [] [] [] [] [] [] [] [] [] [] [] [] [] []) 2000 146 p146_23.1 Heap.empty) = some p146_23.2 := by kernel_rfl
theorem e147_11 : sealR (ev (EnA [] [] [p136_39] [p221_36] [] [] [] [] [] [] [] [] [] [] [] [] []) 2000 147 p147_11.1 Heap.empty) = some p147_11.2 := by kernel_rfl
theorem e155_6 : sealR (ev (EnA [] [] [] [] [] [] [] [] [] [] [] [] [] [] [] [] []) 2000 155 p155_6.1 Heap.empty) = some p155_6.2 := by kernel_rfl
theorem e155_20 : sealR (ev (EnA [] [] [] [] [] [] [] [] [] [] [] [] [] [] [] [] []) 2000 155 p155_20.1 Heap.empty) = some p155_20.2 := by kernel_rfl
theorem e158_3 : sealR (ev (EnA [] [] [] [] [] [] [] [] [] [] [] [] [] [] [] [] []) 2000 158 p158_3.1 Heap.empty) = some p158_3.2 := by kernel_rfl
theorem e158_4 : sealR (ev (EnA [] [] [] [] [] [] [] [] [] [] [] [] [] [] [] [] []) 2000 158 p158_4.1 Heap.empty) = some p158_4.2 := by kernel_rfl
theorem e158_9 : sealR (ev (EnA [] [] [] [] [] [] [] [] [] [] [] [] [] [] [] [] []) 2000 158 p158_9.1 Heap.empty) = some p158_9.2 := by kernel_rfl
theorem e158_20 : sealR (ev (EnA [] [] [] [] [] [] [] [] [] [] [] [] [] [] [] [] []) 2000 158 p158_20.1 Heap.empty) = some p158_20.2 := by kernel_rfl
theorem e158_25 : sealR (ev (EnA [] [] [] [] [] [] [] [] [] [] [] [] [] [] [] [] []) 2000 158 p158_25.1 Heap.empty) = some p158_25.2 := by kernel_rfl
theorem e159_2 : sealR (ev (EnA [] [] [] [] [] [] [] [] [] [] [] [] [] [] [] [] []) 2000 159 p159_2.1 Heap.empty) = some p159_2.2 := by kernel_rfl
theorem e159_3 : sealR (ev (EnA [] [] [] [] [] [] [] [] [] [] [] [] [] [] [] [] []) 2000 159 p159_3.1 Heap.empty) = some p159_3.2 := by kernel_rfl
theorem e163_3 : sealR (ev (EnA [] [] [] [] [] [] [] [] [] [] [p158_8] [] [] [] [] [] []) 2000 163 p163_3.1 Heap.empty) = some p163_3.2 := by kernel_rfl
theorem e163_13 : sealR (ev (EnA [] [] [] [] [p99_22,p99_1] [] [] [] [] [] [p158_23,p158_1] [] [p14_0,p14_3,p14_4,p14_5,p14_6,p14_7] [] [] [] []) 2000 163 p163_13.1 Heap.empty) = some p163_13.2 := by kernel_rfl
theorem e221_1 : sealR (ev (EnA [] [] [] [] [] [] [] [] [] [] [] [] [] [] [] [] []) 2000 221 p221_1.1 Heap.empty) = some p221_1.2 := by kernel_rfl
theorem e221_18 : sealR (ev (EnA [] [] [] [] [] [] [] [] [] [] [] [] [] [] [] [] []) 2000 221 p221_18.1 Heap.empty) = some p221_18.2 := by kernel_rfl
theorem e221_20 : sealR (ev (EnA [] [] [] [] [] [] [] [] [] [] [] [] [] [] [] [] []) 2000 221 p221_20.1 Heap.empty) = some p221_20.2 := by kernel_rfl
theorem e221_22 : sealR (ev (EnA [] [] [] [] [] [] [] [] [] [] [] [] [] [] [] [] []) 2000 221 p221_22.1 Heap.empty) = some p221_22.2 := by kernel_rfl
theorem e221_24 : sealR (ev (EnA [] [] [] [] [] [] [] [] [] [] [] [] [] [] [] [] []) 2000 221 p221_24.1 Heap.empty) = some p221_24.2 := by kernel_rfl
theorem e221_26 : sealR (ev (EnA [] [] [] [] [] [] [] [] [] [] [] [] [] [] [] [] []) 2000 221 p221_26.1 Heap.empty) = some p221_26.2 := by kernel_rfl
theorem e221_46 : sealR (ev (EnA [] [] [] [] [] [] [] [] [] [] [] [] [] [] [] [] []) 2000 221 p221_46.1 Heap.empty) = some p221_46.2 := by kernel_rfl
theorem e221_58 : sealR (ev (EnA [] [] [] [] [] [] [] [] [] [] [] [] [] [] [] [] []) 2000 221 p221_58.1 Heap.empty) = some p221_58.2 := by kernel_rfl
theorem e221_59 : sealR (ev (EnA [] [] [] [] [] [] [] [] [] [] [] [] [] [] [] [] []) 2000 221 p221_59.1 Heap.empty) = some p221_59.2 := by kernel_rfl
end Go.Am
set_option maxRecDepth 100000
namespace Go.Am
open Go
theorem e14_5 : sealR (ev (EnA [] [] [] [] [] [] [] [] [] [] [] [] [] [] [] [] []) 2000 14 p14_5.1 Heap.empty) = some p14_5.2 := by kernel_rfl
theorem e40_0 : sealR (ev (EnA [] [] [] [] [] [] [] [] [] [] [] [] [] [] [] [] []) 2000 40 p40_0.1 Heap.empty) = some p40_0.2 := by kernel_rfl
theorem e40_1 : sealR (ev (EnA [] [] [] [] [] [] [] [] [] [] [] [] [] [] [] [] []) 2000 40 p40_1.1 Heap.empty) = some p40_1.2 := by kernel_rfl
theorem e40_6 : sealR (ev (EnA [] [] [] [] [] [] [] [] [] [] [] [] [] [] [] [] []) 2000 40 p40_6.1 Heap.empty) = some p40_6.2 := by kernel_rfl
theorem e40_12 : sealR (ev (EnA [] [] [] [] [] [] [] [] [] [] [] [] [] [] [] [] []) 2000 40 p40_12.1 Heap.empty) = some p40_12.2 := by kernel_rfl
theorem e40_21 : sealR (ev (EnA [] [] [] [] [] [] [] [] [] [] [] [] [] [] [] [] []) 2000 40 p40_21.1 Heap.empty) = some p40_21.2 := by kernel_rfl
theorem e41_1 : sealR (ev (EnA [] [] [] [] [] [] [] [] [] [] [] [] [] [] [] [] []) 2000 41 p41_1.1 Heap.empty) = some p41_1.2 := by kernel_rfl
theorem e41_5 : sealR (ev (EnA [] [] [] [] [] [] [] [] [] [] [] [] [] [] [] [] []) 2000 41 p41_5.1 Heap.empty) = some p41_5.2 := by kernel_rfl
theorem e41_15 : sealR (ev (EnA [] [] [] [] [] [] [] [] [] [] [] [] [] [] [] [] []) 2000 41 p41_15.1 Heap.empty) = some p41_15.2 := by kernel_rfl
theorem e42_0 : sealR (ev (EnA [] [] [] [] [] [] [] [] [] [] [] [] [] [] [] [] []) 2000 42 p42_0.1 Heap.empty) = some p42_0.2 := by kernel_rfl
theorem e42_7 : sealR (ev (EnA [] [] [] [] [] [] [] [] [] [] [] [] [] [] [] [] []) 2000 42 p42_7.1 Heap.empty) = some p42_7.2 := by kernel_rfl
theorem e42_10 : sealR (ev (EnA [] [] [] [] [] [] [] [] [] [] [] [] [] [] [] [] []) 2000 42 p42_10.1 Heap.empty) = some p42_10.2 := by kernel_rfl
theorem e42_12 : sealR (ev (EnA [] [] [] [] [] [] [] [] [] [] [] [] [] [] [] [] []) 2000 42 p42_12.1 Heap.empty) = some p42_12.2 := by kernel_rfl
theorem e42_17 : sealR (ev (EnA [] [] [] [] [] [] [] [] [] [] [] [] [] [] [] [] []) 2000 42 p42_17.1 Heap.empty) = some p42_17.2 := by kernel_rfl
theorem e84_0 : sealR (ev (EnA [] [] [] [] [] [] [] [] [] [] [] [] [] [] [] [] []) 2000 84 p84_0.1 Heap.empty) = some p84_0.2 := by kernel_rfl
theorem e84_6 : sealR (ev (EnA [] [] [] [] [] [] [] [] [] [] [] [] [] [] [] [] []) 2000 84 p84_6.1 Heap.empty) = some p84_6.2 := by kernel_rfl
theorem e84_14 : sealR (ev (EnA [] [] [] [] [] [] [] [] [] [] [] [] [] [] [] [] []) 2000 84 p84_14.1 Heap.empty) = some p84_14.2 := by kernel_rfl
theorem e99_2 : sealR (ev (EnA [] [] [p136_7,p136_8,p136_9,p136_10,p136_11,p136_12,p136_2] [p221_6,p221_7,p221_8,p221_9,p221_10,p221_11] [] [] [] [] [] [] [] [] [] [] [] [] []) 2000 99 p99_2.1 Heap.empty) = some p99_2.2 := by kernel_rfl
theorem e99_13 : sealR (ev (EnA [] [] [p136_33,p136_34,p136_35,p136_2] [p221_30,p221_31,p221_32] [] [] [] [] [] [] [] [] [] [] [] [] []) 2000 99 p99_13.1 Heap.empty) = some p99_13.2 := by kernel_rfl
theorem e136_5 : sealR (ev (EnA [] [] [] [] [] [] [] [] [] [] [] [] [] [] [] [] []) 2000 136 p136_5.1 Heap.empty) = some p136_5.2 := by kernel_rfl
theorem e136_14 : sealR (ev (EnA [] [] [] [] [] [] [] [] [] [] [] [] [] [] [] [] []) 2000 136 p136_14.1 Heap.empty) = some p136_14.2 := by kernel_rfl
theorem e136_22 : sealR (ev (EnA [] [] [] [] [] [] [] [] [] [] [] [] [] [] [] [] []) 2000 136 p136_22.1 Heap.empty) = some p136_22.2 := by kernel_rfl
theorem e136_33 : sealR (ev (EnA [] [] [] [] [] [] [] [] [] [] [] [] [] [] [] [] []) 2000 136 p136_33.1 Heap.empty) = some p136_33.2 := by kernel_rfl
theorem e136_43 : sealR (ev (EnA [] [] [] [] [] [] [] [] [] [] [] [] [] [] [] [] []) 2000 136 p136_43.1 Heap.empty) = some p136_43.2 := by kernel_rfl
theorem e136_45 : sealR (ev (EnA [] [] [] [] [] [] [] [] [] [] [] [] [] [] [] [] []) 2000 136 p136_45.1 Heap.empty) = some p136_45.2 := by kernel_rfl
theorem e136_53 : sealR (ev (EnA [] [] [] [] [] [] [] [] [] [] [] [] [] [] [] [] []) 2000 136 p136_53.1 Heap.empty) = some p136_53.2 := by kernel_rfl
theorem e136_63 : sealR (ev (EnA [] [] [] [] [] [] [] [] [] [] [] [] [] [] [] [] []) 2000 136 p136_63.1 Heap.empty) = some p136_63.2 := by kernel_rfl
theorem e138_0 : sealR (ev (EnA [] [] [p136_0] [] [] [] [] [] [] [] [] [] [] [] [] [] []) 2000 138 p138_0.1 Heap.empty) = some p138_0.2 := by kernel_rfl
theorem e138_8 : sealR (ev (EnA [] [] [p136_29] [] [] [] [] [] [] [] [] [] [] [] [] [] []) 2000 138 p138_8.1 Heap.empty) = some p138_8.2 := by kernel_rfl
theorem e138_16 : sealR (ev (EnA [] [] [p136_63] [] [] [] [] [] [] [] [] [] [] [] [] [] []) 2000 138 p138_16.1 Heap.empty) = some p138_16.2 := by kernel_rfl
theorem e146_1 : sealR (ev (EnA [] [] [] [] [] [] [] [] [] [] [] [] [] [] [] [] []) 2000 146 p146_1.1 Heap.empty) = some p146_1.2 := by kernel_rfl
theorem e146_8 : sealR (ev (EnA [] [] [] [] [] [] [] [] [] [] [] [] [] [] [] [] []) 2000 146 p146_8.1 Heap.empty) = some p146_8.2 := by kernel_rfl
theorem e146_19 : sealR (ev (EnA [] [] [] [] [] [] [] [] [] [] [] [] [] [] [] [] []) 2000 146 p146_19.1 Heap.empty) = some p146_19.2 := by kernel_rfl
theorem e146_27 : sealR (ev (EnA [] [] [] [] [] [] [] [] [] [] [] [] [] [] [] [] []) 2000 146 p146_27.1 Heap.empty) = some p146_27.2 := by kernel_rfl
theorem e147_14 : sealR (ev (EnA [] [] [p136_53] [p221_50] [] [] [] [] [] [] [] [] [] [] [] [] []) 2000 147 p147_14.1 Heap.empty) = some p147_14.2 := by kernel_rfl
theorem e155_0 : sealR (ev (EnA [] [] [] [] [] [] [] [] [] [] [] [] [] [] [] [] []) 2000 155 p155_0.1 Heap.empty) = some p155_0.2 := by kernel_rfl
theorem e155_4 : sealR (ev (EnA [] [p146_4] [p136_14] [] [] [] [] [] [] [] [] [] [] [] [] [] []) 2000 155 p155_4.1 Heap.empty) = some p155_4.2 := by kernel_rfl
theorem e155_16 : sealR (ev (EnA [] [] [] [] [] [] [] [] [] [] [] [] [] [] [] [] []) 2000 155 p155_16.1 Heap.empty) = some p155_16.2 := by kernel_rfl
theorem e155_17 : sealR (ev (EnA [] [] [] [] [] [] [] [] [] [] [] [] [] [] [] [] []) 2000 155 p155_17.1 Heap.empty) = some p155_17.2 := by kernel_rfl
theorem e158_0 : sealR (ev (EnA [] [] [] [] [] [] [] [] [] [] [] [] [] [] [] [] []) 2000 158 p158_0.1 Heap.empty) = some p158_0.2 := by kernel_rfl
theorem e158_12 : sealR (ev (EnA [] [] [] [] [] [] [] [] [] [] [] [] [] [] [] [] []) 2000 158 p158_12.1 Heap.empty) = some p158_12.2 := by kernel_rfl
theorem e158_14 : sealR (ev (EnA [] [] [] [] [] [] [] [] [] [] [] [] [] [] [] [] []) 2000 158 p158_14.1 Heap.empty) = some p158_14.2 := by kernel_rfl
theorem e158_22 : sealR (ev (EnA [] [] [] [] [] [] [] [] [] [] [] [] [] [] [] [] []) 2000 158 p158_22.1 Heap.empty) = some p158_22.2 := by kernel_rfl
theorem e159_6 : sealR (ev (EnA [] [] [] [] [] [] [] [] [] [] [] [] [] [] [] [] []) 2000 159 p159_6.1 Heap.empty) = some p159_6.2 := by kernel_rfl
theorem e221_5 : sealR (ev (EnA [] [] [] [] [] [] [] [] [] [] [] [] [] [] [] [] []) 2000 221 p221_5.1 Heap.empty) = some p221_5.2 := by kernel_rfl
theorem e221_11 : sealR (ev (EnA [] [] [] [] [] [] [] [] [] [] [] [] [] [] [] [] []) 2000 221 p221_11.1 Heap.empty) = some p221_11.2 := by kernel_rfl
theorem e221_14 : sealR (ev (EnA [] [] [] [] [] [] [] [] [] [] [] [] [] [] [] [] []) 2000 221 p221_14.1 Heap.empty) = some p221_14.2 := by kernel_rfl
theorem e221_39 : sealR (ev (EnA [] [] [] [] [] [] [] [] [] [] [] [] [] [] [] [] []) 2000 221 p221_39.1 Heap.empty) = some p221_39.2 := by kernel_rfl
theorem e221_45 : sealR (ev (EnA [] [] [] [] [] [] [] [] [] [] [] [] [] [] [] [] []) 2000 221 p221_45.1 Heap.empty) = some p221_45.2 := by kernel_rfl
theorem e221_52 : sealR (ev (EnA [] [] [] [] [] [] [] [] [] [] [] [] [] [] [] [] []) 2000 221 p221_52.1 Heap.empty) = some p221_52.2 := by kernel_rfl
end Go.Am
