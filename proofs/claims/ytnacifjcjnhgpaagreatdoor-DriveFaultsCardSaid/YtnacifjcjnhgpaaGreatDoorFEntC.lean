import Derived.Test.YtnacifjcjnhgpaaGreatDoorFTab
import Derived.KernelRfl
set_option linter.all false
set_option maxRecDepth 100000
namespace Go.Am
open Go
theorem e25_1 : sealR (ev (EnA [] [] [] [] [] [] [] [] [] [] [] [] [] [] [] [] [] [] [] [] [] []) 2000 25 p25_1.1 Heap.empty) = some p25_1.2 := by kernel_rfl
theorem e55_4 : sealR (ev (EnA [] [] [] [] [] [] [] [] [] [] [] [] [] [] [] [] [] [] [] [] [] []) 2000 55 p55_4.1 Heap.empty) = some p55_4.2 := by kernel_rfl
theorem e55_9 : sealR (ev (EnA [p97_2] [] [] [] [] [] [] [] [] [] [] [] [] [] [] [] [] [] [] [] [] []) 2000 55 p55_9.1 Heap.empty) = some p55_9.2 := by kernel_rfl
theorem e56_1 : sealR (ev (EnA [] [] [] [] [] [] [] [] [] [] [] [] [] [] [] [] [] [] [] [] [] []) 2000 56 p56_1.1 Heap.empty) = some p56_1.2 := by kernel_rfl
theorem e69_5 : sealR (ev (EnA [] [] [] [] [] [] [] [] [] [] [] [] [] [] [] [] [] [] [] [] [] []) 2000 69 p69_5.1 Heap.empty) = some p69_5.2 := by kernel_rfl
theorem e69_13 : sealR (ev (EnA [] [] [] [] [] [] [] [] [] [] [] [] [] [] [] [] [] [] [] [] [] []) 2000 69 p69_13.1 Heap.empty) = some p69_13.2 := by kernel_rfl
theorem e97_1 : sealR (ev (EnA [] [] [] [] [] [] [] [] [] [] [] [] [] [] [] [] [] [] [] [] [] []) 2000 97 p97_1.1 Heap.empty) = some p97_1.2 := by kernel_rfl
theorem e113_7 : sealR (ev (EnA [] [] [] [] [] [] [] [] [] [] [] [] [] [] [] [] [] [] [] [] [] []) 2000 113 p113_7.1 Heap.empty) = some p113_7.2 := by kernel_rfl
theorem e113_16 : sealR (ev (EnA [] [] [] [] [] [] [] [] [] [] [] [] [] [] [] [] [] [] [] [] [] []) 2000 113 p113_16.1 Heap.empty) = some p113_16.2 := by kernel_rfl
theorem e113_19 : sealR (ev (EnA [] [] [] [] [] [] [] [] [] [] [] [] [] [] [] [] [] [] [] [] [] []) 2000 113 p113_19.1 Heap.empty) = some p113_19.2 := by kernel_rfl
theorem e113_33 : sealR (ev (EnA [] [] [] [] [] [] [] [] [] [] [] [] [] [] [] [] [] [] [] [] [] []) 2000 113 p113_33.1 Heap.empty) = some p113_33.2 := by kernel_rfl
theorem e115_8 : sealR (ev (EnA [] [p123_6] [p113_11] [] [] [] [] [] [] [] [] [] [] [] [] [] [] [] [] [] [] []) 2000 115 p115_8.1 Heap.empty) = some p115_8.2 := by kernel_rfl
theorem e115_16 : sealR (ev (EnA [] [] [p113_26] [] [] [] [] [] [] [] [] [] [] [] [] [] [] [] [] [] [] []) 2000 115 p115_16.1 Heap.empty) = some p115_16.2 := by kernel_rfl
theorem e123_7 : sealR (ev (EnA [] [] [] [] [] [] [] [] [] [] [] [] [] [] [] [] [] [] [] [] [] []) 2000 123 p123_7.1 Heap.empty) = some p123_7.2 := by kernel_rfl
theorem e123_13 : sealR (ev (EnA [] [] [] [] [] [] [] [] [] [] [] [] [] [] [] [] [] [] [] [] [] []) 2000 123 p123_13.1 Heap.empty) = some p123_13.2 := by kernel_rfl
theorem e123_16 : sealR (ev (EnA [] [] [] [] [] [] [] [] [] [] [] [] [] [] [] [] [] [] [] [] [] []) 2000 123 p123_16.1 Heap.empty) = some p123_16.2 := by kernel_rfl
theorem e124_3 : sealR (ev (EnA [] [] [p113_6] [p194_5] [] [] [] [] [] [] [] [] [] [] [] [] [] [] [] [] [] []) 2000 124 p124_3.1 Heap.empty) = some p124_3.2 := by kernel_rfl
theorem e124_10 : sealR (ev (EnA [] [] [p113_22] [p194_14] [] [] [] [] [] [] [] [] [] [] [] [] [] [] [] [] [] []) 2000 124 p124_10.1 Heap.empty) = some p124_10.2 := by kernel_rfl
theorem e132_2 : sealR (ev (EnA [] [] [] [] [] [] [] [] [] [] [] [] [] [] [] [] [] [] [] [] [] []) 2000 132 p132_2.1 Heap.empty) = some p132_2.2 := by kernel_rfl
theorem e132_6 : sealR (ev (EnA [] [p123_14] [p113_19] [] [] [] [] [] [] [] [] [] [] [] [] [] [] [] [] [] [] []) 2000 132 p132_6.1 Heap.empty) = some p132_6.2 := by kernel_rfl
theorem e132_12 : sealR (ev (EnA [] [p123_2] [p113_27] [] [] [] [] [] [] [] [] [] [] [] [] [] [] [] [] [] [] []) 2000 132 p132_12.1 Heap.empty) = some p132_12.2 := by kernel_rfl
theorem e135_4 : sealR (ev (EnA [] [] [] [] [] [] [] [] [] [] [] [] [] [] [] [] [] [] [] [] [] []) 2000 135 p135_4.1 Heap.empty) = some p135_4.2 := by kernel_rfl
theorem e135_6 : sealR (ev (EnA [] [] [] [] [] [] [] [] [] [] [] [] [] [] [] [] [] [] [] [] [] []) 2000 135 p135_6.1 Heap.empty) = some p135_6.2 := by kernel_rfl
theorem e136_0 : sealR (ev (EnA [] [] [] [] [] [] [] [] [] [] [] [] [] [] [] [] [] [] [] [] [] []) 2000 136 p136_0.1 Heap.empty) = some p136_0.2 := by kernel_rfl
theorem e136_4 : sealR (ev (EnA [] [] [] [] [] [] [] [] [] [] [] [] [] [] [] [] [] [] [] [] [] []) 2000 136 p136_4.1 Heap.empty) = some p136_4.2 := by kernel_rfl
theorem e140_3 : sealR (ev (EnA [] [] [] [] [p84_4] [] [] [] [] [] [p135_6,p135_7] [] [p25_1,p25_2] [] [] [] [] [] [] [] [] []) 2000 140 p140_3.1 Heap.empty) = some p140_3.2 := by kernel_rfl
theorem e194_2 : sealR (ev (EnA [] [] [] [] [] [] [] [] [] [] [] [] [] [] [] [] [] [] [] [] [] []) 2000 194 p194_2.1 Heap.empty) = some p194_2.2 := by kernel_rfl
theorem e194_3 : sealR (ev (EnA [] [] [] [] [] [] [] [] [] [] [] [] [] [] [] [] [] [] [] [] [] []) 2000 194 p194_3.1 Heap.empty) = some p194_3.2 := by kernel_rfl
theorem e194_11 : sealR (ev (EnA [] [] [] [] [] [] [] [] [] [] [] [] [] [] [] [] [] [] [] [] [] []) 2000 194 p194_11.1 Heap.empty) = some p194_11.2 := by kernel_rfl
theorem e200_0 : sealR (ev (EnA [] [] [] [] [] [] [] [] [] [] [] [] [] [] [] [] [] [] [] [] [] []) 2000 200 p200_0.1 Heap.empty) = some p200_0.2 := by kernel_rfl
end Go.Am
set_option maxRecDepth 100000
namespace Go.Am
open Go
theorem e25_2 : sealR (ev (EnA [] [] [] [] [] [] [] [] [] [] [] [] [] [] [] [] [] [] [] [] [] []) 2000 25 p25_2.1 Heap.empty) = some p25_2.2 := by kernel_rfl
theorem e56_4 : sealR (ev (EnA [] [] [] [] [] [] [] [] [] [] [] [] [] [] [] [] [] [] [] [] [] []) 2000 56 p56_4.1 Heap.empty) = some p56_4.2 := by kernel_rfl
theorem e69_0 : sealR (ev (EnA [] [] [] [] [] [] [] [] [] [] [] [] [] [] [] [] [] [] [] [] [] []) 2000 69 p69_0.1 Heap.empty) = some p69_0.2 := by kernel_rfl
theorem e69_7 : sealR (ev (EnA [] [] [] [] [] [] [] [] [] [] [] [] [] [] [] [] [] [] [] [] [] []) 2000 69 p69_7.1 Heap.empty) = some p69_7.2 := by kernel_rfl
theorem e69_15 : sealR (ev (EnA [] [] [] [] [] [] [] [] [] [] [] [] [] [] [] [] [] [] [] [] [] []) 2000 69 p69_15.1 Heap.empty) = some p69_15.2 := by kernel_rfl
theorem e113_4 : sealR (ev (EnA [] [] [] [] [] [] [] [] [] [] [] [] [] [] [] [] [] [] [] [] [] []) 2000 113 p113_4.1 Heap.empty) = some p113_4.2 := by kernel_rfl
theorem e113_5 : sealR (ev (EnA [] [] [] [] [] [] [] [] [] [] [] [] [] [] [] [] [] [] [] [] [] []) 2000 113 p113_5.1 Heap.empty) = some p113_5.2 := by kernel_rfl
theorem e113_14 : sealR (ev (EnA [] [] [] [] [] [] [] [] [] [] [] [] [] [] [] [] [] [] [] [] [] []) 2000 113 p113_14.1 Heap.empty) = some p113_14.2 := by kernel_rfl
theorem e113_24 : sealR (ev (EnA [] [] [] [] [] [] [] [] [] [] [] [] [] [] [] [] [] [] [] [] [] []) 2000 113 p113_24.1 Heap.empty) = some p113_24.2 := by kernel_rfl
theorem e113_25 : sealR (ev (EnA [] [] [] [] [] [] [] [] [] [] [] [] [] [] [] [] [] [] [] [] [] []) 2000 113 p113_25.1 Heap.empty) = some p113_25.2 := by kernel_rfl
theorem e115_3 : sealR (ev (EnA [] [] [p113_4] [] [] [] [] [] [] [] [] [] [] [] [] [] [] [] [] [] [] []) 2000 115 p115_3.1 Heap.empty) = some p115_3.2 := by kernel_rfl
theorem e115_7 : sealR (ev (EnA [] [p123_6] [p113_10] [] [] [] [] [] [] [] [] [] [] [] [] [] [] [] [] [] [] []) 2000 115 p115_7.1 Heap.empty) = some p115_7.2 := by kernel_rfl
theorem e115_12 : sealR (ev (EnA [] [] [p113_18] [] [] [] [] [] [] [] [] [] [] [] [] [] [] [] [] [] [] []) 2000 115 p115_12.1 Heap.empty) = some p115_12.2 := by kernel_rfl
theorem e115_15 : sealR (ev (EnA [] [] [p113_23] [] [] [] [] [] [] [] [] [] [] [] [] [] [] [] [] [] [] []) 2000 115 p115_15.1 Heap.empty) = some p115_15.2 := by kernel_rfl
theorem e123_4 : sealR (ev (EnA [] [] [] [] [] [] [] [] [] [] [] [] [] [] [] [] [] [] [] [] [] []) 2000 123 p123_4.1 Heap.empty) = some p123_4.2 := by kernel_rfl
theorem e123_12 : sealR (ev (EnA [] [] [] [] [] [] [] [] [] [] [] [] [] [] [] [] [] [] [] [] [] []) 2000 123 p123_12.1 Heap.empty) = some p123_12.2 := by kernel_rfl
theorem e123_21 : sealR (ev (EnA [] [] [] [] [] [] [] [] [] [] [] [] [] [] [] [] [] [] [] [] [] []) 2000 123 p123_21.1 Heap.empty) = some p123_21.2 := by kernel_rfl
theorem e124_2 : sealR (ev (EnA [] [] [p113_3] [p194_2] [] [] [] [] [] [] [] [] [] [] [] [] [] [] [] [] [] []) 2000 124 p124_2.1 Heap.empty) = some p124_2.2 := by kernel_rfl
theorem e124_11 : sealR (ev (EnA [] [] [p113_23] [p194_15] [] [] [] [] [] [] [] [] [] [] [] [] [] [] [] [] [] []) 2000 124 p124_11.1 Heap.empty) = some p124_11.2 := by kernel_rfl
theorem e124_12 : sealR (ev (EnA [] [] [p113_26] [p194_18] [] [] [] [] [] [] [] [] [] [] [] [] [] [] [] [] [] []) 2000 124 p124_12.1 Heap.empty) = some p124_12.2 := by kernel_rfl
theorem e132_0 : sealR (ev (EnA [] [] [] [] [] [] [] [] [] [] [] [] [] [] [] [] [] [] [] [] [] []) 2000 132 p132_0.1 Heap.empty) = some p132_0.2 := by kernel_rfl
theorem e132_1 : sealR (ev (EnA [] [p123_2] [p113_2] [] [] [] [] [] [] [] [] [] [] [] [] [] [] [] [] [] [] []) 2000 132 p132_1.1 Heap.empty) = some p132_1.2 := by kernel_rfl
theorem e132_7 : sealR (ev (EnA [] [] [] [] [] [] [] [] [] [] [] [] [] [] [] [] [] [] [] [] [] []) 2000 132 p132_7.1 Heap.empty) = some p132_7.2 := by kernel_rfl
theorem e136_2 : sealR (ev (EnA [] [] [] [] [] [] [] [] [] [] [] [] [] [] [] [] [] [] [] [] [] []) 2000 136 p136_2.1 Heap.empty) = some p136_2.2 := by kernel_rfl
theorem e194_0 : sealR (ev (EnA [] [] [] [] [] [] [] [] [] [] [] [] [] [] [] [] [] [] [] [] [] []) 2000 194 p194_0.1 Heap.empty) = some p194_0.2 := by kernel_rfl
theorem e194_8 : sealR (ev (EnA [] [] [] [] [] [] [] [] [] [] [] [] [] [] [] [] [] [] [] [] [] []) 2000 194 p194_8.1 Heap.empty) = some p194_8.2 := by kernel_rfl
theorem e194_9 : sealR (ev (EnA [] [] [] [] [] [] [] [] [] [] [] [] [] [] [] [] [] [] [] [] [] []) 2000 194 p194_9.1 Heap.empty) = some p194_9.2 := by kernel_rfl
theorem e194_13 : sealR (ev (EnA [] [] [] [] [] [] [] [] [] [] [] [] [] [] [] [] [] [] [] [] [] []) 2000 194 p194_13.1 Heap.empty) = some p194_13.2 := by kernel_rfl
theorem e194_17 : sealR (ev (EnA [] [] [] [] [] [] [] [] [] [] [] [] [] [] [] [] [] [] [] [] [] []) 2000 194 p194_17.1 Heap.empty) = some p194_17.2 := by kernel_rfl
theorem e194_19 : sealR (ev (EnA [] [] [] [] [] [] [] [] [] [] [] [] [] [] [] [] [] [] [] [] [] []) 2000 194 p194_19.1 Heap.empty) = some p194_19.2 := by kernel_rfl
end Go.Am
