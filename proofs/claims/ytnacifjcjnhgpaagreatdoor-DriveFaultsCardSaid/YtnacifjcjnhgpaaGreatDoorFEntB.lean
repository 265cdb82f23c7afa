import Derived.Test.YtnacifjcjnhgpaaGreatDoorFTab
import Derived.KernelRfl
set_option linter.all false
set_option maxRecDepth 100000
namespace Go.Am
open Go
theorem e54_4 : sealR (ev (EnA [] [] [] [] [] [] [] [] [] [] [] [] [] [] [] [] [] [] [] [] [] []) 2000 54 p54_4.1 Heap.empty) = some p54_4.2 := by kernel_rfl
theorem e54_5 : sealR (ev (EnA [] [] [] [] [] [] [] [] [] [] [] [] [] [] [] [] [] [] [] [] [] []) 2000 54 p54_5.1 Heap.empty) = some p54_5.2 := by kernel_rfl
theorem e54_6 : sealR (ev (EnA [] [] [] [] [] [] [] [] [] [] [] [] [] [] [] [] [] [] [] [] [] []) 2000 54 p54_6.1 Heap.empty) = some p54_6.2 := by kernel_rfl
theorem e54_9 : sealR (ev (EnA [p97_1] [] [p113_28] [] [] [] [] [] [] [] [] [] [] [] [] [] [] [] [] [] [] []) 2000 54 p54_9.1 Heap.empty) = some p54_9.2 := by kernel_rfl
theorem e55_1 : sealR (ev (EnA [] [] [] [] [] [] [] [] [] [] [] [] [] [] [] [] [] [] [] [] [] []) 2000 55 p55_1.1 Heap.empty) = some p55_1.2 := by kernel_rfl
theorem e56_7 : sealR (ev (EnA [] [] [] [] [] [] [] [] [] [] [] [] [] [] [] [] [] [] [] [] [] []) 2000 56 p56_7.1 Heap.empty) = some p56_7.2 := by kernel_rfl
theorem e56_9 : sealR (ev (EnA [p97_2] [] [] [] [] [] [] [] [] [] [] [] [] [] [] [] [] [] [] [] [] []) 2000 56 p56_9.1 Heap.empty) = some p56_9.2 := by kernel_rfl
theorem e69_2 : sealR (ev (EnA [] [] [] [] [] [] [] [] [] [] [] [] [] [] [] [] [] [] [] [] [] []) 2000 69 p69_2.1 Heap.empty) = some p69_2.2 := by kernel_rfl
theorem e69_11 : sealR (ev (EnA [] [] [] [] [] [] [] [] [] [] [] [] [] [] [] [] [] [] [] [] [] []) 2000 69 p69_11.1 Heap.empty) = some p69_11.2 := by kernel_rfl
theorem e84_0 : sealR (ev (EnA [] [] [p113_5,p113_4] [p194_3] [] [] [] [] [] [] [] [] [] [] [] [] [] [] [] [] [] []) 2000 84 p84_0.1 Heap.empty) = some p84_0.2 := by kernel_rfl
theorem e84_1 : sealR (ev (EnA [] [] [p113_2,p113_4] [p194_4] [] [] [] [] [] [] [] [] [] [] [] [] [] [] [] [] [] []) 2000 84 p84_1.1 Heap.empty) = some p84_1.2 := by kernel_rfl
theorem e97_2 : sealR (ev (EnA [] [] [] [] [] [] [] [] [] [] [] [] [] [] [] [] [] [] [] [] [] []) 2000 97 p97_2.1 Heap.empty) = some p97_2.2 := by kernel_rfl
theorem e113_1 : sealR (ev (EnA [] [] [] [] [] [] [] [] [] [] [] [] [] [] [] [] [] [] [] [] [] []) 2000 113 p113_1.1 Heap.empty) = some p113_1.2 := by kernel_rfl
theorem e113_2 : sealR (ev (EnA [] [] [] [] [] [] [] [] [] [] [] [] [] [] [] [] [] [] [] [] [] []) 2000 113 p113_2.1 Heap.empty) = some p113_2.2 := by kernel_rfl
theorem e113_10 : sealR (ev (EnA [] [] [] [] [] [] [] [] [] [] [] [] [] [] [] [] [] [] [] [] [] []) 2000 113 p113_10.1 Heap.empty) = some p113_10.2 := by kernel_rfl
theorem e113_20 : sealR (ev (EnA [] [] [] [] [] [] [] [] [] [] [] [] [] [] [] [] [] [] [] [] [] []) 2000 113 p113_20.1 Heap.empty) = some p113_20.2 := by kernel_rfl
theorem e113_27 : sealR (ev (EnA [] [] [] [] [] [] [] [] [] [] [] [] [] [] [] [] [] [] [] [] [] []) 2000 113 p113_27.1 Heap.empty) = some p113_27.2 := by kernel_rfl
theorem e115_2 : sealR (ev (EnA [] [] [p113_3] [] [] [] [] [] [] [] [] [] [] [] [] [] [] [] [] [] [] []) 2000 115 p115_2.1 Heap.empty) = some p115_2.2 := by kernel_rfl
theorem e115_4 : sealR (ev (EnA [] [] [p113_6] [] [] [] [] [] [] [] [] [] [] [] [] [] [] [] [] [] [] []) 2000 115 p115_4.1 Heap.empty) = some p115_4.2 := by kernel_rfl
theorem e123_8 : sealR (ev (EnA [] [] [] [] [] [] [] [] [] [] [] [] [] [] [] [] [] [] [] [] [] []) 2000 123 p123_8.1 Heap.empty) = some p123_8.2 := by kernel_rfl
theorem e123_17 : sealR (ev (EnA [] [] [] [] [] [] [] [] [] [] [] [] [] [] [] [] [] [] [] [] [] []) 2000 123 p123_17.1 Heap.empty) = some p123_17.2 := by kernel_rfl
theorem e124_13 : sealR (ev (EnA [] [] [p113_29] [p194_19] [] [] [] [] [] [] [] [] [] [] [] [] [] [] [] [] [] []) 2000 124 p124_13.1 Heap.empty) = some p124_13.2 := by kernel_rfl
theorem e132_4 : sealR (ev (EnA [] [] [] [] [] [] [] [] [] [] [] [] [] [] [] [] [] [] [] [] [] []) 2000 132 p132_4.1 Heap.empty) = some p132_4.2 := by kernel_rfl
theorem e132_14 : sealR (ev (EnA [] [p123_2] [p113_33] [] [] [] [] [] [] [] [] [] [] [] [] [] [] [] [] [] [] []) 2000 132 p132_14.1 Heap.empty) = some p132_14.2 := by kernel_rfl
theorem e136_1 : sealR (ev (EnA [] [] [] [] [] [] [] [] [] [] [] [] [] [] [] [] [] [] [] [] [] []) 2000 136 p136_1.1 Heap.empty) = some p136_1.2 := by kernel_rfl
theorem e136_3 : sealR (ev (EnA [] [] [] [] [] [] [] [] [] [] [] [] [] [] [] [] [] [] [] [] [] []) 2000 136 p136_3.1 Heap.empty) = some p136_3.2 := by kernel_rfl
theorem e140_2 : sealR (ev (EnA [] [] [] [] [p84_3] [] [] [] [] [] [p135_5] [] [] [] [] [] [] [] [] [] [] []) 2000 140 p140_2.1 Heap.empty) = some p140_2.2 := by kernel_rfl
theorem e194_1 : sealR (ev (EnA [] [] [] [] [] [] [] [] [] [] [] [] [] [] [] [] [] [] [] [] [] []) 2000 194 p194_1.1 Heap.empty) = some p194_1.2 := by kernel_rfl
theorem e194_10 : sealR (ev (EnA [] [] [] [] [] [] [] [] [] [] [] [] [] [] [] [] [] [] [] [] [] []) 2000 194 p194_10.1 Heap.empty) = some p194_10.2 := by kernel_rfl
end Go.Am
set_option maxRecDepth 100000
namespace Go.Am
open Go
theorem e54_0 : sealR (ev (EnA [] [] [] [] [] [] [] [] [] [] [] [] [] [] [] [] [] [] [] [] [] []) 2000 54 p54_0.1 Heap.empty) = some p54_0.2 := by kernel_rfl
theorem e54_8 : sealR (ev (EnA [] [] [] [] [] [] [] [] [] [] [] [] [] [] [] [] [] [] [] [] [] []) 2000 54 p54_8.1 Heap.empty) = some p54_8.2 := by kernel_rfl
theorem e54_11 : sealR (ev (EnA [p97_3] [] [p113_34] [] [] [] [] [] [] [] [] [] [] [] [] [] [] [] [] [] [] []) 2000 54 p54_11.1 Heap.empty) = some p54_11.2 := by kernel_rfl
theorem e55_5 : sealR (ev (EnA [] [] [] [] [] [] [] [] [] [] [] [] [] [] [] [] [] [] [] [] [] []) 2000 55 p55_5.1 Heap.empty) = some p55_5.2 := by kernel_rfl
theorem e56_3 : sealR (ev (EnA [] [] [] [] [] [] [] [] [] [] [] [] [] [] [] [] [] [] [] [] [] []) 2000 56 p56_3.1 Heap.empty) = some p56_3.2 := by kernel_rfl
theorem e69_6 : sealR (ev (EnA [] [] [] [] [] [] [] [] [] [] [] [] [] [] [] [] [] [] [] [] [] []) 2000 69 p69_6.1 Heap.empty) = some p69_6.2 := by kernel_rfl
theorem e69_14 : sealR (ev (EnA [] [] [] [] [] [] [] [] [] [] [] [] [] [] [] [] [] [] [] [] [] []) 2000 69 p69_14.1 Heap.empty) = some p69_14.2 := by kernel_rfl
theorem e84_3 : sealR (ev (EnA [] [] [p113_4] [] [] [] [] [] [] [] [] [] [] [] [] [] [] [] [] [] [] []) 2000 84 p84_3.1 Heap.empty) = some p84_3.2 := by kernel_rfl
theorem e84_4 : sealR (ev (EnA [] [] [p113_24,p113_25,p113_4] [p194_16,p194_17] [] [] [] [] [] [] [] [] [] [] [] [] [] [] [] [] [] []) 2000 84 p84_4.1 Heap.empty) = some p84_4.2 := by kernel_rfl
theorem e97_0 : sealR (ev (EnA [] [] [] [] [] [] [] [] [] [] [] [] [] [] [] [] [] [] [] [] [] []) 2000 97 p97_0.1 Heap.empty) = some p97_0.2 := by kernel_rfl
theorem e97_3 : sealR (ev (EnA [] [] [] [] [] [] [] [] [] [] [] [] [] [] [] [] [] [] [] [] [] []) 2000 97 p97_3.1 Heap.empty) = some p97_3.2 := by kernel_rfl
theorem e113_0 : sealR (ev (EnA [] [] [] [] [] [] [] [] [] [] [] [] [] [] [] [] [] [] [] [] [] []) 2000 113 p113_0.1 Heap.empty) = some p113_0.2 := by kernel_rfl
theorem e113_12 : sealR (ev (EnA [] [] [] [] [] [] [] [] [] [] [] [] [] [] [] [] [] [] [] [] [] []) 2000 113 p113_12.1 Heap.empty) = some p113_12.2 := by kernel_rfl
theorem e113_21 : sealR (ev (EnA [] [] [] [] [] [] [] [] [] [] [] [] [] [] [] [] [] [] [] [] [] []) 2000 113 p113_21.1 Heap.empty) = some p113_21.2 := by kernel_rfl
theorem e113_23 : sealR (ev (EnA [] [] [] [] [] [] [] [] [] [] [] [] [] [] [] [] [] [] [] [] [] []) 2000 113 p113_23.1 Heap.empty) = some p113_23.2 := by kernel_rfl
theorem e113_34 : sealR (ev (EnA [] [] [] [] [] [] [] [] [] [] [] [] [] [] [] [] [] [] [] [] [] []) 2000 113 p113_34.1 Heap.empty) = some p113_34.2 := by kernel_rfl
theorem e115_0 : sealR (ev (EnA [] [] [p113_0] [] [] [] [] [] [] [] [] [] [] [] [] [] [] [] [] [] [] []) 2000 115 p115_0.1 Heap.empty) = some p115_0.2 := by kernel_rfl
theorem e115_17 : sealR (ev (EnA [] [] [p113_29] [] [] [] [] [] [] [] [] [] [] [] [] [] [] [] [] [] [] []) 2000 115 p115_17.1 Heap.empty) = some p115_17.2 := by kernel_rfl
theorem e123_3 : sealR (ev (EnA [] [] [] [] [] [] [] [] [] [] [] [] [] [] [] [] [] [] [] [] [] []) 2000 123 p123_3.1 Heap.empty) = some p123_3.2 := by kernel_rfl
theorem e123_11 : sealR (ev (EnA [] [] [] [] [] [] [] [] [] [] [] [] [] [] [] [] [] [] [] [] [] []) 2000 123 p123_11.1 Heap.empty) = some p123_11.2 := by kernel_rfl
theorem e123_20 : sealR (ev (EnA [] [] [] [] [] [] [] [] [] [] [] [] [] [] [] [] [] [] [] [] [] []) 2000 123 p123_20.1 Heap.empty) = some p123_20.2 := by kernel_rfl
theorem e124_4 : sealR (ev (EnA [] [] [p113_7] [p194_6] [] [] [] [] [] [] [] [] [] [] [] [] [] [] [] [] [] []) 2000 124 p124_4.1 Heap.empty) = some p124_4.2 := by kernel_rfl
theorem e124_9 : sealR (ev (EnA [] [] [p113_20] [p194_12] [] [] [] [] [] [] [] [] [] [] [] [] [] [] [] [] [] []) 2000 124 p124_9.1 Heap.empty) = some p124_9.2 := by kernel_rfl
theorem e132_3 : sealR (ev (EnA [] [] [] [] [] [] [] [] [] [] [] [] [] [] [] [] [] [] [] [] [] []) 2000 132 p132_3.1 Heap.empty) = some p132_3.2 := by kernel_rfl
theorem e132_8 : sealR (ev (EnA [] [] [] [] [] [] [] [] [] [] [] [] [] [] [] [] [] [] [] [] [] []) 2000 132 p132_8.1 Heap.empty) = some p132_8.2 := by kernel_rfl
theorem e132_9 : sealR (ev (EnA [] [] [] [] [] [] [] [] [] [] [] [] [] [] [] [] [] [] [] [] [] []) 2000 132 p132_9.1 Heap.empty) = some p132_9.2 := by kernel_rfl
theorem e132_13 : sealR (ev (EnA [] [p123_2] [p113_30] [] [] [] [] [] [] [] [] [] [] [] [] [] [] [] [] [] [] []) 2000 132 p132_13.1 Heap.empty) = some p132_13.2 := by kernel_rfl
theorem e194_4 : sealR (ev (EnA [] [] [] [] [] [] [] [] [] [] [] [] [] [] [] [] [] [] [] [] [] []) 2000 194 p194_4.1 Heap.empty) = some p194_4.2 := by kernel_rfl
theorem e194_14 : sealR (ev (EnA [] [] [] [] [] [] [] [] [] [] [] [] [] [] [] [] [] [] [] [] [] []) 2000 194 p194_14.1 Heap.empty) = some p194_14.2 := by kernel_rfl
theorem e302_0 : sealR (ev (EnA [] [p123_20] [] [] [] [] [] [] [] [] [] [] [] [] [] [] [] [] [] [] [] []) 2000 302 p302_0.1 Heap.empty) = some p302_0.2 := by kernel_rfl
end Go.Am
