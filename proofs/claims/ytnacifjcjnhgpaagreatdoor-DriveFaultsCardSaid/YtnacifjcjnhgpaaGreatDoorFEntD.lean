import Derived.Test.YtnacifjcjnhgpaaGreatDoorFTab
import Derived.KernelRfl
set_option linter.all false
set_option maxRecDepth 100000
namespace Go.Am
open Go
theorem e54_1 : sealR (ev (EnA [] [] [] [] [] [] [] [] [] [] [] [] [] [] [] [] [] [] [] [] [] []) 2000 54 p54_1.1 Heap.empty) = some p54_1.2 := by kernel_rfl
theorem e55_6 : sealR (ev (EnA [] [] [] [] [] [] [] [] [] [] [] [] [] [] [] [] [] [] [] [] [] []) 2000 55 p55_6.1 Heap.empty) = some p55_6.2 := by kernel_rfl
theorem e55_8 : sealR (ev (EnA [p97_1] [] [] [] [] [] [] [] [] [] [] [] [] [] [] [] [] [] [] [] [] []) 2000 55 p55_8.1 Heap.empty) = some p55_8.2 := by kernel_rfl
theorem e56_2 : sealR (ev (EnA [] [] [] [] [] [] [] [] [] [] [] [] [] [] [] [] [] [] [] [] [] []) 2000 56 p56_2.1 Heap.empty) = some p56_2.2 := by kernel_rfl
theorem e56_5 : sealR (ev (EnA [] [] [] [] [] [] [] [] [] [] [] [] [] [] [] [] [] [] [] [] [] []) 2000 56 p56_5.1 Heap.empty) = some p56_5.2 := by kernel_rfl
theorem e56_8 : sealR (ev (EnA [p97_1] [] [] [] [] [] [] [] [] [] [] [] [] [] [] [] [] [] [] [] [] []) 2000 56 p56_8.1 Heap.empty) = some p56_8.2 := by kernel_rfl
theorem e69_8 : sealR (ev (EnA [] [] [] [] [] [] [] [] [] [] [] [] [] [] [] [] [] [] [] [] [] []) 2000 69 p69_8.1 Heap.empty) = some p69_8.2 := by kernel_rfl
theorem e69_16 : sealR (ev (EnA [] [] [] [] [] [] [] [] [] [] [] [] [] [] [] [] [] [] [] [] [] []) 2000 69 p69_16.1 Heap.empty) = some p69_16.2 := by kernel_rfl
theorem e113_9 : sealR (ev (EnA [] [] [] [] [] [] [] [] [] [] [] [] [] [] [] [] [] [] [] [] [] []) 2000 113 p113_9.1 Heap.empty) = some p113_9.2 := by kernel_rfl
theorem e113_13 : sealR (ev (EnA [] [] [] [] [] [] [] [] [] [] [] [] [] [] [] [] [] [] [] [] [] []) 2000 113 p113_13.1 Heap.empty) = some p113_13.2 := by kernel_rfl
theorem e113_17 : sealR (ev (EnA [] [] [] [] [] [] [] [] [] [] [] [] [] [] [] [] [] [] [] [] [] []) 2000 113 p113_17.1 Heap.empty) = some p113_17.2 := by kernel_rfl
theorem e113_29 : sealR (ev (EnA [] [] [] [] [] [] [] [] [] [] [] [] [] [] [] [] [] [] [] [] [] []) 2000 113 p113_29.1 Heap.empty) = some p113_29.2 := by kernel_rfl
theorem e113_30 : sealR (ev (EnA [] [] [] [] [] [] [] [] [] [] [] [] [] [] [] [] [] [] [] [] [] []) 2000 113 p113_30.1 Heap.empty) = some p113_30.2 := by kernel_rfl
theorem e115_11 : sealR (ev (EnA [] [] [p113_17] [] [] [] [] [] [] [] [] [] [] [] [] [] [] [] [] [] [] []) 2000 115 p115_11.1 Heap.empty) = some p115_11.2 := by kernel_rfl
theorem e115_13 : sealR (ev (EnA [] [] [p113_20] [] [] [] [] [] [] [] [] [] [] [] [] [] [] [] [] [] [] []) 2000 115 p115_13.1 Heap.empty) = some p115_13.2 := by kernel_rfl
theorem e123_1 : sealR (ev (EnA [] [] [] [] [] [] [] [] [] [] [] [] [] [] [] [] [] [] [] [] [] []) 2000 123 p123_1.1 Heap.empty) = some p123_1.2 := by kernel_rfl
theorem e123_2 : sealR (ev (EnA [] [] [] [] [] [] [] [] [] [] [] [] [] [] [] [] [] [] [] [] [] []) 2000 123 p123_2.1 Heap.empty) = some p123_2.2 := by kernel_rfl
theorem e123_6 : sealR (ev (EnA [] [] [] [] [] [] [] [] [] [] [] [] [] [] [] [] [] [] [] [] [] []) 2000 123 p123_6.1 Heap.empty) = some p123_6.2 := by kernel_rfl
theorem e123_10 : sealR (ev (EnA [] [] [] [] [] [] [] [] [] [] [] [] [] [] [] [] [] [] [] [] [] []) 2000 123 p123_10.1 Heap.empty) = some p123_10.2 := by kernel_rfl
theorem e123_19 : sealR (ev (EnA [] [] [] [] [] [] [] [] [] [] [] [] [] [] [] [] [] [] [] [] [] []) 2000 123 p123_19.1 Heap.empty) = some p123_19.2 := by kernel_rfl
theorem e124_6 : sealR (ev (EnA [] [] [p113_16] [p194_9] [] [] [] [] [] [] [] [] [] [] [] [] [] [] [] [] [] []) 2000 124 p124_6.1 Heap.empty) = some p124_6.2 := by kernel_rfl
theorem e124_7 : sealR (ev (EnA [] [] [p113_17] [p194_10] [] [] [] [] [] [] [] [] [] [] [] [] [] [] [] [] [] []) 2000 124 p124_7.1 Heap.empty) = some p124_7.2 := by kernel_rfl
theorem e124_8 : sealR (ev (EnA [] [] [p113_18] [p194_11] [] [] [] [] [] [] [] [] [] [] [] [] [] [] [] [] [] []) 2000 124 p124_8.1 Heap.empty) = some p124_8.2 := by kernel_rfl
theorem e132_5 : sealR (ev (EnA [] [p123_2] [p113_8] [] [] [] [] [] [] [] [] [] [] [] [] [] [] [] [] [] [] []) 2000 132 p132_5.1 Heap.empty) = some p132_5.2 := by kernel_rfl
theorem e135_0 : sealR (ev (EnA [] [] [] [] [] [] [] [] [] [] [] [] [] [] [] [] [] [] [] [] [] []) 2000 135 p135_0.1 Heap.empty) = some p135_0.2 := by kernel_rfl
theorem e135_1 : sealR (ev (EnA [] [] [] [] [] [] [] [] [] [] [] [] [] [] [] [] [] [] [] [] [] []) 2000 135 p135_1.1 Heap.empty) = some p135_1.2 := by kernel_rfl
theorem e135_5 : sealR (ev (EnA [] [] [] [] [] [] [] [] [] [] [] [] [] [] [] [] [] [] [] [] [] []) 2000 135 p135_5.1 Heap.empty) = some p135_5.2 := by kernel_rfl
theorem e140_1 : sealR (ev (EnA [] [] [] [] [p84_0,p84_1] [] [] [] [] [] [p135_2,p135_3] [] [p25_0] [] [] [] [] [] [] [] [] []) 2000 140 p140_1.1 Heap.empty) = some p140_1.2 := by kernel_rfl
theorem e194_15 : sealR (ev (EnA [] [] [] [] [] [] [] [] [] [] [] [] [] [] [] [] [] [] [] [] [] []) 2000 194 p194_15.1 Heap.empty) = some p194_15.2 := by kernel_rfl
theorem e194_20 : sealR (ev (EnA [] [] [] [] [] [] [] [] [] [] [] [] [] [] [] [] [] [] [] [] [] []) 2000 194 p194_20.1 Heap.empty) = some p194_20.2 := by kernel_rfl
end Go.Am
set_option maxRecDepth 100000
namespace Go.Am
open Go
theorem e54_2 : sealR (ev (EnA [p97_0] [] [p113_4] [] [] [] [] [] [] [] [] [] [] [] [] [] [] [] [] [] [] []) 2000 54 p54_2.1 Heap.empty) = some p54_2.2 := by kernel_rfl
theorem e54_3 : sealR (ev (EnA [] [] [] [] [] [] [] [] [] [] [] [] [] [] [] [] [] [] [] [] [] []) 2000 54 p54_3.1 Heap.empty) = some p54_3.2 := by kernel_rfl
theorem e55_2 : sealR (ev (EnA [] [] [] [] [] [] [] [] [] [] [] [] [] [] [] [] [] [] [] [] [] []) 2000 55 p55_2.1 Heap.empty) = some p55_2.2 := by kernel_rfl
theorem e55_7 : sealR (ev (EnA [] [] [] [] [] [] [] [] [] [] [] [] [] [] [] [] [] [] [] [] [] []) 2000 55 p55_7.1 Heap.empty) = some p55_7.2 := by kernel_rfl
theorem e56_6 : sealR (ev (EnA [] [] [] [] [] [] [] [] [] [] [] [] [] [] [] [] [] [] [] [] [] []) 2000 56 p56_6.1 Heap.empty) = some p56_6.2 := by kernel_rfl
theorem e69_9 : sealR (ev (EnA [] [] [] [] [] [] [] [] [] [] [] [] [] [] [] [] [] [] [] [] [] []) 2000 69 p69_9.1 Heap.empty) = some p69_9.2 := by kernel_rfl
theorem e69_17 : sealR (ev (EnA [] [] [] [] [] [] [] [] [] [] [] [] [] [] [] [] [] [] [] [] [] []) 2000 69 p69_17.1 Heap.empty) = some p69_17.2 := by kernel_rfl
theorem e84_2 : sealR (ev (EnA [] [] [p113_21,p113_4] [p194_13] [] [] [] [] [] [] [] [] [] [] [] [] [] [] [] [] [] []) 2000 84 p84_2.1 Heap.empty) = some p84_2.2 := by kernel_rfl
theorem e113_6 : sealR (ev (EnA [] [] [] [] [] [] [] [] [] [] [] [] [] [] [] [] [] [] [] [] [] []) 2000 113 p113_6.1 Heap.empty) = some p113_6.2 := by kernel_rfl
theorem e113_15 : sealR (ev (EnA [] [] [] [] [] [] [] [] [] [] [] [] [] [] [] [] [] [] [] [] [] []) 2000 113 p113_15.1 Heap.empty) = some p113_15.2 := by kernel_rfl
theorem e113_18 : sealR (ev (EnA [] [] [] [] [] [] [] [] [] [] [] [] [] [] [] [] [] [] [] [] [] []) 2000 113 p113_18.1 Heap.empty) = some p113_18.2 := by kernel_rfl
theorem e113_26 : sealR (ev (EnA [] [] [] [] [] [] [] [] [] [] [] [] [] [] [] [] [] [] [] [] [] []) 2000 113 p113_26.1 Heap.empty) = some p113_26.2 := by kernel_rfl
theorem e113_31 : sealR (ev (EnA [] [] [] [] [] [] [] [] [] [] [] [] [] [] [] [] [] [] [] [] [] []) 2000 113 p113_31.1 Heap.empty) = some p113_31.2 := by kernel_rfl
theorem e115_1 : sealR (ev (EnA [] [] [p113_1] [] [] [] [] [] [] [] [] [] [] [] [] [] [] [] [] [] [] []) 2000 115 p115_1.1 Heap.empty) = some p115_1.2 := by kernel_rfl
theorem e115_9 : sealR (ev (EnA [] [] [p113_12,p113_13,p113_14] [p194_7] [] [] [] [] [] [] [] [] [] [] [] [] [] [] [] [] [] []) 2000 115 p115_9.1 Heap.empty) = some p115_9.2 := by kernel_rfl
theorem e115_10 : sealR (ev (EnA [] [] [p113_15] [] [] [] [] [] [] [] [] [] [] [] [] [] [] [] [] [] [] []) 2000 115 p115_10.1 Heap.empty) = some p115_10.2 := by kernel_rfl
theorem e115_14 : sealR (ev (EnA [] [] [p113_22] [] [] [] [] [] [] [] [] [] [] [] [] [] [] [] [] [] [] []) 2000 115 p115_14.1 Heap.empty) = some p115_14.2 := by kernel_rfl
theorem e123_5 : sealR (ev (EnA [] [] [] [] [] [] [] [] [] [] [] [] [] [] [] [] [] [] [] [] [] []) 2000 123 p123_5.1 Heap.empty) = some p123_5.2 := by kernel_rfl
theorem e123_14 : sealR (ev (EnA [] [] [] [] [] [] [] [] [] [] [] [] [] [] [] [] [] [] [] [] [] []) 2000 123 p123_14.1 Heap.empty) = some p123_14.2 := by kernel_rfl
theorem e123_15 : sealR (ev (EnA [] [] [] [] [] [] [] [] [] [] [] [] [] [] [] [] [] [] [] [] [] []) 2000 123 p123_15.1 Heap.empty) = some p123_15.2 := by kernel_rfl
theorem e124_0 : sealR (ev (EnA [] [] [p113_0] [p194_0] [] [] [] [] [] [] [] [] [] [] [] [] [] [] [] [] [] []) 2000 124 p124_0.1 Heap.empty) = some p124_0.2 := by kernel_rfl
theorem e132_11 : sealR (ev (EnA [] [] [] [] [] [] [] [] [] [] [] [] [] [] [] [] [] [] [] [] [] []) 2000 132 p132_11.1 Heap.empty) = some p132_11.2 := by kernel_rfl
theorem e135_2 : sealR (ev (EnA [] [] [] [] [] [] [] [] [] [] [] [] [] [] [] [] [] [] [] [] [] []) 2000 135 p135_2.1 Heap.empty) = some p135_2.2 := by kernel_rfl
theorem e135_3 : sealR (ev (EnA [] [] [] [] [] [] [] [] [] [] [] [] [] [] [] [] [] [] [] [] [] []) 2000 135 p135_3.1 Heap.empty) = some p135_3.2 := by kernel_rfl
theorem e140_0 : sealR (ev (EnA [] [] [] [] [] [] [] [] [] [] [p135_0] [] [] [] [] [] [] [] [] [] [] []) 2000 140 p140_0.1 Heap.empty) = some p140_0.2 := by kernel_rfl
theorem e194_5 : sealR (ev (EnA [] [] [] [] [] [] [] [] [] [] [] [] [] [] [] [] [] [] [] [] [] []) 2000 194 p194_5.1 Heap.empty) = some p194_5.2 := by kernel_rfl
theorem e194_7 : sealR (ev (EnA [] [] [] [] [] [] [] [] [] [] [] [] [] [] [] [] [] [] [] [] [] []) 2000 194 p194_7.1 Heap.empty) = some p194_7.2 := by kernel_rfl
theorem e194_12 : sealR (ev (EnA [] [] [] [] [] [] [] [] [] [] [] [] [] [] [] [] [] [] [] [] [] []) 2000 194 p194_12.1 Heap.empty) = some p194_12.2 := by kernel_rfl
theorem e194_16 : sealR (ev (EnA [] [] [] [] [] [] [] [] [] [] [] [] [] [] [] [] [] [] [] [] [] []) 2000 194 p194_16.1 Heap.empty) = some p194_16.2 := by kernel_rfl
theorem e206_0 : sealR (ev (EnA [] [] [] [] [] [] [] [] [] [] [] [] [] [] [] [] [] [] [] [] [] []) 2000 206 p206_0.1 Heap.empty) = some p206_0.2 := by kernel_rfl
end Go.Am
