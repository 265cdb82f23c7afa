import Derived.Test.YtnacifjcjnhgpaaGreatDoorFTab
import Derived.KernelRfl
set_option linter.all false
set_option maxRecDepth 100000
namespace Go.Am
open Go
theorem e9_0 : sealR (ev (EnA [] [p123_1,p123_3,p123_4,p123_5,p123_0] [] [] [] [p54_1,p54_2,p54_3,p54_0] [p55_1,p55_2,p55_3,p55_0] [p56_1,p56_2,p56_3,p56_0] [p115_1,p115_2,p115_0] [p132_1,p132_2,p132_3,p132_0] [p135_1,p135_0] [p136_1,p136_0] [] [p69_1,p69_2,p69_0] [p140_1,p140_0] [p124_1,p124_2,p124_0] [] [] [] [] [] []) 2000 9 p9_0.1 Heap.empty) = some p9_0.2 := by kernel_rfl
theorem e55_0 : sealR (ev (EnA [] [] [] [] [] [] [] [] [] [] [] [] [] [] [] [] [] [] [] [] [] []) 2000 55 p55_0.1 Heap.empty) = some p55_0.2 := by kernel_rfl
theorem e69_1 : sealR (ev (EnA [] [] [] [] [] [] [] [] [] [] [] [] [] [] [] [] [] [] [] [] [] []) 2000 69 p69_1.1 Heap.empty) = some p69_1.2 := by kernel_rfl
theorem e69_10 : sealR (ev (EnA [] [] [] [] [] [] [] [] [] [] [] [] [] [] [] [] [] [] [] [] [] []) 2000 69 p69_10.1 Heap.empty) = some p69_10.2 := by kernel_rfl
theorem e69_18 : sealR (ev (EnA [] [] [] [] [] [] [] [] [] [] [] [] [] [] [] [] [] [] [] [] [] []) 2000 69 p69_18.1 Heap.empty) = some p69_18.2 := by kernel_rfl
end Go.Am
set_option maxRecDepth 100000
namespace Go.Am
open Go
theorem e25_0 : sealR (ev (EnA [] [] [] [] [] [] [] [] [] [] [] [] [] [] [] [] [] [] [] [] [] []) 2000 25 p25_0.1 Heap.empty) = some p25_0.2 := by kernel_rfl
theorem e54_7 : sealR (ev (EnA [] [] [] [] [] [] [] [] [] [] [] [] [] [] [] [] [] [] [] [] [] []) 2000 54 p54_7.1 Heap.empty) = some p54_7.2 := by kernel_rfl
theorem e54_10 : sealR (ev (EnA [p97_2] [] [p113_31] [] [] [] [] [] [] [] [] [] [] [] [] [] [] [] [] [] [] []) 2000 54 p54_10.1 Heap.empty) = some p54_10.2 := by kernel_rfl
theorem e55_3 : sealR (ev (EnA [] [] [] [] [] [] [] [] [] [] [] [] [] [] [] [] [] [] [] [] [] []) 2000 55 p55_3.1 Heap.empty) = some p55_3.2 := by kernel_rfl
theorem e56_0 : sealR (ev (EnA [] [] [] [] [] [] [] [] [] [] [] [] [] [] [] [] [] [] [] [] [] []) 2000 56 p56_0.1 Heap.empty) = some p56_0.2 := by kernel_rfl
theorem e69_3 : sealR (ev (EnA [] [] [] [] [] [] [] [] [] [] [] [] [] [] [] [] [] [] [] [] [] []) 2000 69 p69_3.1 Heap.empty) = some p69_3.2 := by kernel_rfl
theorem e69_4 : sealR (ev (EnA [] [] [] [] [] [] [] [] [] [] [] [] [] [] [] [] [] [] [] [] [] []) 2000 69 p69_4.1 Heap.empty) = some p69_4.2 := by kernel_rfl
theorem e69_12 : sealR (ev (EnA [] [] [] [] [] [] [] [] [] [] [] [] [] [] [] [] [] [] [] [] [] []) 2000 69 p69_12.1 Heap.empty) = some p69_12.2 := by kernel_rfl
theorem e113_3 : sealR (ev (EnA [] [] [] [] [] [] [] [] [] [] [] [] [] [] [] [] [] [] [] [] [] []) 2000 113 p113_3.1 Heap.empty) = some p113_3.2 := by kernel_rfl
theorem e113_8 : sealR (ev (EnA [] [] [] [] [] [] [] [] [] [] [] [] [] [] [] [] [] [] [] [] [] []) 2000 113 p113_8.1 Heap.empty) = some p113_8.2 := by kernel_rfl
theorem e113_11 : sealR (ev (EnA [] [] [] [] [] [] [] [] [] [] [] [] [] [] [] [] [] [] [] [] [] []) 2000 113 p113_11.1 Heap.empty) = some p113_11.2 := by kernel_rfl
theorem e113_22 : sealR (ev (EnA [] [] [] [] [] [] [] [] [] [] [] [] [] [] [] [] [] [] [] [] [] []) 2000 113 p113_22.1 Heap.empty) = some p113_22.2 := by kernel_rfl
theorem e113_28 : sealR (ev (EnA [] [] [] [] [] [] [] [] [] [] [] [] [] [] [] [] [] [] [] [] [] []) 2000 113 p113_28.1 Heap.empty) = some p113_28.2 := by kernel_rfl
theorem e113_32 : sealR (ev (EnA [] [] [] [] [] [] [] [] [] [] [] [] [] [] [] [] [] [] [] [] [] []) 2000 113 p113_32.1 Heap.empty) = some p113_32.2 := by kernel_rfl
theorem e115_5 : sealR (ev (EnA [] [] [p113_7] [] [] [] [] [] [] [] [] [] [] [] [] [] [] [] [] [] [] []) 2000 115 p115_5.1 Heap.empty) = some p115_5.2 := by kernel_rfl
theorem e115_6 : sealR (ev (EnA [] [] [p113_9] [] [] [] [] [] [] [] [] [] [] [] [] [] [] [] [] [] [] []) 2000 115 p115_6.1 Heap.empty) = some p115_6.2 := by kernel_rfl
theorem e115_18 : sealR (ev (EnA [] [] [p113_32] [] [] [] [] [] [] [] [] [] [] [] [] [] [] [] [] [] [] []) 2000 115 p115_18.1 Heap.empty) = some p115_18.2 := by kernel_rfl
theorem e123_0 : sealR (ev (EnA [] [] [] [] [] [] [] [] [] [] [] [] [] [] [] [] [] [] [] [] [] []) 2000 123 p123_0.1 Heap.empty) = some p123_0.2 := by kernel_rfl
theorem e123_9 : sealR (ev (EnA [] [] [] [] [] [] [] [] [] [] [] [] [] [] [] [] [] [] [] [] [] []) 2000 123 p123_9.1 Heap.empty) = some p123_9.2 := by kernel_rfl
theorem e123_18 : sealR (ev (EnA [] [] [] [] [] [] [] [] [] [] [] [] [] [] [] [] [] [] [] [] [] []) 2000 123 p123_18.1 Heap.empty) = some p123_18.2 := by kernel_rfl
theorem e124_1 : sealR (ev (EnA [] [] [p113_1] [p194_1] [] [] [] [] [] [] [] [] [] [] [] [] [] [] [] [] [] []) 2000 124 p124_1.1 Heap.empty) = some p124_1.2 := by kernel_rfl
theorem e124_5 : sealR (ev (EnA [] [] [p113_15] [p194_8] [] [] [] [] [] [] [] [] [] [] [] [] [] [] [] [] [] []) 2000 124 p124_5.1 Heap.empty) = some p124_5.2 := by kernel_rfl
theorem e124_14 : sealR (ev (EnA [] [] [p113_32] [p194_20] [] [] [] [] [] [] [] [] [] [] [] [] [] [] [] [] [] []) 2000 124 p124_14.1 Heap.empty) = some p124_14.2 := by kernel_rfl
theorem e132_10 : sealR (ev (EnA [] [] [] [] [] [] [] [] [] [] [] [] [] [] [] [] [] [] [] [] [] []) 2000 132 p132_10.1 Heap.empty) = some p132_10.2 := by kernel_rfl
theorem e135_7 : sealR (ev (EnA [] [] [] [] [] [] [] [] [] [] [] [] [] [] [] [] [] [] [] [] [] []) 2000 135 p135_7.1 Heap.empty) = some p135_7.2 := by kernel_rfl
theorem e194_6 : sealR (ev (EnA [] [] [] [] [] [] [] [] [] [] [] [] [] [] [] [] [] [] [] [] [] []) 2000 194 p194_6.1 Heap.empty) = some p194_6.2 := by kernel_rfl
theorem e194_18 : sealR (ev (EnA [] [] [] [] [] [] [] [] [] [] [] [] [] [] [] [] [] [] [] [] [] []) 2000 194 p194_18.1 Heap.empty) = some p194_18.2 := by kernel_rfl
theorem e202_0 : sealR (ev (EnA [] [] [] [] [] [] [] [] [] [] [] [] [] [] [] [] [] [] [] [] [] []) 2000 202 p202_0.1 Heap.empty) = some p202_0.2 := by kernel_rfl
theorem e204_0 : sealR (ev (EnA [] [] [] [] [] [] [] [] [] [] [] [] [] [] [] [] [] [] [] [] [] [p206_0]) 2000 204 p204_0.1 Heap.empty) = some p204_0.2 := by kernel_rfl
end Go.Am
