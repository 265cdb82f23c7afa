import Derived.Test.YtpcijpelimgnmaaGreatDoorAmF
import Derived.Test.YtpcijpelimgnmaaGreatDoorCCodeB
import Derived.Test.YtpcijpelimgnmaaGreatDoorProg
import Derived.KernelRfl
set_option linter.all false
set_option maxRecDepth 100000
namespace Go.Am
open Go
theorem ok3 : chkFn Go.Proofs.Tryz.prog (chkD Go.Proofs.Tryz.prog) 3 fn3 = true := by kernel_rfl
theorem ok9 : chkFn Go.Proofs.Tryz.prog (chkD Go.Proofs.Tryz.prog) 9 fn9 = true := by kernel_rfl
theorem ok14 : chkFn Go.Proofs.Tryz.prog (chkD Go.Proofs.Tryz.prog) 14 fn14 = true := by kernel_rfl
theorem ok19 : chkFn Go.Proofs.Tryz.prog (chkD Go.Proofs.Tryz.prog) 19 fn19 = true := by kernel_rfl
theorem ok24 : chkFn Go.Proofs.Tryz.prog (chkD Go.Proofs.Tryz.prog) 24 fn24 = true := by kernel_rfl
theorem ok33 : chkFn Go.Proofs.Tryz.prog (chkD Go.Proofs.Tryz.prog) 33 fn33 = true := by kernel_rfl
theorem ok40 : chkFn Go.Proofs.Tryz.prog (chkD Go.Proofs.Tryz.prog) 40 fn40 = true := by kernel_rfl
theorem ok46 : chkFn Go.Proofs.Tryz.prog (chkD Go.Proofs.Tryz.prog) 46 fn46 = true := by kernel_rfl
theorem ok50 : chkFn Go.Proofs.Tryz.prog (chkD Go.Proofs.Tryz.prog) 50 fn50 = true := by kernel_rfl
theorem ok57 : chkFn Go.Proofs.Tryz.prog (chkD Go.Proofs.Tryz.prog) 57 fn57 = true := by kernel_rfl
theorem ok68 : chkFn Go.Proofs.Tryz.prog (chkD Go.Proofs.Tryz.prog) 68 fn68 = true := by kernel_rfl
theorem ok78 : chkFn Go.Proofs.Tryz.prog (chkD Go.Proofs.Tryz.prog) 78 fn78 = true := by kernel_rfl
theorem ok84 : chkFn Go.Proofs.Tryz.prog (chkD Go.Proofs.Tryz.prog) 84 fn84 = true := by kernel_rfl
theorem ok88 : chkFn Go.Proofs.Tryz.prog (chkD Go.Proofs.Tryz.prog) 88 fn88 = true := by kernel_rfl
theorem ok92 : chkFn Go.Proofs.Tryz.prog (chkD Go.Proofs.Tryz.prog) 92 fn92 = true := by kernel_rfl
theorem ok96 : chkFn Go.Proofs.Tryz.prog (chkD Go.Proofs.Tryz.prog) 96 fn96 = true := by kernel_rfl
theorem ok109 : chkFn Go.Proofs.Tryz.prog (chkD Go.Proofs.Tryz.prog) 109 fn109 = true := by kernel_rfl
theorem ok114 : chkFn Go.Proofs.Tryz.prog (chkD Go.Proofs.Tryz.prog) 114 fn114 = true := by kernel_rfl
theorem ok129 : chkFn Go.Proofs.Tryz.prog (chkD Go.Proofs.Tryz.prog) 129 fn129 = true := by kernel_rfl
theorem ok133 : chkFn Go.Proofs.Tryz.prog (chkD Go.Proofs.Tryz.prog) 133 fn133 = true := by kernel_rfl
theorem ok140 : chkFn Go.Proofs.Tryz.prog (chkD Go.Proofs.Tryz.prog) 140 fn140 = true := by kernel_rfl
theorem ok152 : chkFn Go.Proofs.Tryz.prog (chkD Go.Proofs.Tryz.prog) 152 fn152 = true := by kernel_rfl
theorem ok158 : chkFn Go.Proofs.Tryz.prog (chkD Go.Proofs.Tryz.prog) 158 fn158 = true := by kernel_rfl
theorem ok165 : chkFn Go.Proofs.Tryz.prog (chkD Go.Proofs.Tryz.prog) 165 fn165 = true := by kernel_rfl
theorem ok206 : chkFn Go.Proofs.Tryz.prog (chkD Go.Proofs.Tryz.prog) 206 fn206 = true := by kernel_rfl
theorem ok216 : chkFn Go.Proofs.Tryz.prog (chkD Go.Proofs.Tryz.prog) 216 fn216 = true := by kernel_rfl
theorem ok221 : chkFn Go.Proofs.Tryz.prog (chkD Go.Proofs.Tryz.prog) 221 fn221 = true := by kernel_rfl
theorem ok228 : chkFn Go.Proofs.Tryz.prog (chkD Go.Proofs.Tryz.prog) 228 fn228 = true := by kernel_rfl
theorem ok244 : chkFn Go.Proofs.Tryz.prog (chkD Go.Proofs.Tryz.prog) 244 fn244 = true := by kernel_rfl
theorem ok258 : chkFn Go.Proofs.Tryz.prog (chkD Go.Proofs.Tryz.prog) 258 fn258 = true := by kernel_rfl
theorem ok287 : chkFn Go.Proofs.Tryz.prog (chkD Go.Proofs.Tryz.prog) 287 fn287 = true := by kernel_rfl
theorem ok297 : chkFn Go.Proofs.Tryz.prog (chkD Go.Proofs.Tryz.prog) 297 fn297 = true := by kernel_rfl
end Go.Am
set_option maxRecDepth 100000
namespace Go.Am
open Go
theorem ok6 : chkFn Go.Proofs.Tryz.prog (chkD Go.Proofs.Tryz.prog) 6 fn6 = true := by kernel_rfl
theorem ok11 : chkFn Go.Proofs.Tryz.prog (chkD Go.Proofs.Tryz.prog) 11 fn11 = true := by kernel_rfl
theorem ok16 : chkFn Go.Proofs.Tryz.prog (chkD Go.Proofs.Tryz.prog) 16 fn16 = true := by kernel_rfl
theorem ok21 : chkFn Go.Proofs.Tryz.prog (chkD Go.Proofs.Tryz.prog) 21 fn21 = true := by kernel_rfl
theorem ok26 : chkFn Go.Proofs.Tryz.prog (chkD Go.Proofs.Tryz.prog) 26 fn26 = true := by kernel_rfl
theorem ok35 : chkFn Go.Proofs.Tryz.prog (chkD Go.Proofs.Tryz.prog) 35 fn35 = true := by kernel_rfl
theorem ok41 : chkFn Go.Proofs.Tryz.prog (chkD Go.Proofs.Tryz.prog) 41 fn41 = true := by kernel_rfl
theorem ok47 : chkFn Go.Proofs.Tryz.prog (chkD Go.Proofs.Tryz.prog) 47 fn47 = true := by kernel_rfl
theorem ok51 : chkFn Go.Proofs.Tryz.prog (chkD Go.Proofs.Tryz.prog) 51 fn51 = true := by kernel_rfl
theorem ok64 : chkFn Go.Proofs.Tryz.prog (chkD Go.Proofs.Tryz.prog) 64 fn64 = true := by kernel_rfl
theorem ok70 : chkFn Go.Proofs.Tryz.prog (chkD Go.Proofs.Tryz.prog) 70 fn70 = true := by kernel_rfl
theorem ok79 : chkFn Go.Proofs.Tryz.prog (chkD Go.Proofs.Tryz.prog) 79 fn79 = true := by kernel_rfl
theorem ok85 : chkFn Go.Proofs.Tryz.prog (chkD Go.Proofs.Tryz.prog) 85 fn85 = true := by kernel_rfl
theorem ok89 : chkFn Go.Proofs.Tryz.prog (chkD Go.Proofs.Tryz.prog) 89 fn89 = true := by kernel_rfl
theorem ok93 : chkFn Go.Proofs.Tryz.prog (chkD Go.Proofs.Tryz.prog) 93 fn93 = true := by kernel_rfl
theorem ok97 : chkFn Go.Proofs.Tryz.prog (chkD Go.Proofs.Tryz.prog) 97 fn97 = true := by kernel_rfl
theorem ok110 : chkFn Go.Proofs.Tryz.prog (chkD Go.Proofs.Tryz.prog) 110 fn110 = true := by kernel_rfl
theorem ok115 : chkFn Go.Proofs.Tryz.prog (chkD Go.Proofs.Tryz.prog) 115 fn115 = true := by kernel_rfl
theorem ok130 : chkFn Go.Proofs.Tryz.prog (chkD Go.Proofs.Tryz.prog) 130 fn130 = true := by kernel_rfl
theorem ok136 : chkFn Go.Proofs.Tryz.prog (chkD Go.Proofs.Tryz.prog) 136 fn136 = true := by kernel_rfl
theorem ok146 : chkFn Go.Proofs.Tryz.prog (chkD Go.Proofs.Tryz.prog) 146 fn146 = true := by kernel_rfl
theorem ok153 : chkFn Go.Proofs.Tryz.prog (chkD Go.Proofs.Tryz.prog) 153 fn153 = true := by kernel_rfl
theorem ok159 : chkFn Go.Proofs.Tryz.prog (chkD Go.Proofs.Tryz.prog) 159 fn159 = true := by kernel_rfl
theorem ok182 : chkFn Go.Proofs.Tryz.prog (chkD Go.Proofs.Tryz.prog) 182 fn182 = true := by kernel_rfl
theorem ok208 : chkFn Go.Proofs.Tryz.prog (chkD Go.Proofs.Tryz.prog) 208 fn208 = true := by kernel_rfl
theorem ok217 : chkFn Go.Proofs.Tryz.prog (chkD Go.Proofs.Tryz.prog) 217 fn217 = true := by kernel_rfl
theorem ok223 : chkFn Go.Proofs.Tryz.prog (chkD Go.Proofs.Tryz.prog) 223 fn223 = true := by kernel_rfl
theorem ok239 : chkFn Go.Proofs.Tryz.prog (chkD Go.Proofs.Tryz.prog) 239 fn239 = true := by kernel_rfl
theorem ok245 : chkFn Go.Proofs.Tryz.prog (chkD Go.Proofs.Tryz.prog) 245 fn245 = true := by kernel_rfl
theorem ok266 : chkFn Go.Proofs.Tryz.prog (chkD Go.Proofs.Tryz.prog) 266 fn266 = true := by kernel_rfl
theorem ok292 : chkFn Go.Proofs.Tryz.prog (chkD Go.Proofs.Tryz.prog) 292 fn292 = true := by kernel_rfl
theorem ok300 : chkFn Go.Proofs.Tryz.prog (chkD Go.Proofs.Tryz.prog) 300 fn300 = true := by kernel_rfl
end Go.Am
