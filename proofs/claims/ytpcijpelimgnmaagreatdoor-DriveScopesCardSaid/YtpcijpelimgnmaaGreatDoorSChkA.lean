import Derived.Test.YtpcijpelimgnmaaGreatDoorAmF
import Derived.Test.YtpcijpelimgnmaaGreatDoorSCodeB
import Derived.Test.YtpcijpelimgnmaaGreatDoorProg
import Derived.KernelRfl
set_option linter.all false
set_option maxRecDepth 100000
namespace Go.Am
open Go
theorem ok4 : chkFn Go.Proofs.Tryz.prog (chkD Go.Proofs.Tryz.prog) 4 fn4 = true := by kernel_rfl
theorem ok11 : chkFn Go.Proofs.Tryz.prog (chkD Go.Proofs.Tryz.prog) 11 fn11 = true := by kernel_rfl
theorem ok15 : chkFn Go.Proofs.Tryz.prog (chkD Go.Proofs.Tryz.prog) 15 fn15 = true := by kernel_rfl
theorem ok19 : chkFn Go.Proofs.Tryz.prog (chkD Go.Proofs.Tryz.prog) 19 fn19 = true := by kernel_rfl
theorem ok24 : chkFn Go.Proofs.Tryz.prog (chkD Go.Proofs.Tryz.prog) 24 fn24 = true := by kernel_rfl
theorem ok33 : chkFn Go.Proofs.Tryz.prog (chkD Go.Proofs.Tryz.prog) 33 fn33 = true := by kernel_rfl
theorem ok39 : chkFn Go.Proofs.Tryz.prog (chkD Go.Proofs.Tryz.prog) 39 fn39 = true := by kernel_rfl
theorem ok45 : chkFn Go.Proofs.Tryz.prog (chkD Go.Proofs.Tryz.prog) 45 fn45 = true := by kernel_rfl
theorem ok49 : chkFn Go.Proofs.Tryz.prog (chkD Go.Proofs.Tryz.prog) 49 fn49 = true := by kernel_rfl
theorem ok64 : chkFn Go.Proofs.Tryz.prog (chkD Go.Proofs.Tryz.prog) 64 fn64 = true := by kernel_rfl
theorem ok68 : chkFn Go.Proofs.Tryz.prog (chkD Go.Proofs.Tryz.prog) 68 fn68 = true := by kernel_rfl
theorem ok78 : chkFn Go.Proofs.Tryz.prog (chkD Go.Proofs.Tryz.prog) 78 fn78 = true := by kernel_rfl
theorem ok84 : chkFn Go.Proofs.Tryz.prog (chkD Go.Proofs.Tryz.prog) 84 fn84 = true := by kernel_rfl
theorem ok88 : chkFn Go.Proofs.Tryz.prog (chkD Go.Proofs.Tryz.prog) 88 fn88 = true := by kernel_rfl
theorem ok92 : chkFn Go.Proofs.Tryz.prog (chkD Go.Proofs.Tryz.prog) 92 fn92 = true := by kernel_rfl
theorem ok110 : chkFn Go.Proofs.Tryz.prog (chkD Go.Proofs.Tryz.prog) 110 fn110 = true := by kernel_rfl
theorem ok115 : chkFn Go.Proofs.Tryz.prog (chkD Go.Proofs.Tryz.prog) 115 fn115 = true := by kernel_rfl
theorem ok130 : chkFn Go.Proofs.Tryz.prog (chkD Go.Proofs.Tryz.prog) 130 fn130 = true := by kernel_rfl
theorem ok136 : chkFn Go.Proofs.Tryz.prog (chkD Go.Proofs.Tryz.prog) 136 fn136 = true := by kernel_rfl
theorem ok146 : chkFn Go.Proofs.Tryz.prog (chkD Go.Proofs.Tryz.prog) 146 fn146 = true := by kernel_rfl
theorem ok153 : chkFn Go.Proofs.Tryz.prog (chkD Go.Proofs.Tryz.prog) 153 fn153 = true := by kernel_rfl
theorem ok159 : chkFn Go.Proofs.Tryz.prog (chkD Go.Proofs.Tryz.prog) 159 fn159 = true := by kernel_rfl
theorem ok163 : chkFn Go.Proofs.Tryz.prog (chkD Go.Proofs.Tryz.prog) 163 fn163 = true := by kernel_rfl
theorem ok185 : chkFn Go.Proofs.Tryz.prog (chkD Go.Proofs.Tryz.prog) 185 fn185 = true := by kernel_rfl
theorem ok214 : chkFn Go.Proofs.Tryz.prog (chkD Go.Proofs.Tryz.prog) 214 fn214 = true := by kernel_rfl
theorem ok220 : chkFn Go.Proofs.Tryz.prog (chkD Go.Proofs.Tryz.prog) 220 fn220 = true := by kernel_rfl
theorem ok226 : chkFn Go.Proofs.Tryz.prog (chkD Go.Proofs.Tryz.prog) 226 fn226 = true := by kernel_rfl
theorem ok241 : chkFn Go.Proofs.Tryz.prog (chkD Go.Proofs.Tryz.prog) 241 fn241 = true := by kernel_rfl
theorem ok246 : chkFn Go.Proofs.Tryz.prog (chkD Go.Proofs.Tryz.prog) 246 fn246 = true := by kernel_rfl
theorem ok268 : chkFn Go.Proofs.Tryz.prog (chkD Go.Proofs.Tryz.prog) 268 fn268 = true := by kernel_rfl
theorem ok294 : chkFn Go.Proofs.Tryz.prog (chkD Go.Proofs.Tryz.prog) 294 fn294 = true := by kernel_rfl
theorem ok313 : chkFn Go.Proofs.Tryz.prog (chkD Go.Proofs.Tryz.prog) 313 fn313 = true := by kernel_rfl
end Go.Am
set_option maxRecDepth 100000
namespace Go.Am
open Go
theorem ok7 : chkFn Go.Proofs.Tryz.prog (chkD Go.Proofs.Tryz.prog) 7 fn7 = true := by kernel_rfl
theorem ok12 : chkFn Go.Proofs.Tryz.prog (chkD Go.Proofs.Tryz.prog) 12 fn12 = true := by kernel_rfl
theorem ok16 : chkFn Go.Proofs.Tryz.prog (chkD Go.Proofs.Tryz.prog) 16 fn16 = true := by kernel_rfl
theorem ok21 : chkFn Go.Proofs.Tryz.prog (chkD Go.Proofs.Tryz.prog) 21 fn21 = true := by kernel_rfl
theorem ok26 : chkFn Go.Proofs.Tryz.prog (chkD Go.Proofs.Tryz.prog) 26 fn26 = true := by kernel_rfl
theorem ok35 : chkFn Go.Proofs.Tryz.prog (chkD Go.Proofs.Tryz.prog) 35 fn35 = true := by kernel_rfl
theorem ok40 : chkFn Go.Proofs.Tryz.prog (chkD Go.Proofs.Tryz.prog) 40 fn40 = true := by kernel_rfl
theorem ok46 : chkFn Go.Proofs.Tryz.prog (chkD Go.Proofs.Tryz.prog) 46 fn46 = true := by kernel_rfl
theorem ok50 : chkFn Go.Proofs.Tryz.prog (chkD Go.Proofs.Tryz.prog) 50 fn50 = true := by kernel_rfl
theorem ok65 : chkFn Go.Proofs.Tryz.prog (chkD Go.Proofs.Tryz.prog) 65 fn65 = true := by kernel_rfl
theorem ok70 : chkFn Go.Proofs.Tryz.prog (chkD Go.Proofs.Tryz.prog) 70 fn70 = true := by kernel_rfl
theorem ok79 : chkFn Go.Proofs.Tryz.prog (chkD Go.Proofs.Tryz.prog) 79 fn79 = true := by kernel_rfl
theorem ok85 : chkFn Go.Proofs.Tryz.prog (chkD Go.Proofs.Tryz.prog) 85 fn85 = true := by kernel_rfl
theorem ok89 : chkFn Go.Proofs.Tryz.prog (chkD Go.Proofs.Tryz.prog) 89 fn89 = true := by kernel_rfl
theorem ok93 : chkFn Go.Proofs.Tryz.prog (chkD Go.Proofs.Tryz.prog) 93 fn93 = true := by kernel_rfl
theorem ok111 : chkFn Go.Proofs.Tryz.prog (chkD Go.Proofs.Tryz.prog) 111 fn111 = true := by kernel_rfl
theorem ok116 : chkFn Go.Proofs.Tryz.prog (chkD Go.Proofs.Tryz.prog) 116 fn116 = true := by kernel_rfl
theorem ok131 : chkFn Go.Proofs.Tryz.prog (chkD Go.Proofs.Tryz.prog) 131 fn131 = true := by kernel_rfl
theorem ok137 : chkFn Go.Proofs.Tryz.prog (chkD Go.Proofs.Tryz.prog) 137 fn137 = true := by kernel_rfl
theorem ok147 : chkFn Go.Proofs.Tryz.prog (chkD Go.Proofs.Tryz.prog) 147 fn147 = true := by kernel_rfl
theorem ok154 : chkFn Go.Proofs.Tryz.prog (chkD Go.Proofs.Tryz.prog) 154 fn154 = true := by kernel_rfl
theorem ok160 : chkFn Go.Proofs.Tryz.prog (chkD Go.Proofs.Tryz.prog) 160 fn160 = true := by kernel_rfl
theorem ok165 : chkFn Go.Proofs.Tryz.prog (chkD Go.Proofs.Tryz.prog) 165 fn165 = true := by kernel_rfl
theorem ok206 : chkFn Go.Proofs.Tryz.prog (chkD Go.Proofs.Tryz.prog) 206 fn206 = true := by kernel_rfl
theorem ok216 : chkFn Go.Proofs.Tryz.prog (chkD Go.Proofs.Tryz.prog) 216 fn216 = true := by kernel_rfl
theorem ok221 : chkFn Go.Proofs.Tryz.prog (chkD Go.Proofs.Tryz.prog) 221 fn221 = true := by kernel_rfl
theorem ok228 : chkFn Go.Proofs.Tryz.prog (chkD Go.Proofs.Tryz.prog) 228 fn228 = true := by kernel_rfl
theorem ok243 : chkFn Go.Proofs.Tryz.prog (chkD Go.Proofs.Tryz.prog) 243 fn243 = true := by kernel_rfl
theorem ok247 : chkFn Go.Proofs.Tryz.prog (chkD Go.Proofs.Tryz.prog) 247 fn247 = true := by kernel_rfl
theorem ok283 : chkFn Go.Proofs.Tryz.prog (chkD Go.Proofs.Tryz.prog) 283 fn283 = true := by kernel_rfl
theorem ok295 : chkFn Go.Proofs.Tryz.prog (chkD Go.Proofs.Tryz.prog) 295 fn295 = true := by kernel_rfl
theorem ok334 : chkFn Go.Proofs.Tryz.prog (chkD Go.Proofs.Tryz.prog) 334 fn334 = true := by kernel_rfl
end Go.Am
