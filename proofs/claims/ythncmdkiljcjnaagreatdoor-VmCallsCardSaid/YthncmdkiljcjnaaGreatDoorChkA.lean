import Derived.Test.YthncmdkiljcjnaaGreatDoorAmF
import Derived.Test.YthncmdkiljcjnaaGreatDoorCodeT
import Derived.Test.YthncmdkiljcjnaaGreatDoorProg
import Derived.KernelRfl
set_option linter.all false
set_option maxRecDepth 100000
namespace Go.Am
open Go
theorem ok3 : chkFn Go.Proofs.Tryz.prog (chkD Go.Proofs.Tryz.prog) 3 fn3 = true := by kernel_rfl
theorem ok7 : chkFn Go.Proofs.Tryz.prog (chkD Go.Proofs.Tryz.prog) 7 fn7 = true := by kernel_rfl
theorem ok11 : chkFn Go.Proofs.Tryz.prog (chkD Go.Proofs.Tryz.prog) 11 fn11 = true := by kernel_rfl
theorem ok15 : chkFn Go.Proofs.Tryz.prog (chkD Go.Proofs.Tryz.prog) 15 fn15 = true := by kernel_rfl
theorem ok19 : chkFn Go.Proofs.Tryz.prog (chkD Go.Proofs.Tryz.prog) 19 fn19 = true := by kernel_rfl
theorem ok23 : chkFn Go.Proofs.Tryz.prog (chkD Go.Proofs.Tryz.prog) 23 fn23 = true := by kernel_rfl
theorem ok27 : chkFn Go.Proofs.Tryz.prog (chkD Go.Proofs.Tryz.prog) 27 fn27 = true := by kernel_rfl
theorem ok31 : chkFn Go.Proofs.Tryz.prog (chkD Go.Proofs.Tryz.prog) 31 fn31 = true := by kernel_rfl
theorem ok36 : chkFn Go.Proofs.Tryz.prog (chkD Go.Proofs.Tryz.prog) 36 fn36 = true := by kernel_rfl
theorem ok40 : chkFn Go.Proofs.Tryz.prog (chkD Go.Proofs.Tryz.prog) 40 fn40 = true := by kernel_rfl
theorem ok44 : chkFn Go.Proofs.Tryz.prog (chkD Go.Proofs.Tryz.prog) 44 fn44 = true := by kernel_rfl
theorem ok48 : chkFn Go.Proofs.Tryz.prog (chkD Go.Proofs.Tryz.prog) 48 fn48 = true := by kernel_rfl
theorem ok52 : chkFn Go.Proofs.Tryz.prog (chkD Go.Proofs.Tryz.prog) 52 fn52 = true := by kernel_rfl
theorem ok56 : chkFn Go.Proofs.Tryz.prog (chkD Go.Proofs.Tryz.prog) 56 fn56 = true := by kernel_rfl
theorem ok60 : chkFn Go.Proofs.Tryz.prog (chkD Go.Proofs.Tryz.prog) 60 fn60 = true := by kernel_rfl
theorem ok64 : chkFn Go.Proofs.Tryz.prog (chkD Go.Proofs.Tryz.prog) 64 fn64 = true := by kernel_rfl
theorem ok68 : chkFn Go.Proofs.Tryz.prog (chkD Go.Proofs.Tryz.prog) 68 fn68 = true := by kernel_rfl
theorem ok72 : chkFn Go.Proofs.Tryz.prog (chkD Go.Proofs.Tryz.prog) 72 fn72 = true := by kernel_rfl
theorem ok76 : chkFn Go.Proofs.Tryz.prog (chkD Go.Proofs.Tryz.prog) 76 fn76 = true := by kernel_rfl
theorem ok80 : chkFn Go.Proofs.Tryz.prog (chkD Go.Proofs.Tryz.prog) 80 fn80 = true := by kernel_rfl
theorem ok84 : chkFn Go.Proofs.Tryz.prog (chkD Go.Proofs.Tryz.prog) 84 fn84 = true := by kernel_rfl
theorem ok89 : chkFn Go.Proofs.Tryz.prog (chkD Go.Proofs.Tryz.prog) 89 fn89 = true := by kernel_rfl
theorem ok93 : chkFn Go.Proofs.Tryz.prog (chkD Go.Proofs.Tryz.prog) 93 fn93 = true := by kernel_rfl
theorem ok97 : chkFn Go.Proofs.Tryz.prog (chkD Go.Proofs.Tryz.prog) 97 fn97 = true := by kernel_rfl
theorem ok101 : chkFn Go.Proofs.Tryz.prog (chkD Go.Proofs.Tryz.prog) 101 fn101 = true := by kernel_rfl
theorem ok105 : chkFn Go.Proofs.Tryz.prog (chkD Go.Proofs.Tryz.prog) 105 fn105 = true := by kernel_rfl
theorem ok109 : chkFn Go.Proofs.Tryz.prog (chkD Go.Proofs.Tryz.prog) 109 fn109 = true := by kernel_rfl
theorem ok113 : chkFn Go.Proofs.Tryz.prog (chkD Go.Proofs.Tryz.prog) 113 fn113 = true := by kernel_rfl
theorem ok117 : chkFn Go.Proofs.Tryz.prog (chkD Go.Proofs.Tryz.prog) 117 fn117 = true := by kernel_rfl
theorem ok125 : chkFn Go.Proofs.Tryz.prog (chkD Go.Proofs.Tryz.prog) 125 fn125 = true := by kernel_rfl
theorem ok129 : chkFn Go.Proofs.Tryz.prog (chkD Go.Proofs.Tryz.prog) 129 fn129 = true := by kernel_rfl
theorem ok133 : chkFn Go.Proofs.Tryz.prog (chkD Go.Proofs.Tryz.prog) 133 fn133 = true := by kernel_rfl
theorem ok137 : chkFn Go.Proofs.Tryz.prog (chkD Go.Proofs.Tryz.prog) 137 fn137 = true := by kernel_rfl
theorem ok141 : chkFn Go.Proofs.Tryz.prog (chkD Go.Proofs.Tryz.prog) 141 fn141 = true := by kernel_rfl
theorem ok145 : chkFn Go.Proofs.Tryz.prog (chkD Go.Proofs.Tryz.prog) 145 fn145 = true := by kernel_rfl
theorem ok149 : chkFn Go.Proofs.Tryz.prog (chkD Go.Proofs.Tryz.prog) 149 fn149 = true := by kernel_rfl
theorem ok153 : chkFn Go.Proofs.Tryz.prog (chkD Go.Proofs.Tryz.prog) 153 fn153 = true := by kernel_rfl
theorem ok158 : chkFn Go.Proofs.Tryz.prog (chkD Go.Proofs.Tryz.prog) 158 fn158 = true := by kernel_rfl
theorem ok162 : chkFn Go.Proofs.Tryz.prog (chkD Go.Proofs.Tryz.prog) 162 fn162 = true := by kernel_rfl
theorem ok166 : chkFn Go.Proofs.Tryz.prog (chkD Go.Proofs.Tryz.prog) 166 fn166 = true := by kernel_rfl
theorem ok170 : chkFn Go.Proofs.Tryz.prog (chkD Go.Proofs.Tryz.prog) 170 fn170 = true := by kernel_rfl
theorem ok174 : chkFn Go.Proofs.Tryz.prog (chkD Go.Proofs.Tryz.prog) 174 fn174 = true := by kernel_rfl
theorem ok178 : chkFn Go.Proofs.Tryz.prog (chkD Go.Proofs.Tryz.prog) 178 fn178 = true := by kernel_rfl
theorem ok182 : chkFn Go.Proofs.Tryz.prog (chkD Go.Proofs.Tryz.prog) 182 fn182 = true := by kernel_rfl
theorem ok186 : chkFn Go.Proofs.Tryz.prog (chkD Go.Proofs.Tryz.prog) 186 fn186 = true := by kernel_rfl
theorem ok190 : chkFn Go.Proofs.Tryz.prog (chkD Go.Proofs.Tryz.prog) 190 fn190 = true := by kernel_rfl
theorem ok194 : chkFn Go.Proofs.Tryz.prog (chkD Go.Proofs.Tryz.prog) 194 fn194 = true := by kernel_rfl
theorem ok198 : chkFn Go.Proofs.Tryz.prog (chkD Go.Proofs.Tryz.prog) 198 fn198 = true := by kernel_rfl
theorem ok202 : chkFn Go.Proofs.Tryz.prog (chkD Go.Proofs.Tryz.prog) 202 fn202 = true := by kernel_rfl
theorem ok206 : chkFn Go.Proofs.Tryz.prog (chkD Go.Proofs.Tryz.prog) 206 fn206 = true := by kernel_rfl
theorem ok210 : chkFn Go.Proofs.Tryz.prog (chkD Go.Proofs.Tryz.prog) 210 fn210 = true := by kernel_rfl
theorem ok214 : chkFn Go.Proofs.Tryz.prog (chkD Go.Proofs.Tryz.prog) 214 fn214 = true := by kernel_rfl
theorem ok218 : chkFn Go.Proofs.Tryz.prog (chkD Go.Proofs.Tryz.prog) 218 fn218 = true := by kernel_rfl
theorem ok222 : chkFn Go.Proofs.Tryz.prog (chkD Go.Proofs.Tryz.prog) 222 fn222 = true := by kernel_rfl
theorem ok226 : chkFn Go.Proofs.Tryz.prog (chkD Go.Proofs.Tryz.prog) 226 fn226 = true := by kernel_rfl
theorem ok230 : chkFn Go.Proofs.Tryz.prog (chkD Go.Proofs.Tryz.prog) 230 fn230 = true := by kernel_rfl
theorem ok234 : chkFn Go.Proofs.Tryz.prog (chkD Go.Proofs.Tryz.prog) 234 fn234 = true := by kernel_rfl
theorem ok238 : chkFn Go.Proofs.Tryz.prog (chkD Go.Proofs.Tryz.prog) 238 fn238 = true := by kernel_rfl
theorem ok242 : chkFn Go.Proofs.Tryz.prog (chkD Go.Proofs.Tryz.prog) 242 fn242 = true := by kernel_rfl
theorem ok246 : chkFn Go.Proofs.Tryz.prog (chkD Go.Proofs.Tryz.prog) 246 fn246 = true := by kernel_rfl
theorem ok250 : chkFn Go.Proofs.Tryz.prog (chkD Go.Proofs.Tryz.prog) 250 fn250 = true := by kernel_rfl
theorem ok254 : chkFn Go.Proofs.Tryz.prog (chkD Go.Proofs.Tryz.prog) 254 fn254 = true := by kernel_rfl
theorem ok259 : chkFn Go.Proofs.Tryz.prog (chkD Go.Proofs.Tryz.prog) 259 fn259 = true := by kernel_rfl
theorem ok266 : chkFn Go.Proofs.Tryz.prog (chkD Go.Proofs.Tryz.prog) 266 fn266 = true := by kernel_rfl
theorem ok270 : chkFn Go.Proofs.Tryz.prog (chkD Go.Proofs.Tryz.prog) 270 fn270 = true := by kernel_rfl
theorem ok274 : chkFn Go.Proofs.Tryz.prog (chkD Go.Proofs.Tryz.prog) 274 fn274 = true := by kernel_rfl
theorem ok278 : chkFn Go.Proofs.Tryz.prog (chkD Go.Proofs.Tryz.prog) 278 fn278 = true := by kernel_rfl
theorem ok282 : chkFn Go.Proofs.Tryz.prog (chkD Go.Proofs.Tryz.prog) 282 fn282 = true := by kernel_rfl
theorem ok291 : chkFn Go.Proofs.Tryz.prog (chkD Go.Proofs.Tryz.prog) 291 fn291 = true := by kernel_rfl
theorem ok295 : chkFn Go.Proofs.Tryz.prog (chkD Go.Proofs.Tryz.prog) 295 fn295 = true := by kernel_rfl
theorem ok299 : chkFn Go.Proofs.Tryz.prog (chkD Go.Proofs.Tryz.prog) 299 fn299 = true := by kernel_rfl
theorem ok303 : chkFn Go.Proofs.Tryz.prog (chkD Go.Proofs.Tryz.prog) 303 fn303 = true := by kernel_rfl
theorem ok312 : chkFn Go.Proofs.Tryz.prog (chkD Go.Proofs.Tryz.prog) 312 fn312 = true := by kernel_rfl
end Go.Am
