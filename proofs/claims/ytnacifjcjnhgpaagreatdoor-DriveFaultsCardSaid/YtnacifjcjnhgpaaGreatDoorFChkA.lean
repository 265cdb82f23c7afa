import Derived.Test.YtnacifjcjnhgpaaGreatDoorAmF
import Derived.Test.YtnacifjcjnhgpaaGreatDoorFCodeB
import Derived.Test.YtnacifjcjnhgpaaGreatDoorProg
import Derived.KernelRfl
set_option linter.all false
set_option maxRecDepth 100000
namespace Go.Am
open Go
theorem ok3 : chkFn Go.Proofs.Tryz.prog (chkD Go.Proofs.Tryz.prog) 3 fn3 = true := by kernel_rfl
theorem ok14 : chkFn Go.Proofs.Tryz.prog (chkD Go.Proofs.Tryz.prog) 14 fn14 = true := by kernel_rfl
theorem ok19 : chkFn Go.Proofs.Tryz.prog (chkD Go.Proofs.Tryz.prog) 19 fn19 = true := by kernel_rfl
theorem ok24 : chkFn Go.Proofs.Tryz.prog (chkD Go.Proofs.Tryz.prog) 24 fn24 = true := by kernel_rfl
theorem ok30 : chkFn Go.Proofs.Tryz.prog (chkD Go.Proofs.Tryz.prog) 30 fn30 = true := by kernel_rfl
theorem ok36 : chkFn Go.Proofs.Tryz.prog (chkD Go.Proofs.Tryz.prog) 36 fn36 = true := by kernel_rfl
theorem ok40 : chkFn Go.Proofs.Tryz.prog (chkD Go.Proofs.Tryz.prog) 40 fn40 = true := by kernel_rfl
theorem ok50 : chkFn Go.Proofs.Tryz.prog (chkD Go.Proofs.Tryz.prog) 50 fn50 = true := by kernel_rfl
theorem ok54 : chkFn Go.Proofs.Tryz.prog (chkD Go.Proofs.Tryz.prog) 54 fn54 = true := by kernel_rfl
theorem ok60 : chkFn Go.Proofs.Tryz.prog (chkD Go.Proofs.Tryz.prog) 60 fn60 = true := by kernel_rfl
theorem ok69 : chkFn Go.Proofs.Tryz.prog (chkD Go.Proofs.Tryz.prog) 69 fn69 = true := by kernel_rfl
theorem ok73 : chkFn Go.Proofs.Tryz.prog (chkD Go.Proofs.Tryz.prog) 73 fn73 = true := by kernel_rfl
theorem ok77 : chkFn Go.Proofs.Tryz.prog (chkD Go.Proofs.Tryz.prog) 77 fn77 = true := by kernel_rfl
theorem ok91 : chkFn Go.Proofs.Tryz.prog (chkD Go.Proofs.Tryz.prog) 91 fn91 = true := by kernel_rfl
theorem ok96 : chkFn Go.Proofs.Tryz.prog (chkD Go.Proofs.Tryz.prog) 96 fn96 = true := by kernel_rfl
theorem ok105 : chkFn Go.Proofs.Tryz.prog (chkD Go.Proofs.Tryz.prog) 105 fn105 = true := by kernel_rfl
theorem ok114 : chkFn Go.Proofs.Tryz.prog (chkD Go.Proofs.Tryz.prog) 114 fn114 = true := by kernel_rfl
theorem ok121 : chkFn Go.Proofs.Tryz.prog (chkD Go.Proofs.Tryz.prog) 121 fn121 = true := by kernel_rfl
theorem ok127 : chkFn Go.Proofs.Tryz.prog (chkD Go.Proofs.Tryz.prog) 127 fn127 = true := by kernel_rfl
theorem ok132 : chkFn Go.Proofs.Tryz.prog (chkD Go.Proofs.Tryz.prog) 132 fn132 = true := by kernel_rfl
theorem ok136 : chkFn Go.Proofs.Tryz.prog (chkD Go.Proofs.Tryz.prog) 136 fn136 = true := by kernel_rfl
theorem ok157 : chkFn Go.Proofs.Tryz.prog (chkD Go.Proofs.Tryz.prog) 157 fn157 = true := by kernel_rfl
theorem ok161 : chkFn Go.Proofs.Tryz.prog (chkD Go.Proofs.Tryz.prog) 161 fn161 = true := by kernel_rfl
theorem ok176 : chkFn Go.Proofs.Tryz.prog (chkD Go.Proofs.Tryz.prog) 176 fn176 = true := by kernel_rfl
theorem ok186 : chkFn Go.Proofs.Tryz.prog (chkD Go.Proofs.Tryz.prog) 186 fn186 = true := by kernel_rfl
theorem ok191 : chkFn Go.Proofs.Tryz.prog (chkD Go.Proofs.Tryz.prog) 191 fn191 = true := by kernel_rfl
theorem ok196 : chkFn Go.Proofs.Tryz.prog (chkD Go.Proofs.Tryz.prog) 196 fn196 = true := by kernel_rfl
theorem ok201 : chkFn Go.Proofs.Tryz.prog (chkD Go.Proofs.Tryz.prog) 201 fn201 = true := by kernel_rfl
theorem ok206 : chkFn Go.Proofs.Tryz.prog (chkD Go.Proofs.Tryz.prog) 206 fn206 = true := by kernel_rfl
theorem ok217 : chkFn Go.Proofs.Tryz.prog (chkD Go.Proofs.Tryz.prog) 217 fn217 = true := by kernel_rfl
theorem ok226 : chkFn Go.Proofs.Tryz.prog (chkD Go.Proofs.Tryz.prog) 226 fn226 = true := by kernel_rfl
theorem ok250 : chkFn Go.Proofs.Tryz.prog (chkD Go.Proofs.Tryz.prog) 250 fn250 = true := by kernel_rfl
theorem ok264 : chkFn Go.Proofs.Tryz.prog (chkD Go.Proofs.Tryz.prog) 264 fn264 = true := by kernel_rfl
theorem ok271 : chkFn Go.Proofs.Tryz.prog (chkD Go.Proofs.Tryz.prog) 271 fn271 = true := by kernel_rfl
theorem ok276 : chkFn Go.Proofs.Tryz.prog (chkD Go.Proofs.Tryz.prog) 276 fn276 = true := by kernel_rfl
theorem ok284 : chkFn Go.Proofs.Tryz.prog (chkD Go.Proofs.Tryz.prog) 284 fn284 = true := by kernel_rfl
theorem ok300 : chkFn Go.Proofs.Tryz.prog (chkD Go.Proofs.Tryz.prog) 300 fn300 = true := by kernel_rfl
theorem ok341 : chkFn Go.Proofs.Tryz.prog (chkD Go.Proofs.Tryz.prog) 341 fn341 = true := by kernel_rfl
end Go.Am
set_option maxRecDepth 100000
namespace Go.Am
open Go
theorem ok8 : chkFn Go.Proofs.Tryz.prog (chkD Go.Proofs.Tryz.prog) 8 fn8 = true := by kernel_rfl
theorem ok15 : chkFn Go.Proofs.Tryz.prog (chkD Go.Proofs.Tryz.prog) 15 fn15 = true := by kernel_rfl
theorem ok20 : chkFn Go.Proofs.Tryz.prog (chkD Go.Proofs.Tryz.prog) 20 fn20 = true := by kernel_rfl
theorem ok25 : chkFn Go.Proofs.Tryz.prog (chkD Go.Proofs.Tryz.prog) 25 fn25 = true := by kernel_rfl
theorem ok33 : chkFn Go.Proofs.Tryz.prog (chkD Go.Proofs.Tryz.prog) 33 fn33 = true := by kernel_rfl
theorem ok37 : chkFn Go.Proofs.Tryz.prog (chkD Go.Proofs.Tryz.prog) 37 fn37 = true := by kernel_rfl
theorem ok46 : chkFn Go.Proofs.Tryz.prog (chkD Go.Proofs.Tryz.prog) 46 fn46 = true := by kernel_rfl
theorem ok51 : chkFn Go.Proofs.Tryz.prog (chkD Go.Proofs.Tryz.prog) 51 fn51 = true := by kernel_rfl
theorem ok55 : chkFn Go.Proofs.Tryz.prog (chkD Go.Proofs.Tryz.prog) 55 fn55 = true := by kernel_rfl
theorem ok64 : chkFn Go.Proofs.Tryz.prog (chkD Go.Proofs.Tryz.prog) 64 fn64 = true := by kernel_rfl
theorem ok70 : chkFn Go.Proofs.Tryz.prog (chkD Go.Proofs.Tryz.prog) 70 fn70 = true := by kernel_rfl
theorem ok74 : chkFn Go.Proofs.Tryz.prog (chkD Go.Proofs.Tryz.prog) 74 fn74 = true := by kernel_rfl
theorem ok78 : chkFn Go.Proofs.Tryz.prog (chkD Go.Proofs.Tryz.prog) 78 fn78 = true := by kernel_rfl
theorem ok92 : chkFn Go.Proofs.Tryz.prog (chkD Go.Proofs.Tryz.prog) 92 fn92 = true := by kernel_rfl
theorem ok97 : chkFn Go.Proofs.Tryz.prog (chkD Go.Proofs.Tryz.prog) 97 fn97 = true := by kernel_rfl
theorem ok109 : chkFn Go.Proofs.Tryz.prog (chkD Go.Proofs.Tryz.prog) 109 fn109 = true := by kernel_rfl
theorem ok115 : chkFn Go.Proofs.Tryz.prog (chkD Go.Proofs.Tryz.prog) 115 fn115 = true := by kernel_rfl
theorem ok123 : chkFn Go.Proofs.Tryz.prog (chkD Go.Proofs.Tryz.prog) 123 fn123 = true := by kernel_rfl
theorem ok129 : chkFn Go.Proofs.Tryz.prog (chkD Go.Proofs.Tryz.prog) 129 fn129 = true := by kernel_rfl
theorem ok133 : chkFn Go.Proofs.Tryz.prog (chkD Go.Proofs.Tryz.prog) 133 fn133 = true := by kernel_rfl
theorem ok140 : chkFn Go.Proofs.Tryz.prog (chkD Go.Proofs.Tryz.prog) 140 fn140 = true := by kernel_rfl
theorem ok158 : chkFn Go.Proofs.Tryz.prog (chkD Go.Proofs.Tryz.prog) 158 fn158 = true := by kernel_rfl
theorem ok162 : chkFn Go.Proofs.Tryz.prog (chkD Go.Proofs.Tryz.prog) 162 fn162 = true := by kernel_rfl
theorem ok177 : chkFn Go.Proofs.Tryz.prog (chkD Go.Proofs.Tryz.prog) 177 fn177 = true := by kernel_rfl
theorem ok187 : chkFn Go.Proofs.Tryz.prog (chkD Go.Proofs.Tryz.prog) 187 fn187 = true := by kernel_rfl
theorem ok192 : chkFn Go.Proofs.Tryz.prog (chkD Go.Proofs.Tryz.prog) 192 fn192 = true := by kernel_rfl
theorem ok198 : chkFn Go.Proofs.Tryz.prog (chkD Go.Proofs.Tryz.prog) 198 fn198 = true := by kernel_rfl
theorem ok202 : chkFn Go.Proofs.Tryz.prog (chkD Go.Proofs.Tryz.prog) 202 fn202 = true := by kernel_rfl
theorem ok212 : chkFn Go.Proofs.Tryz.prog (chkD Go.Proofs.Tryz.prog) 212 fn212 = true := by kernel_rfl
theorem ok218 : chkFn Go.Proofs.Tryz.prog (chkD Go.Proofs.Tryz.prog) 218 fn218 = true := by kernel_rfl
theorem ok227 : chkFn Go.Proofs.Tryz.prog (chkD Go.Proofs.Tryz.prog) 227 fn227 = true := by kernel_rfl
theorem ok252 : chkFn Go.Proofs.Tryz.prog (chkD Go.Proofs.Tryz.prog) 252 fn252 = true := by kernel_rfl
theorem ok266 : chkFn Go.Proofs.Tryz.prog (chkD Go.Proofs.Tryz.prog) 266 fn266 = true := by kernel_rfl
theorem ok272 : chkFn Go.Proofs.Tryz.prog (chkD Go.Proofs.Tryz.prog) 272 fn272 = true := by kernel_rfl
theorem ok277 : chkFn Go.Proofs.Tryz.prog (chkD Go.Proofs.Tryz.prog) 277 fn277 = true := by kernel_rfl
theorem ok285 : chkFn Go.Proofs.Tryz.prog (chkD Go.Proofs.Tryz.prog) 285 fn285 = true := by kernel_rfl
theorem ok302 : chkFn Go.Proofs.Tryz.prog (chkD Go.Proofs.Tryz.prog) 302 fn302 = true := by kernel_rfl
theorem ok362 : chkFn Go.Proofs.Tryz.prog (chkD Go.Proofs.Tryz.prog) 362 fn362 = true := by kernel_rfl
end Go.Am
